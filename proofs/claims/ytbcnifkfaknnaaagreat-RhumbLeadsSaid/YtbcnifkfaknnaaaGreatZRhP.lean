/- The meridional parts of a latitude, by the program: Parts. -/
import Derived.Test.YtbcnifkfaknnaaaGreatZRhI
import Derived.Test.YtbcnifkfaknnaaaGreatZRn7
import Derived.Test.YtbcnifkfaknnaaaGreatZEv
import Derived.Test.YtbcnifkfaknnaaaGreatZSpE
set_option linter.unusedVariables false
set_option linter.unusedSimpArgs false
set_option maxRecDepth 100000
namespace Alm
def prL (n:Int):Int:=if n=0 then 0 else if n<0 then -((wpN n.natAbs:Nat):Int)-1 else ((wpN n.natAbs:Nat):Int)
def prH (n:Int):Int:=if n=0 then 0 else if n<0 then -((wpN n.natAbs:Nat):Int) else ((wpN n.natAbs:Nat):Int)+1
theorem Zh (g P Q:Nat) (b:g<=30*Q) (p:3*Q<=P):g*10800000<=P*108000000:=by omega
theorem Y9:3*QA<=PiA:=by unfold PiA QA;decide +kernel
theorem RU (n:Nat) (h:n<=5340000):wpN n<=108000000:=by
 have k:=lY n h;rw [k.2.2.1];exact Nat.div_le_of_le_mul (Zh _ _ _ k.2.2.2.1 Y9)
theorem PQ:wpN 0=0:=Yj
theorem NE (n:Nat) (h:n<=5340000):n<=wpN n:=by
 have:=GZ n 0 (by omega)
 rw [PQ,Nat.zero_add] at this;exact this
theorem RB (m n:Nat) (h:m<=n) (hn:n<=5340000):wpN m+(n-m)<=wpN n:=by
 have:=GZ (n-m) m (by omega)
 rw [show m+(n-m)=n by omega] at this
 exact this
theorem iH (n:Int) (h:-5340000<=n/\n<=5340000):-110000000<=prL n/\prL n<=prH n/\prH n<=prL n+1/\prH n<=110000000:=by
 have:=RU n.natAbs (by omega)
 unfold prL prH;generalize wpN n.natAbs=x at *
 refine ⟨?_,?_,?_,?_⟩<;>(repeat' split)<;>omega
theorem nZ (n m:Int) (h:-5340000<=n) (h0:0<=m) (h1:n+m<=5340000):m<=prL (n+m)-prL n/\m<=prH (n+m)-prH n:=by
 unfold prL prH
 by_cases a:n<0
 . by_cases b:n+m<0
   . have l:=RB (n+m).natAbs n.natAbs (by omega) (by omega)
     rw [if_neg (show ¬ n+m=0 by omega),if_pos b,if_neg (show ¬ n=0 by omega),if_pos a,if_neg (show ¬ n+m=0 by omega),if_pos b,if_neg (show ¬ n=0 by omega),if_pos a]
     generalize wpN n.natAbs=x at *
     generalize wpN (n+m).natAbs=y at *
     omega
   . have g1:=NE n.natAbs (by omega)
     have g2:=NE (n+m).natAbs (by omega)
     generalize wpN n.natAbs=x at *
     generalize wpN (n+m).natAbs=y at *
     rw [if_neg (show ¬ n=0 by omega),if_pos a,if_neg (show ¬ n=0 by omega),if_pos a]
     constructor<;>(repeat' split)<;>omega
 . by_cases z:n=0
   . have g2:=NE (n+m).natAbs (by omega)
     generalize wpN (n+m).natAbs=y at *
     rw [if_pos z,if_pos z]
     constructor<;>(repeat' split)<;>omega
   . have l:=RB n.natAbs (n+m).natAbs (by omega) (by omega)
     generalize wpN n.natAbs=x at *
     generalize wpN (n+m).natAbs=y at *
     rw [if_neg z,if_neg a,if_neg z,if_neg a]
     constructor<;>(repeat' split)<;>omega
end Alm
namespace Go.Proofs.YtbcnifkfaknnaaaGreat
open Go.RowKit Alm Sx
def kWh (f:Nat):Bool:=f==98
def Rt:Nat->List Int->List Int
 | 98,[n]=>[((wpN n.toNat:Nat):Int)]
 | _,_=>[]
def RL:Nat->List Int->Prop
 | 98,[n]=>0<=n/\n<=5340000
 | _,_=>False
def Xm (args:List Int):Cx:=(cxE args).plus kWh Rt RL
def R3:Sx.Spec:=⟨33,98,[(false,[some .i64])],[(false,[some .i64])]⟩
theorem KU (args:List Int):∀ s∈[R3],bR Tryz.prog (Xm args) s:=by
 intro s hs;simp only [List.mem_cons,List.not_mem_nil,or_false] at hs;subst hs;refine iq rfl (ours _ _ _ Tryz.func33 rfl (by kernel_rfl)) fun xs hp w=>?_
 match xs,hp with
 | [n],hp =>
  obtain ⟨m,rfl⟩:=Int.eq_ofNat_of_zero_le hp.1;exact QQ m (by have:=hp.2;omega) (lY m (by have:=hp.2;omega)).1 w
theorem jO {x y z:Int} (h:z=if y>x then y else x):z=max x y:=by split at h<;>omega
def xZ:List Nd:=[
 .arg 0,
 .bin .geq .i64 (.n 0) (.c (-5340000)),
 .bin .leq .i64 (.n 0) (.c 5340000),
 .ite (.n 1) (.n 2) (.c 0),
 .ite (.n 3) (.c 0) (.c 1),
 .bin .sub .i64 (.c 0) (.n 0),
 .mx (.n 0) (.n 5),
 .app 98 0 [.n 6],
 .bin .eql .i64 (.n 0) (.c 0),
 .bin .lss .i64 (.n 0) (.c 0),
 .bin .sub .i64 (.c 0) (.n 7),
 .bin .sub .i64 (.n 10) (.c 1),
 .bin .add .i64 (.n 7) (.c 1),
 .ite (.n 9) (.c 0) (.c 1),
 .ite (.n 9) (.n 11) (.n 7),
 .ite (.n 9) (.n 10) (.n 12),
 .ite (.n 8) (.c 0) (.c 1),
 .ite (.n 8) (.c 0) (.n 14),
 .ite (.n 8) (.c 0) (.n 15),
 .ite (.n 4) (.c 2) (.c 0),
 .ite (.n 4) (.c 0) (.n 17),
 .ite (.n 4) (.c 0) (.n 18)]
def JH:List Vc:=[
 ⟨[(.n 3,true)],.pre 98 [.n 6]⟩]
theorem Jh:whole Tryz.prog [R3] 20 40 10 [(false,[some .i64])]=some (.tup [.agg [.int .i64 (.n 20),.int .i64 (.n 21)],.c (.int .i64 (.n 19))],⟨xZ.reverse,JH.reverse⟩):=by kernel_rfl
theorem Ju:wfN xZ.reverse=true:=by kernel_rfl
theorem O9 (n:Int) (w:World) (h:-5340000<=n/\n<=5340000):Calls Tryz.prog 10 #[.int .i64 n] w fun e w'=>e=.returned (.tuple #[.agg #[.int .i64 (prL n),.int .i64 (prH n)],.int .i64 0])/\Below w.heap.size w w':=by
 refine Sx.calls (X:=Xm [n]) jc (KU _) Jh Ju (fun v hs=>?_) w
 have e0:v 0=n:=ag hs 0 rfl;have e1:v 1=b2i (decide (v 0>=(-5340000:Int))):=ag hs 1 rfl;have e2:v 2=b2i (decide (v 0<=(5340000:Int))):=ag hs 2 rfl;have e3:v 3=if v 1≠0 then v 2 else (0:Int):=ag hs 3 rfl
 have e4:v 4=if v 3≠0 then (0:Int) else (1:Int):=ag hs 4 rfl
 have e5:v 5=IntKind.i64.wrap ((0:Int)-v 0):=ag hs 5 rfl;have e6:v 6=if v 5>v 0 then v 5 else v 0:=ag hs 6 rfl
 have e7:v 7=(Rt 98 [v 6]).getD 0 0:=ag hs 7 rfl;have e8:v 8=b2i (v 0==(0:Int)):=ag hs 8 rfl;have e9:v 9=b2i (decide (v 0<(0:Int))):=ag hs 9 rfl;have e10:v 10=IntKind.i64.wrap ((0:Int)-v 7):=ag hs 10 rfl;have e11:v 11=IntKind.i64.wrap (v 10-(1:Int)):=ag hs 11 rfl;have e12:v 12=IntKind.i64.wrap (v 7+(1:Int)):=ag hs 12 rfl;have e13:v 13=if v 9≠0 then (0:Int) else (1:Int):=ag hs 13 rfl
 have e14:v 14=if v 9≠0 then v 11 else v 7:=ag hs 14 rfl
 have e15:v 15=if v 9≠0 then v 10 else v 12:=ag hs 15 rfl
 have e16:v 16=if v 8≠0 then (0:Int) else (1:Int):=ag hs 16 rfl
 have e17:v 17=if v 8≠0 then (0:Int) else v 14:=ag hs 17 rfl
 have e18:v 18=if v 8≠0 then (0:Int) else v 15:=ag hs 18 rfl
 have e19:v 19=if v 4≠0 then (2:Int) else (0:Int):=ag hs 19 rfl
 have e20:v 20=if v 4≠0 then (0:Int) else v 17:=ag hs 20 rfl
 have e21:v 21=if v 4≠0 then (0:Int) else v 18:=ag hs 21 rfl
 have a3:v 3=1:=by rw [e3,e1,e2,e0,decide_eq_true h.1,decide_eq_true h.2];rfl
 have a4:v 4=0:=by rw [e4,a3];rfl
 have a5:v 5=-n:=by rw [e5,e0,Go.IntWalk.i64_in _ (by omega)];omega
 have a6:v 6=max n (-n):=by rw [<-e0,show -v 0=v 5 by rw [a5,e0]];exact jO e6
 have P0:RL 98 [v 6]:=by show 0<=v 6/\v 6<=5340000;omega
 have a7:v 7=((wpN n.natAbs:Nat):Int):=by
  have x:v 7=((wpN (v 6).toNat:Nat):Int):=e7;rw [x,show (v 6).toNat=n.natAbs by omega]
 have wb:=RU n.natAbs (by omega)
 have a10:v 10=-((wpN n.natAbs:Nat):Int):=by rw [e10,a7,Go.IntWalk.i64_in _ (by omega)];omega
 have a11:v 11=-((wpN n.natAbs:Nat):Int)-1:=by rw [e11,a10,Go.IntWalk.i64_in _ (by omega)]
 have a12:v 12=((wpN n.natAbs:Nat):Int)+1:=by rw [e12,a7,Go.IntWalk.i64_in _ (by omega)]
 have a19:v 19=0:=by rw [e19,a4];rfl
 have a20:v 20=prL n:=by
  rw [e20,a4,e17,e8,e14,e9,e0,a11,a7];unfold prL
  by_cases z:n=0
  . simp [z,b2i]
  . by_cases z2:n<0<;>simp [z,z2,b2i]
 have a21:v 21=prH n:=by
  rw [e21,a4,e18,e8,e15,e9,e0,a10,a12];unfold prH
  by_cases z:n=0
  . simp [z,b2i]
  . by_cases z2:n<0<;>simp [z,z2,b2i]
 refine ⟨gT ?_,?_⟩
 . exact aA (fun _=>P0) (gM)
 . intro x hx0;have hx':=gP (v:=v) (by rfl) hx0
   rw [hx'];show Value.tuple #[.agg #[.int .i64 (v 20),.int .i64 (v 21)],.int .i64 (v 19)]=_;rw [a19,a20,a21]
def kPt (f:Nat):Bool:=f==99
def fP:Nat->List Int->List Int
 | 99,[n]=>[prL n,prH n,0]
 | _,_=>[]
def Gy:Nat->List Int->Prop
 | 99,[n]=>-5340000<=n/\n<=5340000
 | _,_=>False
def Cn (args:List Int):Cx:=(cxE args).plus kPt fP Gy
def KQ:Sx.Spec:=⟨10,99,[(false,[some .i64])],[(true,[some .i64,some .i64]),(false,[some .i64])]⟩
theorem DR (args:List Int):bR Tryz.prog (Cn args) KQ:=by
 refine iq rfl (ours _ _ _ Tryz.func10 rfl (by kernel_rfl)) fun xs hp w=>?_
 match xs,hp with
 | [n],hp=>exact O9 n w hp
def Fy:Nat->List Int->Bool
 | 99,[n]=>decide (-5340000<=n/\n<=5340000)
 | f,xs=>!kPt f&&Mm f xs
theorem Iq (args:List Int) (f:Nat) (xs:List Int) (h:Fy f xs=true):(Cn args).pre f xs:=by
 show if kPt f=true then Gy f xs else Fz f xs
 unfold Fy at h;split at h
 . have h1:=of_decide_eq_true h;exact ⟨h1.1,h1.2⟩
 . simp only [Bool.and_eq_true,Bool.not_eq_true'] at h;rw [if_neg (by rw [h.1];decide)]
   exact M8 _ _ h.2
def Ej:List Sx.Spec:=[UE,Rc,Ev,KQ]
theorem Ag (args:List Int):∀ s∈Ej,bR Tryz.prog (Cn args) s:=by
 intro s hs;simp only [Ej,List.mem_cons,List.not_mem_nil,or_false] at hs;rcases hs with rfl|rfl|rfl|rfl
 . exact dR rfl (Hz (by decide) (Gt args))
 . exact dR rfl (Hz (by decide) (Na args))
 . exact dR rfl (yx args)
 . exact DR args
