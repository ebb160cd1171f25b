/- The known functions of the symbolic runs of layer 43: quotients, arcsines. -/
import Derived.Test.YtmldbeipmappnaaZSp
import Derived.Test.YtmldbeipmappnaaZSides
import Derived.Test.YtmldbeipmappnaaZSxL
import Derived.IntWalk
set_option linter.unusedVariables false
set_option linter.unusedSimpArgs false
set_option maxRecDepth 100000
namespace Go.Proofs.Ytmldbeipmappnaa
open Go.RowKit Alm Sx
def yU (a b:Int):Int:=if b<a then b else a
def Ad (a b:Int):Int:=if b>a then b else a
def V9 (a b:Int):Int:=-((-a)/b)
def QD:Nat->List Int->List Int
 | 30,[a,b]=>[a/b]
 | 31,[a,b]=>[V9 a b]
 | 32,[a]=>[bC a]
 | 8,[a,b]=>[b2i (fxV a b)]
 | _,_=>[]
def VM:Nat->List Int->Prop
 | 30,[a,b]=>(-4611686018427387904<=a/\a<=4611686018427387904)/\0<b/\b<=4611686018427387904
 | 31,[a,b]=>(-4611686018427387904<=a/\a<=4611686018427387904)/\0<b/\b<=4611686018427387904
 | 32,[_]=>True
 | 8,[_,_]=>True
 | _,_=>False
def cxC (args:List Int):Cx:=⟨QD,VM,args⟩
def Pn:Sx.Spec:=⟨160,30,[(false,[some .i64]),(false,[some .i64])],[(false,[some .i64])]⟩
def Vt:Sx.Spec:=⟨161,31,[(false,[some .i64]),(false,[some .i64])],[(false,[some .i64])]⟩
def Sb:Sx.Spec:=⟨134,32,[(false,[some .i64])],[(false,[some .i64])]⟩
def Im:List Sx.Spec:=[oL,Pn,Vt,Sb]
theorem Jn (args:List Int):∀ s∈Im,aL Try.prog (cxC args) s:=by
 intro s hs;simp only [Im,List.mem_cons,List.not_mem_nil,or_false] at hs;rcases hs with rfl|rfl|rfl|rfl
 . refine ⟨ours _ _ _ Try.func128 rfl (by kernel_rfl),fun xs hp w=>?_⟩
   match xs,hp with
   | [a,b],_ =>
    refine (dE a b w).mono ?_;rintro e w' ⟨he,hb⟩;exact ⟨by rw [he];exact congrArg Ending.returned (uG _).symm,hb⟩
 . refine ⟨ours _ _ _ Try.func160 rfl (by kernel_rfl),fun xs hp w=>?_⟩
   match xs,hp with
   | [a,b],hp =>
    refine (nG a b w hp.1.1 hp.1.2 hp.2.1 hp.2.2).mono ?_;rintro e w' ⟨he,hb⟩;exact ⟨he,by rw [<-hb];exact Below.refl _ _⟩
 . refine ⟨ours _ _ _ Try.func161 rfl (by kernel_rfl),fun xs hp w=>?_⟩
   match xs,hp with
   | [a,b],hp =>
    refine (yD a b w hp.1.1 hp.1.2 hp.2.1 hp.2.2).mono ?_;rintro e w' ⟨he,hb⟩;exact ⟨he,by rw [<-hb];exact Below.refl _ _⟩
 . refine ⟨ours _ _ _ Try.func134 rfl (by kernel_rfl),fun xs hp w=>?_⟩
   match xs,hp with
   | [a],hp=>exact IL a w
end Go.Proofs.Ytmldbeipmappnaa
namespace Go.Proofs.Ytmldbeipmappnaa
open Go.RowKit Alm Sx
def oP (a2:Int):Int:=5400000+bC (-(yU a2 1073741824))
def qH (a1:Int):Int:=5400000-bC (Ad a1 (-1073741824))
def Eb:List Nd:=[
 .arg 0,
 .arg 1,
 .app 8 0 [.n 0,.n 1],
 .ite (.n 2) (.c 0) (.c 1),
 .ite (.n 3) (.c 0) (.c 1),
 .mx (.n 0) (.c (-1073741824)),
 .mn (.n 1) (.c 1073741824),
 .bin .leq .i64 (.n 5) (.n 6),
 .ite (.n 7) (.c 0) (.c 1),
 .app 32 0 [.n 5],
 .bin .sub .i64 (.c 0) (.n 6),
 .app 32 0 [.n 10],
 .bin .sub .i64 (.c 0) (.n 11),
 .ite (.n 8) (.c 2) (.c 0),
 .ite (.n 8) (.c 0) (.n 9),
 .ite (.n 8) (.c 0) (.n 12),
 .ite (.n 3) (.c 1) (.n 13),
 .ite (.n 3) (.c 0) (.n 14),
 .ite (.n 3) (.c 0) (.n 15),
 .ite (.n 3) (.n 0) (.n 5),
 .ite (.n 3) (.n 1) (.n 6),
 .bin .neq .i64 (.n 16) (.c 0),
 .ite (.n 21) (.c 0) (.c 1),
 .bin .sub .i64 (.c 5400000) (.n 18),
 .bin .sub .i64 (.c 5400000) (.n 17),
 .ite (.n 21) (.n 16) (.c 0),
 .ite (.n 21) (.c 0) (.n 23),
 .ite (.n 21) (.c 0) (.n 24)]
def Nq:List Vc:=[
 ⟨[],.pre 8 [.n 0,.n 1]⟩,
 ⟨[(.n 7,true),(.n 4,true)],.pre 32 [.n 5]⟩,
 ⟨[(.n 7,true),(.n 4,true)],.pre 32 [.n 10]⟩]
theorem Nv:whole Try.prog Im 20 30 69 [(true,[some .i64,some .i64])]=some (.tup [.agg [.int .i64 (.n 26),.int .i64 (.n 27)],.c (.int .i64 (.n 25))],⟨Eb.reverse,Nq.reverse⟩):=by kernel_rfl
theorem LP:wfN Eb.reverse=true:=by kernel_rfl
theorem Hq (a1 a2:Int) (w:World) (ha:fxV a1 a2=true) (h1:a1<=1073741824) (h2:-1073741824<=a2):Calls Try.prog 69 #[.agg #[.int .i64 a1,.int .i64 a2]] w fun e w'=>e=.returned (.tuple #[.agg #[.int .i64 (oP a2),.int .i64 (qH a1)],.int .i64 0])/\Below w.heap.size w w':=by
 refine Sx.calls (X:=cxC [a1,a2]) fE (Jn _) Nv LP (fun v hs=>?_) w
 obtain ⟨ha1,ha2,ha3⟩:=(ek _ _).1 ha;have e0:v 0=a1:=ag hs 0 rfl;have e1:v 1=a2:=ag hs 1 rfl;have e2:v 2=b2i (fxV (v 0) (v 1)):=ag hs 2 rfl;have e3:v 3=if v 2≠0 then (0:Int) else (1:Int):=ag hs 3 rfl
 have e4:v 4=if v 3≠0 then (0:Int) else (1:Int):=ag hs 4 rfl
 have e5:v 5=if (-1073741824:Int)>v 0 then (-1073741824:Int) else v 0:=ag hs 5 rfl
 have e6:v 6=if (1073741824:Int)<v 1 then (1073741824:Int) else v 1:=ag hs 6 rfl
 have e7:v 7=b2i (decide (v 5<=v 6)):=ag hs 7 rfl;have e8:v 8=if v 7≠0 then (0:Int) else (1:Int):=ag hs 8 rfl
 have e9:v 9=(QD 32 [v 5]).getD 0 0:=ag hs 9 rfl;have e10:v 10=IntKind.i64.wrap ((0:Int)-v 6):=ag hs 10 rfl;have e11:v 11=(QD 32 [v 10]).getD 0 0:=ag hs 11 rfl;have e12:v 12=IntKind.i64.wrap ((0:Int)-v 11):=ag hs 12 rfl;have e13:v 13=if v 8≠0 then (2:Int) else (0:Int):=ag hs 13 rfl
 have e14:v 14=if v 8≠0 then (0:Int) else v 9:=ag hs 14 rfl
 have e15:v 15=if v 8≠0 then (0:Int) else v 12:=ag hs 15 rfl
 have e16:v 16=if v 3≠0 then (1:Int) else v 13:=ag hs 16 rfl
 have e17:v 17=if v 3≠0 then (0:Int) else v 14:=ag hs 17 rfl
 have e18:v 18=if v 3≠0 then (0:Int) else v 15:=ag hs 18 rfl
 have e19:v 19=if v 3≠0 then v 0 else v 5:=ag hs 19 rfl
 have e20:v 20=if v 3≠0 then v 1 else v 6:=ag hs 20 rfl
 have e21:v 21=b2i (v 16 != (0:Int)):=ag hs 21 rfl;have e22:v 22=if v 21≠0 then (0:Int) else (1:Int):=ag hs 22 rfl
 have e23:v 23=IntKind.i64.wrap ((5400000:Int)-v 18):=ag hs 23 rfl;have e24:v 24=IntKind.i64.wrap ((5400000:Int)-v 17):=ag hs 24 rfl;have e25:v 25=if v 21≠0 then v 16 else (0:Int):=ag hs 25 rfl
 have e26:v 26=if v 21≠0 then (0:Int) else v 23:=ag hs 26 rfl
 have e27:v 27=if v 21≠0 then (0:Int) else v 24:=ag hs 27 rfl
 have A2:v 2=(1:Int):=e2.trans (by rw [e0,e1,ha];rfl)
 have B5:v 5=Ad a1 (-1073741824):=by rw [e5,e0];rfl
 have B6:v 6=yU a2 1073741824:=by rw [e6,e1];rfl
 have R5:-1073741824<=v 5/\v 5<=1073741824/\a1<=v 5:=by rw [B5];unfold Ad;split<;>omega
 have R6:-1073741824<=v 6/\v 6<=1073741824/\v 6<=a2:=by rw [B6];unfold yU;split<;>omega
 have A7:v 7=(1:Int):=e7.trans (by rw [show decide (v 5<=v 6)=true from decide_eq_true (by rw [B5,B6];unfold Ad yU;split<;>split<;>omega)];rfl)
 have f2:v 2=(1:Int):=A2;have n3:v 3=if (1:Int)≠0 then (0:Int) else (1:Int):=e3.trans (by rw [f2])
 have f3:v 3=(0:Int):=n3.trans (if_pos (by decide))
 have f7:v 7=(1:Int):=A7;have n8:v 8=if (1:Int)≠0 then (0:Int) else (1:Int):=e8.trans (by rw [f7])
 have f8:v 8=(0:Int):=n8.trans (if_pos (by decide))
 have n13:v 13=if (0:Int)≠0 then (2:Int) else (0:Int):=e13.trans (by rw [f8])
 have f13:v 13=(0:Int):=n13.trans (if_neg (by decide))
 have n14:v 14=if (0:Int)≠0 then (0:Int) else v 9:=e14.trans (by rw [f8])
 have f14:v 14=v 9:=n14.trans (if_neg (by decide))
 have n15:v 15=if (0:Int)≠0 then (0:Int) else v 12:=e15.trans (by rw [f8])
 have f15:v 15=v 12:=n15.trans (if_neg (by decide))
 have n16:v 16=if (0:Int)≠0 then (1:Int) else (0:Int):=e16.trans (by rw [f3,f13])
 have f16:v 16=(0:Int):=n16.trans (if_neg (by decide))
 have n17:v 17=if (0:Int)≠0 then (0:Int) else v 9:=e17.trans (by rw [f3,f14])
 have f17:v 17=v 9:=n17.trans (if_neg (by decide))
 have n18:v 18=if (0:Int)≠0 then (0:Int) else v 12:=e18.trans (by rw [f3,f15])
 have f18:v 18=v 12:=n18.trans (if_neg (by decide))
 have n21:v 21=b2i ((0:Int) != (0:Int)):=e21.trans (by rw [f16])
 have f21:v 21=(0:Int):=n21.trans (by decide)
 have n23:v 23=IntKind.i64.wrap ((5400000:Int)-v 12):=e23.trans (by rw [f18])
 have n24:v 24=IntKind.i64.wrap ((5400000:Int)-v 9):=e24.trans (by rw [f17])
 have n25:v 25=if (0:Int)≠0 then (0:Int) else (0:Int):=e25.trans (by rw [f21,f16])
 have f25:v 25=(0:Int):=n25.trans (if_neg (by decide))
 have n26:v 26=if (0:Int)≠0 then (0:Int) else v 23:=e26.trans (by rw [f21])
 have f26:v 26=v 23:=n26.trans (if_neg (by decide))
 have n27:v 27=if (0:Int)≠0 then (0:Int) else v 24:=e27.trans (by rw [f21])
 have f27:v 27=v 24:=n27.trans (if_neg (by decide))
 refine ⟨cB ?_,?_⟩
 . refine af ?_ (af ?_ (af ?_ (cz)))
   . exact fun _=>trivial
   . exact fun _=>trivial
   . exact fun _=>trivial
 . intro x hx;have hx':=cu (v:=v) (by rfl) hx
   rw [hx'];have q1:=bW (v 5);have q2:=bW (-(v 6));have L10:v 10=-(v 6):=e10.trans (by rw [IntWalk.i64_in _ (by omega)];omega)
   have L9:v 9=bC (v 5):=e9;have L11:v 11=bC (-(v 6)):=by rw [<-L10];exact e11
   have L12:v 12=-bC (-(v 6)):=e12.trans (by rw [L11,IntWalk.i64_in _ (by omega)];omega)
   have L23:v 23=oP a2:=n23.trans (by rw [L12,IntWalk.i64_in _ (by omega),B6];unfold oP;omega)
   have L24:v 24=qH a1:=n24.trans (by rw [L9,IntWalk.i64_in _ (by omega),B5];rfl)
   show Value.tuple #[.agg #[.int .i64 (v 26),.int .i64 (v 27)],.int .i64 (v 25)]=_;rw [f25,f26,f27,L23,L24]
