/- The contracts of reach and leg of composite sailing, and of the reference's. -/
import Derived.Test.YtknhbpnclokciaaGreatZComN
import Derived.Test.YtknhbpnclokciaaGreatZRef1
set_option linter.unusedVariables false
set_option linter.unusedSimpArgs false
set_option maxRecDepth 100000
namespace Go.Proofs.YtknhbpnclokciaaGreat
open Go.RowKit Alm Sx
def TS:Sx.Spec:=⟨280,30,[(false,[some .i64]),(false,[some .i64])],[(false,[some .i64])]⟩
def X5:Sx.Spec:=⟨281,31,[(false,[some .i64]),(false,[some .i64])],[(false,[some .i64])]⟩
def aac:List Sx.Spec:=[TS,X5]
theorem WE (args:List Int):∀ s∈aac,aQ Tryz.prog (cxC args) s:=by
 intro s hs;simp only [aac,List.mem_cons,List.not_mem_nil,or_false] at hs;rcases hs with rfl|rfl
 . refine ⟨ours _ _ _ Tryz.func280 rfl (by kernel_rfl),fun xs hp w=>?_⟩
   match xs,hp with
   | [a,b],hp =>
    refine (j6 a b w hp.1.1 hp.1.2 hp.2.1 hp.2.2).mono ?_;rintro e w' ⟨he,hb⟩;exact ⟨he,by rw [<-hb];exact Below.refl _ _⟩
 . refine ⟨ours _ _ _ Tryz.func281 rfl (by kernel_rfl),fun xs hp w=>?_⟩
   match xs,hp with
   | [a,b],hp =>
    refine (FK a b w hp.1.1 hp.1.2 hp.2.1 hp.2.2).mono ?_;rintro e w' ⟨he,hb⟩;exact ⟨he,by rw [<-hb];exact Below.refl _ _⟩
def Dk:List Nd:=[
 .arg 0,
 .arg 1,
 .arg 2,
 .arg 3,
 .bin .leq .i64 (.n 2) (.c 0),
 .bin .geq .i64 (.n 3) (.c 0),
 .ite (.n 4) (.n 5) (.c 0),
 .ite (.n 6) (.c 0) (.c 1),
 .bin .lss .i64 (.n 2) (.c 0),
 .bin .sub .i64 (.c 0) (.n 1),
 .bin .sub .i64 (.c 0) (.n 0),
 .bin .sub .i64 (.c 0) (.n 3),
 .bin .sub .i64 (.c 0) (.n 2),
 .ite (.n 8) (.c 0) (.c 1),
 .ite (.n 8) (.n 11) (.n 2),
 .ite (.n 8) (.n 12) (.n 3),
 .ite (.n 8) (.n 9) (.n 0),
 .ite (.n 8) (.n 10) (.n 1),
 .bin .mul .i64 (.n 16) (.c 1073741824),
 .app 30 0 [.n 18,.n 14],
 .app 30 0 [.n 18,.n 15],
 .bin .lss .i64 (.n 20) (.n 19),
 .ite (.n 21) (.c 0) (.c 1),
 .ite (.n 21) (.n 20) (.n 19),
 .bin .mul .i64 (.n 17) (.c 1073741824),
 .app 31 0 [.n 24,.n 14],
 .app 31 0 [.n 24,.n 15],
 .bin .lss .i64 (.n 25) (.n 26),
 .ite (.n 27) (.c 0) (.c 1),
 .ite (.n 27) (.n 26) (.n 25),
 .bin .lss .i64 (.n 23) (.c (-2147483648)),
 .bin .gtr .i64 (.n 29) (.c 2147483648),
 .ite (.n 30) (.c 1) (.n 31),
 .ite (.n 32) (.c 0) (.c 1),
 .ite (.n 32) (.c 5) (.c 0),
 .ite (.n 32) (.c 0) (.n 23),
 .ite (.n 32) (.c 0) (.n 29),
 .ite (.n 6) (.c 16) (.n 34),
 .ite (.n 6) (.c 0) (.n 35),
 .ite (.n 6) (.c 0) (.n 36),
 .ite (.n 6) (.n 2) (.n 14),
 .ite (.n 6) (.n 3) (.n 15),
 .ite (.n 6) (.n 0) (.n 16),
 .ite (.n 6) (.n 1) (.n 17)]
def OD:List Vc:=[
 ⟨[(.n 7,true)],.pre 30 [.n 18,.n 14]⟩,
 ⟨[(.n 7,true)],.pre 30 [.n 18,.n 15]⟩,
 ⟨[(.n 7,true)],.pre 31 [.n 24,.n 14]⟩,
 ⟨[(.n 7,true)],.pre 31 [.n 24,.n 15]⟩]
theorem Td:whole Tryz.prog aac 20 40 168 [(true,[some .i64,some .i64]),(true,[some .i64,some .i64])]=some (.tup [.agg [.int .i64 (.n 38),.int .i64 (.n 39)],.c (.int .i64 (.n 37))],⟨Dk.reverse,OD.reverse⟩):=by kernel_rfl
theorem Qu:wfN Dk.reverse=true:=by kernel_rfl
theorem Vy (a b c d:Int) (w:World) (ha:fxV a b=true) (hc:fxV c d=true) (h0:0<c):Calls Tryz.prog 168 #[.agg #[.int .i64 a,.int .i64 b],.agg #[.int .i64 c,.int .i64 d]] w fun e w'=>e=.returned (opV (il a b c d) (iQ a b c d))/\Below w.heap.size w w':=by
 refine Sx.calls (X:=cxC [a,b,c,d]) dB (WE _) Td Qu (fun v hs=>?_) w
 have e0:v 0=a:=ae hs 0 rfl;have e1:v 1=b:=ae hs 1 rfl;have e2:v 2=c:=ae hs 2 rfl;have e3:v 3=d:=ae hs 3 rfl;have e4:v 4=b2i (decide (v 2<=(0:Int))):=ae hs 4 rfl;have e5:v 5=b2i (decide (v 3>=(0:Int))):=ae hs 5 rfl;have e6:v 6=if v 4≠0 then v 5 else (0:Int):=ae hs 6 rfl
 have e7:v 7=if v 6≠0 then (0:Int) else (1:Int):=ae hs 7 rfl
 have e8:v 8=b2i (decide (v 2<(0:Int))):=ae hs 8 rfl;have e9:v 9=IntKind.i64.wrap ((0:Int)-v 1):=ae hs 9 rfl;have e10:v 10=IntKind.i64.wrap ((0:Int)-v 0):=ae hs 10 rfl;have e11:v 11=IntKind.i64.wrap ((0:Int)-v 3):=ae hs 11 rfl;have e12:v 12=IntKind.i64.wrap ((0:Int)-v 2):=ae hs 12 rfl;have e13:v 13=if v 8≠0 then (0:Int) else (1:Int):=ae hs 13 rfl
 have e14:v 14=if v 8≠0 then v 11 else v 2:=ae hs 14 rfl
 have e15:v 15=if v 8≠0 then v 12 else v 3:=ae hs 15 rfl
 have e16:v 16=if v 8≠0 then v 9 else v 0:=ae hs 16 rfl
 have e17:v 17=if v 8≠0 then v 10 else v 1:=ae hs 17 rfl
 have e18:v 18=IntKind.i64.wrap (v 16*(1073741824:Int)):=ae hs 18 rfl;have e19:v 19=(pq 30 [v 18,v 14]).getD 0 0:=ae hs 19 rfl;have e20:v 20=(pq 30 [v 18,v 15]).getD 0 0:=ae hs 20 rfl;have e21:v 21=b2i (decide (v 20<v 19)):=ae hs 21 rfl;have e22:v 22=if v 21≠0 then (0:Int) else (1:Int):=ae hs 22 rfl
 have e23:v 23=if v 21≠0 then v 20 else v 19:=ae hs 23 rfl
 have e24:v 24=IntKind.i64.wrap (v 17*(1073741824:Int)):=ae hs 24 rfl;have e25:v 25=(pq 31 [v 24,v 14]).getD 0 0:=ae hs 25 rfl;have e26:v 26=(pq 31 [v 24,v 15]).getD 0 0:=ae hs 26 rfl;have e27:v 27=b2i (decide (v 25<v 26)):=ae hs 27 rfl;have e28:v 28=if v 27≠0 then (0:Int) else (1:Int):=ae hs 28 rfl
 have e29:v 29=if v 27≠0 then v 26 else v 25:=ae hs 29 rfl
 have e30:v 30=b2i (decide (v 23<(-2147483648:Int))):=ae hs 30 rfl;have e31:v 31=b2i (decide (v 29>(2147483648:Int))):=ae hs 31 rfl;have e32:v 32=if v 30≠0 then (1:Int) else v 31:=ae hs 32 rfl
 have e33:v 33=if v 32≠0 then (0:Int) else (1:Int):=ae hs 33 rfl
 have e34:v 34=if v 32≠0 then (5:Int) else (0:Int):=ae hs 34 rfl
 have e35:v 35=if v 32≠0 then (0:Int) else v 23:=ae hs 35 rfl
 have e36:v 36=if v 32≠0 then (0:Int) else v 29:=ae hs 36 rfl
 have e37:v 37=if v 6≠0 then (16:Int) else v 34:=ae hs 37 rfl
 have e38:v 38=if v 6≠0 then (0:Int) else v 35:=ae hs 38 rfl
 have e39:v 39=if v 6≠0 then (0:Int) else v 36:=ae hs 39 rfl
 obtain ⟨ha1,ha2,ha3⟩:=(bO _ _).1 ha;obtain ⟨hb1,hb2,hb3⟩:=(bO _ _).1 hc;have A4:v 4=0:=by rw [e4,e2,decide_eq_false (by omega)];rfl
 have A8:v 8=0:=by rw [e8,e2,decide_eq_false (by omega)];rfl
 have A6:v 6=0:=by rw [e6,A4];rfl
 have A7:v 7=1:=by rw [e7,A6];rfl
 have A14:v 14=c:=by rw [e14,A8,e2];rfl
 have A15:v 15=d:=by rw [e15,A8,e3];rfl
 have A16:v 16=a:=by rw [e16,A8,e0];rfl
 have A17:v 17=b:=by rw [e17,A8,e1];rfl
 have A18:v 18=a*1073741824:=by rw [e18,A16,Go.IntWalk.i64_in _ (by omega)]
 have A24:v 24=b*1073741824:=by rw [e24,A17,Go.IntWalk.i64_in _ (by omega)]
 have T:=Vq (a1:=a) (a2:=b) (b1:=c) (b2:=d) ha2 h0 hb2;have f19:v 19=a*1073741824/c:=by rw [e19,A18,A14];rfl
 have f20:v 20=a*1073741824/d:=by rw [e20,A18,A15];rfl
 have f25:v 25=jJ (b*1073741824) c:=by rw [e25,A24,A14];rfl
 have f26:v 26=jJ (b*1073741824) d:=by rw [e26,A24,A15];rfl
 have A23:v 23=il a b c d:=by
  rw [T.1,e23,e21,iO,f19,f20];split<;>omega
 have A29:v 29=iQ a b c d:=by
  rw [T.2,e29,e27,iO,f25,f26];split<;>omega
 have le:il a b c d<=iQ a b c d:=by
  have q1:=Int.ediv_mul_le (a*1073741824) (show c≠0 by omega)
  have q2:a*1073741824/c<=jJ (b*1073741824) c:=RV h0 (by omega)
  rw [T.1,T.2];omega
 have A32:v 32=b2i (decide (¬ (-2147483648<=il a b c d/\il a b c d<=iQ a b c d/\iQ a b c d<=2147483648))):=by
  rw [e32,e30,e31,A23,A29]
  by_cases q1:il a b c d < -2147483648
  . have q2:¬ (-2147483648<=il a b c d/\il a b c d<=iQ a b c d/\iQ a b c d<=2147483648):=fun h=>absurd h.1 (by omega)
    rw [decide_eq_true q1,decide_eq_true q2];rfl
  . rw [decide_eq_false q1];show b2i _=_;exact congrArg b2i (decide_eq_decide.2 (by omega))
 have P18:-4611686018427387904<=v 18/\v 18<=4611686018427387904:=by rw [A18];omega
 have P24:-4611686018427387904<=v 24/\v 24<=4611686018427387904:=by rw [A24];omega
 have P14:0<v 14/\v 14<=4611686018427387904:=by rw [A14];omega
 have P15:0<v 15/\v 15<=4611686018427387904:=by rw [A15];omega
 refine ⟨aU ?_,?_⟩
 . exact ag (fun _=>⟨P18,P14⟩) (ag (fun _=>⟨P18,P15⟩) (ag (fun _=>⟨P24,P14⟩) (ag (fun _=>⟨P24,P15⟩) (aT))))
 . intro x hx0;have hx':=aW (v:=v) (by rfl) hx0
   rw [hx'];show Value.tuple #[.agg #[.int .i64 (v 38),.int .i64 (v 39)],.int .i64 (v 37)]=_;have a37:v 37=v 34:=by rw [e37,A6];rfl
   have a38:v 38=v 35:=by rw [e38,A6];rfl
   have a39:v 39=v 36:=by rw [e39,A6];rfl
   rw [a37,a38,a39,e34,e35,e36,A32,A23,A29];unfold opV jS jU jI
   by_cases q:-2147483648<=il a b c d/\il a b c d<=iQ a b c d/\iQ a b c d<=2147483648
   . rw [decide_eq_false (not_not_intro q),if_pos q,if_pos q,if_pos q];rfl
   . rw [decide_eq_true q,if_neg q,if_neg q,if_neg q];rfl
def kW (f:Nat):Bool:=f==9 || f==33
def yf:Nat->List Int->List Int
 | 9,[a,b,n]=>[sD a b n,rZ a b n,0]
 | 33,[a,b,c,d]=>D7 (il a b c d) (iQ a b c d)
 | _,_=>[]
def aeo:Nat->List Int->Prop
 | 9,[a,b,n]=>fxV a b=true/\gT n=true
 | 33,[a,b,c,d]=>fxV a b=true/\fxV c d=true/\0<c
 | _,_=>False
def cxW (args:List Int):Cx:=(cxV args).plus kW yf aeo
theorem abl (args:List Int):yI (cxW args):=nG (adD args) fun f h=>by
 unfold kW;rcases h with h|rfl
 . simp;omega
 . rfl
def Y9:Sx.Spec:=⟨168,33,[(true,[some .i64,some .i64]),(true,[some .i64,some .i64])],[(true,[some .i64,some .i64]),(false,[some .i64])]⟩
def TD:Sx.Spec:=⟨106,9,[(true,[some .i64,some .i64]),(false,[some .i64])],[(false,[some .i64]),(false,[some .i64]),(false,[some .i64])]⟩
def Vm:Sx.Spec:=⟨172,9,[(true,[some .i64,some .i64]),(false,[some .i64])],[(false,[some .i64]),(false,[some .i64]),(false,[some .i64])]⟩
theorem ZB:∀ s∈spV,kW s.id=false:=by
 intro s hs;rcases List.mem_append.1 hs with h|h
 . rcases List.mem_append.1 h with h|h
   . exact Gx kW (fun f h=>by unfold kW;simp;omega) s h
   . simp only [List.mem_cons,List.not_mem_nil,or_false] at h;rcases h with rfl|rfl|rfl|rfl<;>rfl
 . simp only [List.mem_cons,List.not_mem_nil,or_false] at h;rcases h with rfl|rfl|rfl<;>rfl
def spW:List Sx.Spec:=spV++[Zu,Y9,TD,Vm]
theorem fw (args:List Int):∀ s∈spW,aQ Tryz.prog (cxW args) s:=by
 intro s hs;rcases List.mem_append.1 hs with h|h
 . exact pV (ZB s h) (YT args s h)
 . simp only [List.mem_cons,List.not_mem_nil,or_false] at h;rcases h with rfl|rfl|rfl|rfl
   . refine dE rfl (ours _ _ _ Tryz.func164 rfl (by kernel_rfl)) fun xs hp w=>?_
     match xs,hp with
     | [a,b,c,d],hp=>exact X6 a b c d w hp.1 hp.2.1 hp.2.2
   . refine dE rfl (ours _ _ _ Tryz.func168 rfl (by kernel_rfl)) fun xs hp w=>?_
     match xs,hp with
     | [a,b,c,d],hp=>exact Vy a b c d w hp.1 hp.2.1 hp.2.2
   . refine dE rfl (ours _ _ _ Tryz.func106 rfl (by kernel_rfl)) fun xs hp w=>?_
     match xs,hp with
     | [a,b,n],hp=>exact Vo a b n w hp.1 hp.2
   . refine dE rfl (ours _ _ _ Tryz.func172 rfl (by kernel_rfl)) fun xs hp w=>?_
     match xs,hp with
     | [a,b,n],hp=>exact KY a b n w hp.1 hp.2
def ab4 (t:Tab):Nd->Option Rf
 | .app 46 2 [_,_]=>some (.c 0)
 | .app 9 2 [_,_,_]=>some (.c 0)
 | .app 20 0 []=>some (.c 1)
 | x=>Ot t x
theorem aG (args:List Int):nZ (cxW args) ab4:=by
 intro v t x r ht h;unfold ab4 at h;split at h
 . cases h;rfl
 . cases h;rfl
 . cases h;rfl
 . exact Bf (abl args) v t x r ht h
def eB:List Nd:=[
 .arg 0,
 .arg 1,
 .bin .eql .i64 (.n 0) (.n 1),
 .ite (.n 2) (.c 0) (.c 1),
 .bin .sub .i64 (.c 0) (.n 1),
 .bin .eql .i64 (.n 0) (.n 4),
 .ite (.n 5) (.c 0) (.c 1),
 .app 5 0 [.n 0,.n 0],
 .app 5 1 [.n 0,.n 0],
 .app 6 0 [.n 1,.n 1],
 .app 6 1 [.n 1,.n 1],
 .app 0 0 [.n 7,.n 8,.n 9,.n 10],
 .app 0 1 [.n 7,.n 8,.n 9,.n 10],
 .app 0 2 [.n 7,.n 8,.n 9,.n 10],
 .app 6 0 [.n 0,.n 0],
 .app 6 1 [.n 0,.n 0],
 .app 5 0 [.n 1,.n 1],
 .app 5 1 [.n 1,.n 1],
 .app 0 0 [.n 14,.n 15,.n 16,.n 17],
 .app 0 1 [.n 14,.n 15,.n 16,.n 17],
 .app 0 2 [.n 14,.n 15,.n 16,.n 17],
 .app 33 0 [.n 11,.n 12,.n 18,.n 19],
 .app 33 1 [.n 11,.n 12,.n 18,.n 19],
 .app 33 2 [.n 11,.n 12,.n 18,.n 19],
 .app 46 0 [.n 21,.n 22],
 .app 46 1 [.n 21,.n 22],
 .app 46 2 [.n 21,.n 22],
 .ite (.n 5) (.c 10800000) (.n 24),
 .ite (.n 5) (.c 10800000) (.n 25),
 .ite (.n 2) (.c 0) (.n 27),
 .ite (.n 2) (.c 0) (.n 28)]
def Nz:List Vc:=[
 ⟨[(.n 6,true),(.n 3,true)],.pre 5 [.n 0,.n 0]⟩,
 ⟨[(.n 6,true),(.n 3,true)],.pre 6 [.n 1,.n 1]⟩,
 ⟨[(.n 6,true),(.n 3,true)],.pre 0 [.n 7,.n 8,.n 9,.n 10]⟩,
 ⟨[(.n 6,true),(.n 3,true)],.pre 6 [.n 0,.n 0]⟩,
 ⟨[(.n 6,true),(.n 3,true)],.pre 5 [.n 1,.n 1]⟩,
 ⟨[(.n 6,true),(.n 3,true)],.pre 0 [.n 14,.n 15,.n 16,.n 17]⟩,
 ⟨[(.n 6,true),(.n 3,true)],.pre 33 [.n 11,.n 12,.n 18,.n 19]⟩,
 ⟨[(.n 6,true),(.n 3,true)],.pre 46 [.n 21,.n 22]⟩]
theorem tH:whole Tryz.prog spW 20 40 64 [(false,[some .i64]),(false,[some .i64])]=some (.p (.agg [.int .i64 (.n 29),.int .i64 (.n 30)]),⟨eB.reverse,Nz.reverse⟩):=by kernel_rfl
theorem tQ:wfN eB.reverse=true:=by kernel_rfl
theorem MS (a l:Int) (w:World) (h0:1<=l) (h1:l<5400000) (h2:-l<=a) (h3:a<=l) (hc:a=l):Calls Tryz.prog 64 #[.int .i64 a,.int .i64 l] w fun e w'=>e=.returned (.agg #[.int .i64 (gp a l),.int .i64 (gu a l)])/\Below w.heap.size w w':=by
 refine Sx.calls (X:=cxW [a,l]) dB (fw _) tH tQ (fun v hs=>?_) w
 have e0:v 0=a:=ae hs 0 rfl;have e1:v 1=l:=ae hs 1 rfl;have e2:v 2=b2i (v 0==v 1):=ae hs 2 rfl;have e4:v 4=IntKind.i64.wrap ((0:Int)-v 1):=ae hs 4 rfl;have e5:v 5=b2i (v 0==v 4):=ae hs 5 rfl;have w4:v 4=-l:=by rw [e4,e1,Go.IntWalk.i64_in _ (by omega)];omega
 have A2:v 2=1:=by rw [e2,e0,e1,show (a==l)=true from by simp [hc]];rfl
 have z29:v 29=0:=aI (X:=cxW [a,l]) (v:=v) (l:=eB) (aG _) hs (k:=29) (r:=.c 0) (ps:=[(2,.c 1)]) (nz:=[]) (af A2 ay) bf (by kernel_rfl)
 have z30:v 30=0:=aI (X:=cxW [a,l]) (v:=v) (l:=eB) (aG _) hs (k:=30) (r:=.c 0) (ps:=[(2,.c 1)]) (nz:=[]) (af A2 ay) bf (by kernel_rfl)
 have z3:v 3=0:=aI (X:=cxW [a,l]) (v:=v) (l:=eB) (aG _) hs (k:=3) (r:=.c 0) (ps:=[(2,.c 1)]) (nz:=[]) (af A2 ay) bf (by kernel_rfl)
 refine ⟨aU ?_,?_⟩
 . exact ag (fun hp=>absurd z3 (au (au hp).2).1) (ag (fun hp=>absurd z3 (au (au hp).2).1) (ag (fun hp=>absurd z3 (au (au hp).2).1) (ag (fun hp=>absurd z3 (au (au hp).2).1) (ag (fun hp=>absurd z3 (au (au hp).2).1) (ag (fun hp=>absurd z3 (au (au hp).2).1) (ag (fun hp=>absurd z3 (au (au hp).2).1) (ag (fun hp=>absurd z3 (au (au hp).2).1) (aT))))))))
 . intro x hx0;have hx':=aW (v:=v) (by rfl) hx0
   rw [hx'];show Value.agg #[.int .i64 (v 29),.int .i64 (v 30)]=_;rw [z29,z30];unfold gp gu;rw [if_pos hc,if_pos hc]
theorem Mk (a l:Int) (w:World) (h0:1<=l) (h1:l<5400000) (h2:-l<=a) (h3:a<=l) (hc:¬ a=l) (hd:a=-l):Calls Tryz.prog 64 #[.int .i64 a,.int .i64 l] w fun e w'=>e=.returned (.agg #[.int .i64 (gp a l),.int .i64 (gu a l)])/\Below w.heap.size w w':=by
 refine Sx.calls (X:=cxW [a,l]) dB (fw _) tH tQ (fun v hs=>?_) w
 have e0:v 0=a:=ae hs 0 rfl;have e1:v 1=l:=ae hs 1 rfl;have e2:v 2=b2i (v 0==v 1):=ae hs 2 rfl;have e4:v 4=IntKind.i64.wrap ((0:Int)-v 1):=ae hs 4 rfl;have e5:v 5=b2i (v 0==v 4):=ae hs 5 rfl;have w4:v 4=-l:=by rw [e4,e1,Go.IntWalk.i64_in _ (by omega)];omega
 have A2:v 2=0:=by rw [e2,e0,e1,show (a==l)=false from by simp [hc]];rfl
 have A4:v 5=1:=by rw [e5,e0,w4,show (a == -l)=true from by simp [hd]];rfl
 have z29:v 29=10800000:=aI (X:=cxW [a,l]) (v:=v) (l:=eB) (aG _) hs (k:=29) (r:=.c 10800000) (ps:=[(2,.c 0),(5,.c 1)]) (nz:=[]) (af A2 (af A4 ay)) bf (by kernel_rfl)
 have z30:v 30=10800000:=aI (X:=cxW [a,l]) (v:=v) (l:=eB) (aG _) hs (k:=30) (r:=.c 10800000) (ps:=[(2,.c 0),(5,.c 1)]) (nz:=[]) (af A2 (af A4 ay)) bf (by kernel_rfl)
 have z6:v 6=0:=aI (X:=cxW [a,l]) (v:=v) (l:=eB) (aG _) hs (k:=6) (r:=.c 0) (ps:=[(2,.c 0),(5,.c 1)]) (nz:=[]) (af A2 (af A4 ay)) bf (by kernel_rfl)
 refine ⟨aU ?_,?_⟩
 . exact ag (fun hp=>absurd z6 (au hp).1) (ag (fun hp=>absurd z6 (au hp).1) (ag (fun hp=>absurd z6 (au hp).1) (ag (fun hp=>absurd z6 (au hp).1) (ag (fun hp=>absurd z6 (au hp).1) (ag (fun hp=>absurd z6 (au hp).1) (ag (fun hp=>absurd z6 (au hp).1) (ag (fun hp=>absurd z6 (au hp).1) (aT))))))))
 . intro x hx0;have hx':=aW (v:=v) (by rfl) hx0
   rw [hx'];show Value.agg #[.int .i64 (v 29),.int .i64 (v 30)]=_;rw [z29,z30];unfold gp gu;rw [if_neg hc,if_neg hc,if_pos hd,if_pos hd]
theorem Ma (a l:Int) (w:World) (h0:1<=l) (h1:l<5400000) (h2:-l<=a) (h3:a<=l) (hc:¬ a=l) (hd:¬ a=-l):Calls Tryz.prog 64 #[.int .i64 a,.int .i64 l] w fun e w'=>e=.returned (.agg #[.int .i64 (gp a l),.int .i64 (gu a l)])/\Below w.heap.size w w':=by
 refine Sx.calls (X:=cxW [a,l]) dB (fw _) tH tQ (fun v hs=>?_) w
 have e0:v 0=a:=ae hs 0 rfl;have e1:v 1=l:=ae hs 1 rfl;have e2:v 2=b2i (v 0==v 1):=ae hs 2 rfl;have e4:v 4=IntKind.i64.wrap ((0:Int)-v 1):=ae hs 4 rfl;have e5:v 5=b2i (v 0==v 4):=ae hs 5 rfl;have w4:v 4=-l:=by rw [e4,e1,Go.IntWalk.i64_in _ (by omega)];omega
 have A2:v 2=0:=by rw [e2,e0,e1,show (a==l)=false from by simp [hc]];rfl
 have A4:v 5=0:=by rw [e5,e0,w4,show (a == -l)=false from by simp [hd]];rfl
 have e7:v 7=(aD 5 [v 0,v 0]).getD 0 0:=ae hs 7 rfl;have e8:v 8=(aD 5 [v 0,v 0]).getD 1 0:=ae hs 8 rfl;have P7:((v 7,v 8):IV)=uS (v 0) (v 0):=by rw [e7,e8];rfl
 have U7:U (v 7,v 8):=by rw [P7];exact U_S _ _
 have e9:v 9=(aD 6 [v 1,v 1]).getD 0 0:=ae hs 9 rfl;have e10:v 10=(aD 6 [v 1,v 1]).getD 1 0:=ae hs 10 rfl;have P9:((v 9,v 10):IV)=uC (v 1) (v 1):=by rw [e9,e10];rfl
 have U9:U (v 9,v 10):=by rw [P9];exact U_C _ _
 have e16:v 16=(aD 5 [v 1,v 1]).getD 0 0:=ae hs 16 rfl;have e17:v 17=(aD 5 [v 1,v 1]).getD 1 0:=ae hs 17 rfl;have P16:((v 16,v 17):IV)=uS (v 1) (v 1):=by rw [e16,e17];rfl
 have U16:U (v 16,v 17):=by rw [P16];exact U_S _ _
 have e14:v 14=(aD 6 [v 0,v 0]).getD 0 0:=ae hs 14 rfl;have e15:v 15=(aD 6 [v 0,v 0]).getD 1 0:=ae hs 15 rfl;have P14:((v 14,v 15):IV)=uC (v 0) (v 0):=by rw [e14,e15];rfl
 have U14:U (v 14,v 15):=by rw [P14];exact U_C _ _
 have e11:v 11=(aD 0 [v 7,v 8,v 9,v 10]).getD 0 0:=ae hs 11 rfl;have e12:v 12=(aD 0 [v 7,v 8,v 9,v 10]).getD 1 0:=ae hs 12 rfl;have P11:((v 11,v 12):IV)=uM (v 7,v 8) (v 9,v 10):=by rw [e11,e12];rfl
 have U11:U (v 11,v 12):=by rw [P11];exact (U_M U7 U9).2.2
 have e13:v 13=(aD 0 [v 7,v 8,v 9,v 10]).getD 2 0:=ae hs 13 rfl;have E13:v 13=0:=e13.trans (U_M U7 U9).2.1;have e18:v 18=(aD 0 [v 14,v 15,v 16,v 17]).getD 0 0:=ae hs 18 rfl;have e19:v 19=(aD 0 [v 14,v 15,v 16,v 17]).getD 1 0:=ae hs 19 rfl;have P18:((v 18,v 19):IV)=uM (v 14,v 15) (v 16,v 17):=by rw [e18,e19];rfl
 have U18:U (v 18,v 19):=by rw [P18];exact (U_M U14 U16).2.2
 have e20:v 20=(aD 0 [v 14,v 15,v 16,v 17]).getD 2 0:=ae hs 20 rfl;have E20:v 20=0:=e20.trans (U_M U14 U16).2.1;have PN:((v 11,v 12):IV)=eZ a l:=by rw [P11,P7,P9,e0,e1];rfl
 have PD:((v 18,v 19):IV)=eG a l:=by rw [P18,P16,P14,e0,e1,VA (U_C a a) (U_S l l)];rfl
 have R:=Rw a l (by omega) (by omega) (by omega)
 have n1:v 11=(eZ a l).1:=congrArg Prod.fst PN;have n2:v 12=(eZ a l).2:=congrArg Prod.snd PN;have d1:v 18=(eG a l).1:=congrArg Prod.fst PD;have d2:v 19=(eG a l).2:=congrArg Prod.snd PD;have e21:v 21=(yf 33 [v 11,v 12,v 18,v 19]).getD 0 0:=ae hs 21 rfl;have e22:v 22=(yf 33 [v 11,v 12,v 18,v 19]).getD 1 0:=ae hs 22 rfl;have e23:v 23=(yf 33 [v 11,v 12,v 18,v 19]).getD 2 0:=ae hs 23 rfl;have e24:v 24=(mR 46 [v 21,v 22]).getD 0 0:=ae hs 24 rfl;have e25:v 25=(mR 46 [v 21,v 22]).getD 1 0:=ae hs 25 rfl;have F:=Q6 R.2.2.2.1;have D0:v 21=il (eZ a l).1 (eZ a l).2 (eG a l).1 (eG a l).2:=by rw [e21,n1,n2,d1,d2];exact F.1
 have D1:v 22=iQ (eZ a l).1 (eZ a l).2 (eG a l).1 (eG a l).2:=by rw [e22,n1,n2,d1,d2];exact F.2.1
 have D2:v 23=0:=by rw [e23,n1,n2,d1,d2];exact F.2.2
 have A46:fxV (v 21) (v 22)=true/\v 21<=1073741824/\-1073741824<=v 22:=by rw [D0,D1];exact R.2.2.2
 have C0:v 24=o9 (v 22):=e24;have C1:v 25=qK (v 21):=e25;have A33:fxV (v 11) (v 12)=true/\fxV (v 18) (v 19)=true/\0<v 18:=⟨dz U11,dz U18,by rw [d1];exact R.2.2.1⟩
 have z29:v 29=v 24:=aJ (X:=cxW [a,l]) (v:=v) (l:=eB) (aG _) hs (k:=29) (j:=24) (ps:=[(2,.c 0),(5,.c 0),(13,.c 0),(20,.c 0),(23,.c 0)]) (af A2 (af A4 (af E13 (af E20 (af D2 ay))))) (by kernel_rfl)
 have z30:v 30=v 25:=aJ (X:=cxW [a,l]) (v:=v) (l:=eB) (aG _) hs (k:=30) (j:=25) (ps:=[(2,.c 0),(5,.c 0),(13,.c 0),(20,.c 0),(23,.c 0)]) (af A2 (af A4 (af E13 (af E20 (af D2 ay))))) (by kernel_rfl)
 refine ⟨aU ?_,?_⟩
 . exact ag (fun _=>(show dI (v 0) (v 0)=true from bi (by rw [e0];omega))) (ag (fun _=>(show dI (v 1) (v 1)=true from bi (by rw [e1];omega))) (ag (fun _=>⟨dz U7,dz U9⟩) (ag (fun _=>(show dI (v 0) (v 0)=true from bi (by rw [e0];omega))) (ag (fun _=>(show dI (v 1) (v 1)=true from bi (by rw [e1];omega))) (ag (fun _=>⟨dz U14,dz U16⟩) (ag (fun _=>A33) (ag (fun _=>A46) (aT))))))))
 . intro x hx0;have hx':=aW (v:=v) (by rfl) hx0
   rw [hx'];show Value.agg #[.int .i64 (v 29),.int .i64 (v 30)]=_;rw [z29,z30,C0,C1,D0,D1];unfold gp gu;rw [if_neg hc,if_neg hc,if_neg hd,if_neg hd]
theorem Eb (a l:Int) (w:World) (h0:1<=l) (h1:l<5400000) (h2:-l<=a) (h3:a<=l):Calls Tryz.prog 64 #[.int .i64 a,.int .i64 l] w fun e w'=>e=.returned (.agg #[.int .i64 (gp a l),.int .i64 (gu a l)])/\Below w.heap.size w w':=by
 by_cases hc:a=l
 . exact MS a l w h0 h1 h2 h3 hc
 . by_cases hd:a=-l
   . exact Mk a l w h0 h1 h2 h3 hc hd
   . exact Ma a l w h0 h1 h2 h3 hc hd
def fe (a b c d l:Int):List Int:=if a=c/\(a=l∨a=-l) then [if sgd (d-b)<0 then 16200000 else 5400000,if sgd (d-b)<0 then 16200000 else 5400000,sD (uC a a).1 (uC a a).2 (max (sgd (d-b)) (-(sgd (d-b)))),rZ (uC a a).1 (uC a a).2 (max (sgd (d-b)) (-(sgd (d-b))))] else [(lK a b c d).getD 0 0,(lK a b c d).getD 1 0,(jH a b c d).getD 0 0,(jH a b c d).getD 1 0]
theorem rR (a b c d l:Int):(fe a b c d l).length=4:=by unfold fe;split<;>rfl
theorem Ak {x5 x6 x7 x8 x9 a c l:Int} (h5:x5=b2i (a != c)) (h6:x6=IntKind.i64.wrap (0-a)) (h7:x7=if x6>a then x6 else a) (h8:x8=b2i (x7 != l)) (h9:x9=if x5≠0 then 1 else x8) (ha:-5400000<=a/\a<=5400000) (hl:1<=l) :
 x9=b2i (decide (¬ (a=c/\(a=l∨a=-l)))):=by
 rw [Go.IntWalk.i64_in _ (by omega)] at h6
 have m:(a=l∨a=-l)↔x7=l:=by rw [h7,h6];split<;>omega
 by_cases q:a=c
 . have e5:x5=0:=by rw [h5,q];simp [b2i]
   rw [h9,e5];show x8=_;rw [h8]
   by_cases r:x7=l
   . rw [decide_eq_false (not_not_intro ⟨q,m.2 r⟩)];simp [b2i,r]
   . have n:¬ (a=c/\(a=l∨a=-l)):=fun h=>r (m.1 h.2)
     rw [decide_eq_true n];simp [b2i,r]
 . have e5:x5=1:=by rw [h5];simp [b2i,q]
   have n:¬ (a=c/\(a=l∨a=-l)):=fun h=>q h.1
   rw [h9,e5,decide_eq_true n];rfl
theorem zU {x5 x6 x7 x8 x9 x10 a c l:Int} (h5:x5=b2i (a==c)) (h6:x6=b2i (a==l)) (h7:x7=IntKind.i64.wrap (0-l)) (h8:x8=b2i (a==x7)) (h9:x9=if x6≠0 then 1 else x8) (h10:x10=if x5≠0 then x9 else 0) (hl:1<=l/\l<5400000) :
 x10=b2i (decide (a=c/\(a=l∨a=-l))):=by
 rw [Go.IntWalk.i64_in _ (by omega)] at h7
 have e7:x7=-l:=by omega
 rw [e7] at h8
 by_cases q:a=c<;>by_cases r:a=l<;>by_cases s:a=-l<;>simp [h10,h9,h5,h6,h8,b2i,q,r,s]<;>omega
theorem aae {s x y:Int} (hx:x=IntKind.i64.wrap (0-s)) (hy:y=if x>s then x else s) (h:-10800000<=s/\s<=10800000):y=max s (-s):=by
 rw [Go.IntWalk.i64_in _ (by omega)] at hx
 rw [hy,hx];split<;>omega
theorem Wp {s x y c:Int} (hc:c=b2i (decide (s<0))) (hx:x=IntKind.i64.wrap (0-s)) (hy:y=if c≠0 then x else s) (h:-10800000<=s/\s<=10800000):y=max s (-s):=by
 rw [Go.IntWalk.i64_in _ (by omega)] at hx
 rw [hy,hc,iO,hx];split<;>omega
theorem F7 (n:Int):gT (max (sgd n) (-(sgd n)))=true:=by
 have:=jb n;unfold gT;simp;omega
def dP:List Nd:=[
 .arg 0,
 .arg 1,
 .arg 2,
 .arg 3,
 .arg 4,
 .bin .neq .i64 (.n 0) (.n 2),
 .bin .sub .i64 (.c 0) (.n 0),
 .mx (.n 0) (.n 6),
 .bin .neq .i64 (.n 7) (.n 4),
 .ite (.n 5) (.c 1) (.n 8),
 .app 75 0 [.n 0,.n 1,.n 2,.n 3],
 .app 75 1 [.n 0,.n 1,.n 2,.n 3],
 .app 75 2 [.n 0,.n 1,.n 2,.n 3],
 .app 75 3 [.n 0,.n 1,.n 2,.n 3],
 .app 75 4 [.n 0,.n 1,.n 2,.n 3],
 .ite (.n 9) (.c 0) (.c 1),
 .bin .sub .i64 (.n 3) (.n 1),
 .bin .rem .i64 (.n 16) (.c 21600000),
 .bin .lss .i64 (.n 17) (.c 0),
 .bin .add .i64 (.n 17) (.c 21600000),
 .ite (.n 18) (.c 0) (.c 1),
 .ite (.n 18) (.n 19) (.n 17),
 .bin .geq .i64 (.n 21) (.c 10800000),
 .bin .sub .i64 (.n 21) (.c 21600000),
 .ite (.n 22) (.c 0) (.c 1),
 .ite (.n 22) (.n 23) (.n 21),
 .app 6 0 [.n 0,.n 0],
 .app 6 1 [.n 0,.n 0],
 .app 6 2 [.n 0,.n 0],
 .bin .neq .i64 (.n 28) (.c 0),
 .ite (.n 29) (.c 0) (.c 1),
 .bin .sub .i64 (.c 0) (.n 25),
 .mx (.n 25) (.n 31),
 .app 9 0 [.n 26,.n 27,.n 32],
 .app 9 1 [.n 26,.n 27,.n 32],
 .app 9 2 [.n 26,.n 27,.n 32],
 .bin .neq .i64 (.n 35) (.c 0),
 .ite (.n 36) (.c 0) (.c 1),
 .bin .lss .i64 (.n 25) (.c 0),
 .ite (.n 38) (.c 0) (.c 1),
 .ite (.n 38) (.c 16200000) (.c 5400000),
 .ite (.n 36) (.n 35) (.c 0),
 .ite (.n 36) (.c 0) (.n 40),
 .ite (.n 36) (.c 0) (.n 33),
 .ite (.n 36) (.c 0) (.n 34),
 .ite (.n 29) (.n 28) (.n 41),
 .ite (.n 29) (.n 28) (.n 35),
 .ite (.n 29) (.c 0) (.n 42),
 .ite (.n 29) (.c 0) (.n 43),
 .ite (.n 29) (.c 0) (.n 44),
 .ite (.n 9) (.n 14) (.n 45),
 .ite (.n 9) (.n 10) (.n 47),
 .ite (.n 9) (.n 11) (.n 47),
 .ite (.n 9) (.n 12) (.n 48),
 .ite (.n 9) (.n 13) (.n 49)]
def Q8:List Vc:=[
 ⟨[(.n 9,true)],.pre 75 [.n 0,.n 1,.n 2,.n 3]⟩,
 ⟨[(.n 15,true)],.pre 6 [.n 0,.n 0]⟩,
 ⟨[(.n 30,true),(.n 15,true)],.pre 9 [.n 26,.n 27,.n 32]⟩]
theorem Fw:whole Tryz.prog spW 20 40 68 [(true,[some .i64,some .i64]),(true,[some .i64,some .i64]),(false,[some .i64])]=some (.tup [.agg [.int .i64 (.n 51),.int .i64 (.n 52),.int .i64 (.n 53),.int .i64 (.n 54)],.c (.int .i64 (.n 50))],⟨dP.reverse,Q8.reverse⟩):=by kernel_rfl
theorem Dz:wfN dP.reverse=true:=by kernel_rfl
theorem TZ (a b c d l:Int) (w:World) (h1:PtV a b) (h2:PtV c d) (h3:1<=l/\l<5400000) (hc:a=c/\(a=l∨a=-l)):Calls Tryz.prog 68 #[.agg #[.int .i64 a,.int .i64 b],.agg #[.int .i64 c,.int .i64 d],.int .i64 l] w fun e w'=>e=.returned (.tuple #[.agg #[.int .i64 ((fe a b c d l).getD 0 0),.int .i64 ((fe a b c d l).getD 1 0),.int .i64 ((fe a b c d l).getD 2 0),.int .i64 ((fe a b c d l).getD 3 0)],.int .i64 0])/\Below w.heap.size w w':=by
 refine Sx.calls (X:=cxW [a,b,c,d,l]) dB (fw _) Fw Dz (fun v hs=>?_) w
 have e0:v 0=a:=ae hs 0 rfl;have e1:v 1=b:=ae hs 1 rfl;have e2:v 2=c:=ae hs 2 rfl;have e3:v 3=d:=ae hs 3 rfl;have e4:v 4=l:=ae hs 4 rfl;have T:v 9=b2i (decide (¬ (v 0=v 2/\(v 0=v 4∨v 0=-v 4)))):=Ak (x5:=v 5) (x6:=v 6) (x7:=v 7) (x8:=v 8) (ae hs 5 rfl) (ae hs 6 rfl) (ae hs 7 rfl) (ae hs 8 rfl) (ae hs 9 rfl) (by rw [e0];omega) (by rw [e4];omega)
 rw [e0,e2,e4] at T;have K:v 9=0:=by rw [T,decide_eq_false (not_not_intro hc)];rfl
 have e16:v 16=IntKind.i64.wrap (v 3-v 1):=ae hs 16 rfl;have w16:v 16=d-b:=by rw [e16,e3,e1,Go.IntWalk.i64_in _ (by omega)]
 have s25:v 25=sgd (d-b):=by
  rw [<-w16];exact mD (x:=v 16) (m:=v 17) (c:=v 18) (u:=v 19) (r:=v 21) (g:=v 22) (s:=v 23) (z:=v 25) (by omega) (ae hs 17 rfl) (ae hs 18 rfl) (ae hs 19 rfl) (ae hs 21 rfl) (ae hs 22 rfl) (ae hs 23 rfl) (ae hs 25 rfl)
 have sb:=jb (d-b)
 have w32:v 32=max (sgd (d-b)) (-(sgd (d-b))):=by
  have:=aae (s:=v 25) (x:=v 31) (y:=v 32) (ae hs 31 rfl) (ae hs 32 rfl) (by rw [s25];omega)
  rw [s25] at this;exact this
 have w40:v 40=if sgd (d-b)<0 then 16200000 else 5400000:=by
  have h:v 40=if v 38≠0 then (16200000:Int) else 5400000:=ae hs 40 rfl
  have h38:v 38=b2i (decide (v 25<0)):=(ae hs 38 rfl);rw [s25] at h38;rw [h,h38,iO]
 have e26:v 26=(aD 6 [v 0,v 0]).getD 0 0:=ae hs 26 rfl;have e27:v 27=(aD 6 [v 0,v 0]).getD 1 0:=ae hs 27 rfl;have P26:((v 26,v 27):IV)=uC (v 0) (v 0):=by rw [e26,e27];rfl
 have U26:U (v 26,v 27):=by rw [P26];exact U_C _ _
 have e33:v 33=(yf 9 [v 26,v 27,v 32]).getD 0 0:=ae hs 33 rfl;have e34:v 34=(yf 9 [v 26,v 27,v 32]).getD 1 0:=ae hs 34 rfl;have z51:v 51=v 40:=aJ (X:=cxW [a,b,c,d,l]) (v:=v) (l:=dP) (aG _) hs (k:=51) (j:=40) (ps:=[(9,.c 0)]) (af K ay) (by kernel_rfl)
 have z52:v 52=v 40:=aJ (X:=cxW [a,b,c,d,l]) (v:=v) (l:=dP) (aG _) hs (k:=52) (j:=40) (ps:=[(9,.c 0)]) (af K ay) (by kernel_rfl)
 have z53:v 53=v 33:=aJ (X:=cxW [a,b,c,d,l]) (v:=v) (l:=dP) (aG _) hs (k:=53) (j:=33) (ps:=[(9,.c 0)]) (af K ay) (by kernel_rfl)
 have z54:v 54=v 34:=aJ (X:=cxW [a,b,c,d,l]) (v:=v) (l:=dP) (aG _) hs (k:=54) (j:=34) (ps:=[(9,.c 0)]) (af K ay) (by kernel_rfl)
 have z50:v 50=0:=aI (X:=cxW [a,b,c,d,l]) (v:=v) (l:=dP) (aG _) hs (k:=50) (r:=.c 0) (ps:=[(9,.c 0)]) (nz:=[]) (af K ay) bf (by kernel_rfl)
 have A9:fxV (v 26) (v 27)=true/\gT (v 32)=true:=⟨dz U26,by rw [w32];exact F7 _⟩
 have Q0:v 26=(uC a a).1:=by have:=congrArg Prod.fst P26;rw [e0] at this;exact this
 have Q1:v 27=(uC a a).2:=by have:=congrArg Prod.snd P26;rw [e0] at this;exact this
 have S0:v 33=sD (uC a a).1 (uC a a).2 (max (sgd (d-b)) (-(sgd (d-b)))):=by rw [e33,Q0,Q1,w32];rfl
 have S1:v 34=rZ (uC a a).1 (uC a a).2 (max (sgd (d-b)) (-(sgd (d-b)))):=by rw [e34,Q0,Q1,w32];rfl
 have V:fe a b c d l=[v 40,v 40,v 33,v 34]:=by rw [w40,S0,S1];exact if_pos hc
 refine ⟨aU ?_,?_⟩
 . exact ag (fun _=>trivial) (ag (fun _=>(show dI (v 0) (v 0)=true from bi (by rw [e0];omega))) (ag (fun _=>A9) (aT)))
 . intro x hx0;have hx':=aW (v:=v) (by rfl) hx0
   rw [hx'];show Value.tuple #[.agg #[.int .i64 (v 51),.int .i64 (v 52),.int .i64 (v 53),.int .i64 (v 54)],.int .i64 (v 50)]=_;rw [V,z51,z52,z53,z54,z50];rfl
theorem Ue (a b c d l:Int) (w:World) (h1:PtV a b) (h2:PtV c d) (h3:1<=l/\l<5400000) (hc:¬ (a=c/\(a=l∨a=-l))):Calls Tryz.prog 68 #[.agg #[.int .i64 a,.int .i64 b],.agg #[.int .i64 c,.int .i64 d],.int .i64 l] w fun e w'=>e=.returned (.tuple #[.agg #[.int .i64 ((fe a b c d l).getD 0 0),.int .i64 ((fe a b c d l).getD 1 0),.int .i64 ((fe a b c d l).getD 2 0),.int .i64 ((fe a b c d l).getD 3 0)],.int .i64 0])/\Below w.heap.size w w':=by
 refine Sx.calls (X:=cxW [a,b,c,d,l]) dB (fw _) Fw Dz (fun v hs=>?_) w
 have e0:v 0=a:=ae hs 0 rfl;have e1:v 1=b:=ae hs 1 rfl;have e2:v 2=c:=ae hs 2 rfl;have e3:v 3=d:=ae hs 3 rfl;have e4:v 4=l:=ae hs 4 rfl;have T:v 9=b2i (decide (¬ (v 0=v 2/\(v 0=v 4∨v 0=-v 4)))):=Ak (x5:=v 5) (x6:=v 6) (x7:=v 7) (x8:=v 8) (ae hs 5 rfl) (ae hs 6 rfl) (ae hs 7 rfl) (ae hs 8 rfl) (ae hs 9 rfl) (by rw [e0];omega) (by rw [e4];omega)
 rw [e0,e2,e4] at T;have K:v 9=1:=by rw [T,decide_eq_true hc];rfl
 have e10:v 10=(yJ 75 [v 0,v 1,v 2,v 3]).getD 0 0:=ae hs 10 rfl;have e11:v 11=(yJ 75 [v 0,v 1,v 2,v 3]).getD 1 0:=ae hs 11 rfl;have e12:v 12=(yJ 75 [v 0,v 1,v 2,v 3]).getD 2 0:=ae hs 12 rfl;have e13:v 13=(yJ 75 [v 0,v 1,v 2,v 3]).getD 3 0:=ae hs 13 rfl;have e14:v 14=(yJ 75 [v 0,v 1,v 2,v 3]).getD 4 0:=ae hs 14 rfl;have z51:v 51=v 10:=aJ (X:=cxW [a,b,c,d,l]) (v:=v) (l:=dP) (aG _) hs (k:=51) (j:=10) (ps:=[(9,.c 1)]) (af K ay) (by kernel_rfl)
 have z52:v 52=v 11:=aJ (X:=cxW [a,b,c,d,l]) (v:=v) (l:=dP) (aG _) hs (k:=52) (j:=11) (ps:=[(9,.c 1)]) (af K ay) (by kernel_rfl)
 have z53:v 53=v 12:=aJ (X:=cxW [a,b,c,d,l]) (v:=v) (l:=dP) (aG _) hs (k:=53) (j:=12) (ps:=[(9,.c 1)]) (af K ay) (by kernel_rfl)
 have z54:v 54=v 13:=aJ (X:=cxW [a,b,c,d,l]) (v:=v) (l:=dP) (aG _) hs (k:=54) (j:=13) (ps:=[(9,.c 1)]) (af K ay) (by kernel_rfl)
 have I:invV a b c d=[(lK a b c d).getD 0 0,(lK a b c d).getD 1 0,(jH a b c d).getD 0 0,(jH a b c d).getD 1 0,0]:=if_pos ⟨h1,h2⟩;have i0:v 10=(invV a b c d).getD 0 0:=by rw [e10,e0,e1,e2,e3];rfl
 have i1:v 11=(invV a b c d).getD 1 0:=by rw [e11,e0,e1,e2,e3];rfl
 have i2:v 12=(invV a b c d).getD 2 0:=by rw [e12,e0,e1,e2,e3];rfl
 have i3:v 13=(invV a b c d).getD 3 0:=by rw [e13,e0,e1,e2,e3];rfl
 have i4:v 14=(invV a b c d).getD 4 0:=by rw [e14,e0,e1,e2,e3];rfl
 rw [I] at i0 i1 i2 i3 i4;have i4':v 14=0:=i4;have V:fe a b c d l=[v 10,v 11,v 12,v 13]:=by rw [i0,i1,i2,i3];exact if_neg hc
 have z50:v 50=0:=aI (X:=cxW [a,b,c,d,l]) (v:=v) (l:=dP) (aG _) hs (k:=50) (r:=.c 0) (ps:=[(9,.c 1),(14,.c 0)]) (nz:=[]) (af K (af i4' ay)) bf (by kernel_rfl)
 have z15:v 15=0:=aI (X:=cxW [a,b,c,d,l]) (v:=v) (l:=dP) (aG _) hs (k:=15) (r:=.c 0) (ps:=[(9,.c 1)]) (nz:=[]) (af K ay) bf (by kernel_rfl)
 refine ⟨aU ?_,?_⟩
 . exact ag (fun _=>trivial) (ag (fun hp=>absurd z15 (au hp).1) (ag (fun hp=>absurd z15 (au (au hp).2).1) (aT)))
 . intro x hx0;have hx':=aW (v:=v) (by rfl) hx0
   rw [hx'];show Value.tuple #[.agg #[.int .i64 (v 51),.int .i64 (v 52),.int .i64 (v 53),.int .i64 (v 54)],.int .i64 (v 50)]=_;rw [V,z51,z52,z53,z54,z50];rfl
theorem Yv (a b c d l:Int) (w:World) (h1:PtV a b) (h2:PtV c d) (h3:1<=l/\l<5400000):Calls Tryz.prog 68 #[.agg #[.int .i64 a,.int .i64 b],.agg #[.int .i64 c,.int .i64 d],.int .i64 l] w fun e w'=>e=.returned (.tuple #[.agg #[.int .i64 ((fe a b c d l).getD 0 0),.int .i64 ((fe a b c d l).getD 1 0),.int .i64 ((fe a b c d l).getD 2 0),.int .i64 ((fe a b c d l).getD 3 0)],.int .i64 0])/\Below w.heap.size w w':=by
 by_cases hc:a=c/\(a=l∨a=-l)
 . exact TZ a b c d l w h1 h2 h3 hc
 . exact Ue a b c d l w h1 h2 h3 hc
def fG:List Nd:=[
 .arg 0,
 .arg 1,
 .arg 2,
 .arg 3,
 .arg 4,
 .bin .eql .i64 (.n 0) (.n 2),
 .bin .eql .i64 (.n 0) (.n 4),
 .bin .sub .i64 (.c 0) (.n 4),
 .bin .eql .i64 (.n 0) (.n 7),
 .ite (.n 6) (.c 1) (.n 8),
 .ite (.n 5) (.n 9) (.c 0),
 .bin .sub .i64 (.n 3) (.n 1),
 .bin .rem .i64 (.n 11) (.c 21600000),
 .bin .lss .i64 (.n 12) (.c 0),
 .bin .add .i64 (.n 12) (.c 21600000),
 .ite (.n 13) (.c 0) (.c 1),
 .ite (.n 13) (.n 14) (.n 12),
 .bin .geq .i64 (.n 16) (.c 10800000),
 .bin .sub .i64 (.n 16) (.c 21600000),
 .ite (.n 17) (.c 0) (.c 1),
 .ite (.n 17) (.n 18) (.n 16),
 .bin .lss .i64 (.n 20) (.c 0),
 .bin .sub .i64 (.c 0) (.n 20),
 .ite (.n 21) (.c 0) (.c 1),
 .ite (.n 21) (.n 22) (.n 20),
 .ite (.n 21) (.c 16200000) (.c 5400000),
 .app 6 0 [.n 0,.n 0],
 .app 6 1 [.n 0,.n 0],
 .app 9 0 [.n 26,.n 27,.n 24],
 .app 9 1 [.n 26,.n 27,.n 24],
 .app 9 2 [.n 26,.n 27,.n 24],
 .ite (.n 10) (.c 0) (.c 1),
 .app 76 0 [.n 0,.n 1,.n 2,.n 3],
 .app 76 1 [.n 0,.n 1,.n 2,.n 3],
 .app 77 0 [.n 0,.n 1,.n 2,.n 3],
 .app 77 1 [.n 0,.n 1,.n 2,.n 3],
 .ite (.n 10) (.n 30) (.c 0),
 .ite (.n 10) (.n 25) (.n 32),
 .ite (.n 10) (.n 25) (.n 33),
 .ite (.n 10) (.n 28) (.n 34),
 .ite (.n 10) (.n 29) (.n 35)]
def VY:List Vc:=[
 ⟨[(.n 10,true)],.pre 6 [.n 0,.n 0]⟩,
 ⟨[(.n 10,true)],.pre 9 [.n 26,.n 27,.n 24]⟩,
 ⟨[(.n 31,true)],.pre 76 [.n 0,.n 1,.n 2,.n 3]⟩,
 ⟨[(.n 31,true)],.pre 77 [.n 0,.n 1,.n 2,.n 3]⟩]
theorem Kj:whole Tryz.prog spW 20 40 69 [(true,[some .i64,some .i64]),(true,[some .i64,some .i64]),(false,[some .i64])]=some (.tup [.agg [.int .i64 (.n 37),.int .i64 (.n 38),.int .i64 (.n 39),.int .i64 (.n 40)],.c (.int .i64 (.n 36))],⟨fG.reverse,VY.reverse⟩):=by kernel_rfl
theorem Je:wfN fG.reverse=true:=by kernel_rfl
theorem Xk (a b c d l:Int) (w:World) (h1:PtV a b) (h2:PtV c d) (h3:1<=l/\l<5400000) (hc:a=c/\(a=l∨a=-l)):Calls Tryz.prog 69 #[.agg #[.int .i64 a,.int .i64 b],.agg #[.int .i64 c,.int .i64 d],.int .i64 l] w fun e w'=>e=.returned (.tuple #[.agg #[.int .i64 ((fe a b c d l).getD 0 0),.int .i64 ((fe a b c d l).getD 1 0),.int .i64 ((fe a b c d l).getD 2 0),.int .i64 ((fe a b c d l).getD 3 0)],.int .i64 0])/\Below w.heap.size w w':=by
 refine Sx.calls (X:=cxW [a,b,c,d,l]) dB (fw _) Kj Je (fun v hs=>?_) w
 have e0:v 0=a:=ae hs 0 rfl;have e1:v 1=b:=ae hs 1 rfl;have e2:v 2=c:=ae hs 2 rfl;have e3:v 3=d:=ae hs 3 rfl;have e4:v 4=l:=ae hs 4 rfl;have T:v 10=b2i (decide (v 0=v 2/\(v 0=v 4∨v 0=-v 4))):=zU (x5:=v 5) (x6:=v 6) (x7:=v 7) (x8:=v 8) (x9:=v 9) (ae hs 5 rfl) (ae hs 6 rfl) (ae hs 7 rfl) (ae hs 8 rfl) (ae hs 9 rfl) (ae hs 10 rfl) (by rw [e4];omega)
 rw [e0,e2,e4] at T;have K:v 10=1:=by rw [T,decide_eq_true hc];rfl
 have e11:v 11=IntKind.i64.wrap (v 3-v 1):=ae hs 11 rfl;have w11:v 11=d-b:=by rw [e11,e3,e1,Go.IntWalk.i64_in _ (by omega)]
 have s20:v 20=sgd (d-b):=by
  rw [<-w11];exact mD (x:=v 11) (m:=v 12) (c:=v 13) (u:=v 14) (r:=v 16) (g:=v 17) (s:=v 18) (z:=v 20) (by omega) (ae hs 12 rfl) (ae hs 13 rfl) (ae hs 14 rfl) (ae hs 16 rfl) (ae hs 17 rfl) (ae hs 18 rfl) (ae hs 20 rfl)
 have sb:=jb (d-b)
 have w24:v 24=max (sgd (d-b)) (-(sgd (d-b))):=by
  have:=Wp (s:=v 20) (x:=v 22) (y:=v 24) (c:=v 21) (ae hs 21 rfl) (ae hs 22 rfl) (ae hs 24 rfl) (by rw [s20];omega)
  rw [s20] at this;exact this
 have w25:v 25=if sgd (d-b)<0 then 16200000 else 5400000:=by
  have h:v 25=if v 21≠0 then (16200000:Int) else 5400000:=ae hs 25 rfl
  have h21:v 21=b2i (decide (v 20<0)):=(ae hs 21 rfl);rw [s20] at h21;rw [h,h21,iO]
 have e26:v 26=(aD 6 [v 0,v 0]).getD 0 0:=ae hs 26 rfl;have e27:v 27=(aD 6 [v 0,v 0]).getD 1 0:=ae hs 27 rfl;have P26:((v 26,v 27):IV)=uC (v 0) (v 0):=by rw [e26,e27];rfl
 have U26:U (v 26,v 27):=by rw [P26];exact U_C _ _
 have e28:v 28=(yf 9 [v 26,v 27,v 24]).getD 0 0:=ae hs 28 rfl;have e29:v 29=(yf 9 [v 26,v 27,v 24]).getD 1 0:=ae hs 29 rfl;have z37:v 37=v 25:=aJ (X:=cxW [a,b,c,d,l]) (v:=v) (l:=fG) (aG _) hs (k:=37) (j:=25) (ps:=[(10,.c 1)]) (af K ay) (by kernel_rfl)
 have z38:v 38=v 25:=aJ (X:=cxW [a,b,c,d,l]) (v:=v) (l:=fG) (aG _) hs (k:=38) (j:=25) (ps:=[(10,.c 1)]) (af K ay) (by kernel_rfl)
 have z39:v 39=v 28:=aJ (X:=cxW [a,b,c,d,l]) (v:=v) (l:=fG) (aG _) hs (k:=39) (j:=28) (ps:=[(10,.c 1)]) (af K ay) (by kernel_rfl)
 have z40:v 40=v 29:=aJ (X:=cxW [a,b,c,d,l]) (v:=v) (l:=fG) (aG _) hs (k:=40) (j:=29) (ps:=[(10,.c 1)]) (af K ay) (by kernel_rfl)
 have z36:v 36=0:=aI (X:=cxW [a,b,c,d,l]) (v:=v) (l:=fG) (aG _) hs (k:=36) (r:=.c 0) (ps:=[(10,.c 1)]) (nz:=[]) (af K ay) bf (by kernel_rfl)
 have A9:fxV (v 26) (v 27)=true/\gT (v 24)=true:=⟨dz U26,by rw [w24];exact F7 _⟩
 have Q0:v 26=(uC a a).1:=by have:=congrArg Prod.fst P26;rw [e0] at this;exact this
 have Q1:v 27=(uC a a).2:=by have:=congrArg Prod.snd P26;rw [e0] at this;exact this
 have S0:v 28=sD (uC a a).1 (uC a a).2 (max (sgd (d-b)) (-(sgd (d-b)))):=by rw [e28,Q0,Q1,w24];rfl
 have S1:v 29=rZ (uC a a).1 (uC a a).2 (max (sgd (d-b)) (-(sgd (d-b)))):=by rw [e29,Q0,Q1,w24];rfl
 have V:fe a b c d l=[v 25,v 25,v 28,v 29]:=by rw [w25,S0,S1];exact if_pos hc
 have z31:v 31=0:=aI (X:=cxW [a,b,c,d,l]) (v:=v) (l:=fG) (aG _) hs (k:=31) (r:=.c 0) (ps:=[(10,.c 1)]) (nz:=[]) (af K ay) bf (by kernel_rfl)
 refine ⟨aU ?_,?_⟩
 . exact ag (fun _=>(show dI (v 0) (v 0)=true from bi (by rw [e0];omega))) (ag (fun _=>A9) (ag (fun hp=>absurd z31 (au hp).1) (ag (fun hp=>absurd z31 (au hp).1) (aT))))
 . intro x hx0;have hx':=aW (v:=v) (by rfl) hx0
   rw [hx'];show Value.tuple #[.agg #[.int .i64 (v 37),.int .i64 (v 38),.int .i64 (v 39),.int .i64 (v 40)],.int .i64 (v 36)]=_;rw [V,z37,z38,z39,z40,z36];rfl
theorem TC (a b c d l:Int) (w:World) (h1:PtV a b) (h2:PtV c d) (h3:1<=l/\l<5400000) (hc:¬ (a=c/\(a=l∨a=-l))):Calls Tryz.prog 69 #[.agg #[.int .i64 a,.int .i64 b],.agg #[.int .i64 c,.int .i64 d],.int .i64 l] w fun e w'=>e=.returned (.tuple #[.agg #[.int .i64 ((fe a b c d l).getD 0 0),.int .i64 ((fe a b c d l).getD 1 0),.int .i64 ((fe a b c d l).getD 2 0),.int .i64 ((fe a b c d l).getD 3 0)],.int .i64 0])/\Below w.heap.size w w':=by
 refine Sx.calls (X:=cxW [a,b,c,d,l]) dB (fw _) Kj Je (fun v hs=>?_) w
 have e0:v 0=a:=ae hs 0 rfl;have e1:v 1=b:=ae hs 1 rfl;have e2:v 2=c:=ae hs 2 rfl;have e3:v 3=d:=ae hs 3 rfl;have e4:v 4=l:=ae hs 4 rfl;have T:v 10=b2i (decide (v 0=v 2/\(v 0=v 4∨v 0=-v 4))):=zU (x5:=v 5) (x6:=v 6) (x7:=v 7) (x8:=v 8) (x9:=v 9) (ae hs 5 rfl) (ae hs 6 rfl) (ae hs 7 rfl) (ae hs 8 rfl) (ae hs 9 rfl) (ae hs 10 rfl) (by rw [e4];omega)
 rw [e0,e2,e4] at T;have K:v 10=0:=by rw [T,decide_eq_false hc];rfl
 have e32:v 32=(yJ 76 [v 0,v 1,v 2,v 3]).getD 0 0:=ae hs 32 rfl;have e33:v 33=(yJ 76 [v 0,v 1,v 2,v 3]).getD 1 0:=ae hs 33 rfl;have e34:v 34=(yJ 77 [v 0,v 1,v 2,v 3]).getD 0 0:=ae hs 34 rfl;have e35:v 35=(yJ 77 [v 0,v 1,v 2,v 3]).getD 1 0:=ae hs 35 rfl;have z37:v 37=v 32:=aJ (X:=cxW [a,b,c,d,l]) (v:=v) (l:=fG) (aG _) hs (k:=37) (j:=32) (ps:=[(10,.c 0)]) (af K ay) (by kernel_rfl)
 have z38:v 38=v 33:=aJ (X:=cxW [a,b,c,d,l]) (v:=v) (l:=fG) (aG _) hs (k:=38) (j:=33) (ps:=[(10,.c 0)]) (af K ay) (by kernel_rfl)
 have z39:v 39=v 34:=aJ (X:=cxW [a,b,c,d,l]) (v:=v) (l:=fG) (aG _) hs (k:=39) (j:=34) (ps:=[(10,.c 0)]) (af K ay) (by kernel_rfl)
 have z40:v 40=v 35:=aJ (X:=cxW [a,b,c,d,l]) (v:=v) (l:=fG) (aG _) hs (k:=40) (j:=35) (ps:=[(10,.c 0)]) (af K ay) (by kernel_rfl)
 have z36:v 36=0:=aI (X:=cxW [a,b,c,d,l]) (v:=v) (l:=fG) (aG _) hs (k:=36) (r:=.c 0) (ps:=[(10,.c 0)]) (nz:=[]) (af K ay) bf (by kernel_rfl)
 have i0:v 32=(lK a b c d).getD 0 0:=by rw [e32,e0,e1,e2,e3];rfl
 have i1:v 33=(lK a b c d).getD 1 0:=by rw [e33,e0,e1,e2,e3];rfl
 have i2:v 34=(jH a b c d).getD 0 0:=by rw [e34,e0,e1,e2,e3];rfl
 have i3:v 35=(jH a b c d).getD 1 0:=by rw [e35,e0,e1,e2,e3];rfl
 have V:fe a b c d l=[v 32,v 33,v 34,v 35]:=by rw [i0,i1,i2,i3];exact if_neg hc
 have A7:PtV (v 0) (v 1)/\PtV (v 2) (v 3):=by rw [e0,e1,e2,e3];exact ⟨h1,h2⟩
 refine ⟨aU ?_,?_⟩
 . exact ag (fun hp=>absurd K (au hp).1) (ag (fun hp=>absurd K (au hp).1) (ag (fun _=>A7) (ag (fun _=>A7) (aT))))
 . intro x hx0;have hx':=aW (v:=v) (by rfl) hx0
   rw [hx'];show Value.tuple #[.agg #[.int .i64 (v 37),.int .i64 (v 38),.int .i64 (v 39),.int .i64 (v 40)],.int .i64 (v 36)]=_;rw [V,z37,z38,z39,z40,z36];rfl
theorem YJ (a b c d l:Int) (w:World) (h1:PtV a b) (h2:PtV c d) (h3:1<=l/\l<5400000):Calls Tryz.prog 69 #[.agg #[.int .i64 a,.int .i64 b],.agg #[.int .i64 c,.int .i64 d],.int .i64 l] w fun e w'=>e=.returned (.tuple #[.agg #[.int .i64 ((fe a b c d l).getD 0 0),.int .i64 ((fe a b c d l).getD 1 0),.int .i64 ((fe a b c d l).getD 2 0),.int .i64 ((fe a b c d l).getD 3 0)],.int .i64 0])/\Below w.heap.size w w':=by
 by_cases hc:a=c/\(a=l∨a=-l)
 . exact Xk a b c d l w h1 h2 h3 hc
 . exact TC a b c d l w h1 h2 h3 hc
def Kh:List Nd:=[
 .arg 0,
 .arg 1,
 .bin .add .i64 (.n 0) (.n 1),
 .bin .quo .i64 (.n 2) (.c 2),
 .bin .rem .i64 (.n 2) (.c 2),
 .bin .lss .i64 (.n 4) (.c 0),
 .bin .sub .i64 (.n 3) (.c 1),
 .ite (.n 5) (.c 0) (.c 1),
 .ite (.n 5) (.n 6) (.n 3)]
def VL:List Vc:=[
 ]
theorem UZ:whole Tryz.prog spW 20 40 170 [(true,[some .i64,some .i64])]=some (.p (.c (.int .i64 (.n 8))),⟨Kh.reverse,VL.reverse⟩):=by kernel_rfl
theorem Vx:wfN Kh.reverse=true:=by kernel_rfl
theorem RZ (a b:Int) (w:World) (h1:0<=a/\a<=10800000) (h2:0<=b/\b<=10800000):Calls Tryz.prog 170 #[.agg #[.int .i64 a,.int .i64 b]] w fun e w'=>e=.returned (.int .i64 ((a+b)/2))/\Below w.heap.size w w':=by
 refine Sx.calls (X:=cxW [a,b]) dB (fw _) UZ Vx (fun v hs=>?_) w
 have e0:v 0=a:=ae hs 0 rfl;have e1:v 1=b:=ae hs 1 rfl;have e2:v 2=IntKind.i64.wrap (v 0+v 1):=ae hs 2 rfl;rw [e0,e1,Go.IntWalk.i64_in _ (by omega)] at e2
 have e3:v 3=IntKind.i64.wrap ((v 2).tdiv 2):=ae hs 3 rfl;have e4:v 4=(v 2).tmod 2:=ae hs 4 rfl;have e5:v 5=b2i (decide (v 4<0)):=ae hs 5 rfl;have e8:v 8=if v 5≠0 then v 6 else v 3:=ae hs 8 rfl
 rw [e2,Int.tdiv_eq_ediv_of_nonneg (by omega),Go.IntWalk.i64_in _ (by omega)] at e3
 rw [e2,Int.tmod_eq_emod_of_nonneg (by omega)] at e4
 rw [e4,decide_eq_false (by omega)] at e5
 have e9:v 8=(a+b)/2:=by rw [e8,e5,e3];rfl
 refine ⟨aU ?_,?_⟩
 . exact aT
 . intro x hx0;have hx':=aW (v:=v) (by rfl) hx0
   rw [hx'];show Value.int .i64 (v 8)=_;rw [e9]
def JM:List Nd:=[
 .arg 0,
 .arg 1,
 .bin .sub .i64 (.c 10800000) (.n 1),
 .bin .sub .i64 (.c 10800000) (.n 0)]
def WH:List Vc:=[
 ]
theorem Ux:whole Tryz.prog spW 20 40 66 [(true,[some .i64,some .i64])]=some (.p (.agg [.int .i64 (.n 2),.int .i64 (.n 3)]),⟨JM.reverse,WH.reverse⟩):=by kernel_rfl
theorem Uj:wfN JM.reverse=true:=by kernel_rfl
theorem RA (a b:Int) (w:World) (h1:0<=a/\a<=10800000) (h2:0<=b/\b<=10800000):Calls Tryz.prog 66 #[.agg #[.int .i64 a,.int .i64 b]] w fun e w'=>e=.returned (.agg #[.int .i64 (10800000-b),.int .i64 (10800000-a)])/\Below w.heap.size w w':=by
 refine Sx.calls (X:=cxW [a,b]) dB (fw _) Ux Uj (fun v hs=>?_) w
 have e0:v 0=a:=ae hs 0 rfl;have e1:v 1=b:=ae hs 1 rfl;have e2:v 2=IntKind.i64.wrap (10800000-v 1):=ae hs 2 rfl;have e3:v 3=IntKind.i64.wrap (10800000-v 0):=ae hs 3 rfl;rw [e1,Go.IntWalk.i64_in _ (by omega)] at e2
 rw [e0,Go.IntWalk.i64_in _ (by omega)] at e3
 refine ⟨aU ?_,?_⟩
 . exact aT
 . intro x hx0;have hx':=aW (v:=v) (by rfl) hx0
   rw [hx'];show Value.agg #[.int .i64 (v 2),.int .i64 (v 3)]=_;rw [e2,e3]
