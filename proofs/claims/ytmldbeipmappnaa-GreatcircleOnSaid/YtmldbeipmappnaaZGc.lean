/- The contracts of greatcircle.Inverse and of the reference's Course and Distance. -/
import Derived.Test.YtmldbeipmappnaaZHav
import Derived.Test.YtmldbeipmappnaaZUAdd
set_option linter.unusedVariables false
set_option linter.unusedSimpArgs false
set_option maxRecDepth 100000
set_option maxHeartbeats 4000000
namespace Alm
theorem OT {a b c d:Int} (h1:0<=a) (h2:a<=b) (h3:0<=c) (h4:c<=d):0<=min (min (min (a*c) (a*d)) (b*c)) (b*d):=by
 have m1:=Int.mul_nonneg h1 h3;have m2:=Int.mul_nonneg h1 (show 0<=d by omega)
 have m3:=Int.mul_nonneg (show 0<=b by omega) h3
 have m4:=Int.mul_nonneg (show 0<=b by omega) (show 0<=d by omega)
 generalize a*c=x1 at *
 generalize a*d=x2 at *
 generalize b*c=x3 at *
 generalize b*d=x4 at *
 omega
end Alm
namespace Go.Proofs.Ytmldbeipmappnaa
open Go.RowKit Alm Sx
theorem QJ (n:Int) (h:0<=n/\n<=10800000):0<=bLo n:=by
 have b:=fB n;have s:=xL _ b.1 b.2;unfold bLo aR;rw [if_neg (by unfold ak;simp;omega)]
 exact s.1
theorem H5 (n:Int) (h:-5400000<=n/\n<=5400000):0<=(uC n n).1:=by
 have a:=QJ (n+5400000) (by omega)
 show 0<=dJ (n+5400000) (n+5400000);unfold dJ;rw [if_neg (by unfold bI ak;simp;omega)]
 omega
theorem Ox {p q:IV} (hp:U p) (hq:U q) (h1:0<=p.1) (h2:0<=q.1):0<=(uM p q).1:=by
 rw [(U_M hp hq).1];show 0<=fI p.1 p.2 q.1 q.2;unfold fI mn4;have:=OT h1 hp.2.1 h2 hq.2.1;omega
def uH (n:Int):IV:=(sZ n n,qG n n)
theorem U_H (n:Int):U (uH n):=by
 have:=AC n n;unfold U uH;simp only;omega
theorem Dv (n:Int):InE (uH n).1 (uH n).2 (1/2*(1-cg n)) ee:=by
 have h:=kX n n n (.inl rfl);have up:=dQ;have on:=eB;unfold InE at *
 show ((sZ n n:Int):Rat)*u30-ee<=_/\_<=((qG n n:Int):Rat)*u30+ee;have l:2*sZ n n<=1073741824-dN (n+5400000) (n+5400000):=by unfold sZ;omega
 have r:1073741824-dJ (n+5400000) (n+5400000)<=2*qG n n:=by unfold qG;omega
 generalize dN (n+5400000) (n+5400000)=H at *
 generalize dJ (n+5400000) (n+5400000)=L at *
 generalize sZ n n=x at *
 generalize qG n n=y at *
 have l1:((2*x:Int):Rat)<=((1073741824-H:Int):Rat):=Rat.intCast_le_intCast.2 l;have r1:((1073741824-L:Int):Rat)<=((2*y:Int):Rat):=Rat.intCast_le_intCast.2 r;rw [Rat.intCast_mul,Rat.intCast_sub] at l1 r1;have l2:=Rat.mul_le_mul_of_nonneg_right l1 (Rat.le_of_lt up);have r2:=Rat.mul_le_mul_of_nonneg_right r1 (Rat.le_of_lt up);have c2:((2:Int):Rat)=2:=rfl;have c30:((1073741824:Int):Rat)=1073741824:=rfl;rw [c2,c30] at l2 r2
 constructor<;>grind
def gI (a c d:Int):IV:=uA (uH (c-a)) (uM (uM (uC a a) (uC c c)) (uH d))
theorem oG (a c d:Int) (ha:-5400000<=a/\a<=5400000) (hc:-5400000<=c/\c<=5400000):(gI a c d).1<=1073741824/\0<=(gI a c d).2:=by
 have um:=(U_M (U_C a a) (U_C c c)).2.2;have um2:=(U_M um (U_H d)).2.2;have eA:=(U_A (U_H (c-a)) um2).1
 constructor
 . have p1:(0:Rat)<=2*ee:=by have:=bB;grind
   have ep:=bB;have hca:=kX a a a (.inl rfl);have hcc:=kX c c c (.inl rfl);have o1:=bX a;have o2:=bX c;have o3:=bX d;have ba:=g1 a;have bc:=g1 c;have M2:=jC (U_C a a) (U_C c c) hca hcc p1 p1 ba.1
   have m2:-1<=cg a*cg c/\cg a*cg c<=1:=by
    have a1:=ba.1;have a2:=bc.1;unfold O1 at a1 a2;have q1:=Rat.mul_nonneg (show 0<=1-cg a by grind) (show 0<=1-cg c by grind)
    have q2:=Rat.mul_nonneg (show 0<=1-cg a by grind) (show 0<=1+cg c by grind)
    have q3:=Rat.mul_nonneg (show 0<=1+cg a by grind) (show 0<=1-cg c by grind)
    have q4:=Rat.mul_nonneg (show 0<=1+cg a by grind) (show 0<=1+cg c by grind)
    constructor<;>grind
   have M3:=jC um (U_H d) M2 (Dv d) (by grind) (by grind) m2
   have A:=Jt (U_H (c-a)) um2 (Dv (c-a)) M3;have O:=DK o1 o2 o3;have D:=lQ a c;unfold Nr at D;have big:50*ee<u30:=by rw [dB];unfold ee;decide +kernel
   unfold InE at A;have up:=dQ;show (uA _ _).1<=_;generalize (uA (uH (c-a)) (uM (uM (uC a a) (uC c c)) (uH d))).1=L at *
   have e1:((1073741824:Int):Rat)*u30=1:=eB;refine Int.not_lt.1 fun hh=>?_
   have h1:((1073741824+1:Int):Rat)<=(L:Rat):=Rat.intCast_le_intCast.2 (by omega)
   rw [Rat.intCast_add] at h1;have h2:=Rat.mul_le_mul_of_nonneg_right h1 (Rat.le_of_lt up)
   have e3:(((1073741824:Int):Rat)+((1:Int):Rat))*u30=((1073741824:Int):Rat)*u30+u30:=by
    have:((1:Int):Rat)=1:=rfl;rw [this];grind
   rw [e3,e1] at h2;grind
 . unfold gI;rw [eA];have n1:=Ox (U_C a a) (U_C c c) (H5 a ha) (H5 c hc);have n2:=Ox um (U_H d) n1 (AC d d).1;have n3:=AC (c-a) (c-a);have n4:=um2.2.1;show 0<=(uH (c-a)).2+(uM (uM (uC a a) (uC c c)) (uH d)).2;have:0<=(uH (c-a)).2:=by show 0<=qG _ _;omega
   omega
def sgd (n:Int):Int:=if n%21600000>=10800000 then n%21600000-21600000 else n%21600000
theorem uf (n:Int):-10800000<=sgd n/\sgd n<10800000:=by unfold sgd;split<;>omega
theorem nV {x m c u r g s z:Int} (hx:-100000000<=x/\x<=100000000) (hm:m=Int.tmod x 21600000) (hc:c=b2i (decide (m<0))) (hu:u=IntKind.i64.wrap (m+21600000)) (hr:r=if c≠0 then u else m) (hg:g=b2i (decide (r>=10800000))) (hs:s=IntKind.i64.wrap (r-21600000)) (hz:z=if g≠0 then s else r):z=sgd x:=by
 have b1:=Int.tmod_lt_of_pos x (show (0:Int)<21600000 by omega)
 have b2:=Int.tmod_lt_of_pos (-x) (show (0:Int)<21600000 by omega)
 rw [Int.neg_tmod] at b2;rw [Go.IntWalk.i64_in _ (by omega)] at hu
 have er:r=x%21600000:=by
  rw [hr,hc];rcases Int.le_total 0 x with h|h
  . have e:x.tmod 21600000=x%21600000:=Int.tmod_eq_emod_of_nonneg h;rw [decide_eq_false (by omega),if_neg (by decide),hm,e]
  . have e:(-x).tmod 21600000=(-x)%21600000:=Int.tmod_eq_emod_of_nonneg (by omega)
    rw [Int.neg_tmod] at e
    by_cases g:m<0
    . rw [decide_eq_true g,if_pos (by decide),hu];omega
    . rw [decide_eq_false g,if_neg (by decide)];omega
 rw [Go.IntWalk.i64_in _ (by omega)] at hs
 rw [hz,hg,ko,hs,er];rfl
def bY (a b c d:Int):List Int:=[yu (gI a c (sgd (d-b))).1 (gI a c (sgd (d-b))).2,wU (gI a c (sgd (d-b))).1 (gI a c (sgd (d-b))).2,0]
def il (c e:Int):IV:=uM (uS e e) (uC c c)
def iL (a c e:Int):IV:=uD (uM (uC a a) (uS c c)) (uM (uM (uS a a) (uC c c)) (uC e e))
def bA (a b c d:Int):List Int:=[bz (il c (sgd (d-b))).1 (il c (sgd (d-b))).2 (iL a c (sgd (d-b))).1 (iL a c (sgd (d-b))).2,bJ (il c (sgd (d-b))).1 (il c (sgd (d-b))).2 (iL a c (sgd (d-b))).1 (iL a c (sgd (d-b))).2,0]
theorem jc (a b c d:Int):(bY a b c d).getD 0 0=yu (gI a c (sgd (d-b))).1 (gI a c (sgd (d-b))).2/\(bY a b c d).getD 1 0=wU (gI a c (sgd (d-b))).1 (gI a c (sgd (d-b))).2/\(bY a b c d).getD 2 0=0:=qZ _ _ _
theorem iV (a b c d:Int):(bA a b c d).getD 0 0=bz (il c (sgd (d-b))).1 (il c (sgd (d-b))).2 (iL a c (sgd (d-b))).1 (iL a c (sgd (d-b))).2/\(bA a b c d).getD 1 0=bJ (il c (sgd (d-b))).1 (il c (sgd (d-b))).2 (iL a c (sgd (d-b))).1 (iL a c (sgd (d-b))).2/\(bA a b c d).getD 2 0=0:=qZ _ _ _
abbrev PtV (a b:Int):Prop:=(-5400000<=a/\a<=5400000)/\(-10800000<=b/\b<10800000)
def kM (f:Nat):Bool:=f==73 || f==74
def lu:Nat->List Int->List Int
 | 73,[a,b]=>VX a b
 | 74,[a,b]=>VH a b
 | _,_=>[]
def VP:Nat->List Int->Prop
 | 73,[a,b]=>dA a b=true
 | 74,[a,b]=>KU a b
 | _,_=>False
def cxM (args:List Int):Cx:=(cxA args).plus kM lu VP
theorem OD (args:List Int):xR (cxM args):=nZ (Ob args) fun f h=>by
 unfold kM;rcases h with h|rfl
 . simp;omega
 . rfl
def Ud:Sx.Spec:=⟨121,73,[(true,[some .i64,some .i64])],[(true,[some .i64,some .i64]),(false,[some .i64])]⟩
def Wj:Sx.Spec:=Ud
def Ov:Sx.Spec:=⟨122,74,[(true,[some .i64,some .i64])],[(true,[some .i64,some .i64]),(false,[some .i64])]⟩
def VB:Sx.Spec:=Ov
theorem Ql:∀ s∈FO,kM s.id=false:=IQ kM fun f h=>by unfold kM;simp;omega
def spM:List Sx.Spec:=FO++[Ud,Wj,Ov,VB]
theorem lD (args:List Int):∀ s∈spM,aL Try.prog (cxM args) s:=by
 intro s hs;rcases List.mem_append.1 hs with h|h
 . exact mM (Ql s h) (C9 args s h)
 . simp only [List.mem_cons,List.not_mem_nil,or_false] at h;rcases h with rfl|rfl|rfl|rfl
   . refine dV rfl (ours _ _ _ Try.func121 rfl (by kernel_rfl)) fun xs hp w=>?_
     match xs,hp with
     | [a,b],hp=>exact KA a b w hp
   . refine dV rfl (ours _ _ _ Try.func121 rfl (by kernel_rfl)) fun xs hp w=>?_
     match xs,hp with
     | [a,b],hp=>exact KA a b w hp
   . refine dV rfl (ours _ _ _ Try.func122 rfl (by kernel_rfl)) fun xs hp w=>?_
     match xs,hp with
     | [a,b],hp=>exact IE a b w hp
   . refine dV rfl (ours _ _ _ Try.func122 rfl (by kernel_rfl)) fun xs hp w=>?_
     match xs,hp with
     | [a,b],hp=>exact IE a b w hp
def UX (t:Tab):Nd->Option Rf
 | .app 73 2 [_,_]=>some (.c 0)
 | .app 74 2 [_,_]=>some (.c 0)
 | .app 46 2 [_,_]=>some (.c 0)
 | .app 20 0 []=>some (.c 1)
 | x=>IZ t x
theorem bv (args:List Int):jJ (cxM args) UX:=by
 intro v t x r ht h;unfold UX at h;split at h
 . cases h;rfl
 . cases h;rfl
 . cases h;rfl
 . cases h;rfl
 . exact yf (OD args) v t x r ht h
theorem ahV (x y:Int):(lu 74 [x,y]).getD 0 0=yu x y/\(lu 74 [x,y]).getD 1 0=wU x y:=⟨(qZ _ _ _).1,(qZ _ _ _).2.1⟩
theorem dw {n:Int} (h:-100000000<=n/\n<=100000000):dA n n=true:=(cO _ _).2 (by omega)
def bT:List Nd:=[
 .arg 0,
 .arg 1,
 .arg 2,
 .arg 3,
 .bin .geq .i64 (.n 0) (.c (-5400000)),
 .bin .leq .i64 (.n 0) (.c 5400000),
 .ite (.n 4) (.n 5) (.c 0),
 .bin .geq .i64 (.n 1) (.c (-10800000)),
 .ite (.n 6) (.n 7) (.c 0),
 .bin .lss .i64 (.n 1) (.c 10800000),
 .ite (.n 8) (.n 9) (.c 0),
 .ite (.n 10) (.c 0) (.c 1),
 .bin .geq .i64 (.n 2) (.c (-5400000)),
 .bin .leq .i64 (.n 2) (.c 5400000),
 .ite (.n 12) (.n 13) (.c 0),
 .bin .geq .i64 (.n 3) (.c (-10800000)),
 .ite (.n 14) (.n 15) (.c 0),
 .bin .lss .i64 (.n 3) (.c 10800000),
 .ite (.n 16) (.n 17) (.c 0),
 .ite (.n 18) (.c 0) (.c 1),
 .ite (.n 11) (.c 1) (.n 19),
 .ite (.n 20) (.c 0) (.c 1),
 .bin .sub .i64 (.n 3) (.n 1),
 .bin .rem .i64 (.n 22) (.c 21600000),
 .bin .lss .i64 (.n 23) (.c 0),
 .bin .add .i64 (.n 23) (.c 21600000),
 .ite (.n 24) (.c 0) (.c 1),
 .ite (.n 24) (.n 25) (.n 23),
 .bin .geq .i64 (.n 27) (.c 10800000),
 .bin .sub .i64 (.n 27) (.c 21600000),
 .ite (.n 28) (.c 0) (.c 1),
 .ite (.n 28) (.n 29) (.n 27),
 .app 5 0 [.n 31,.n 31],
 .app 5 1 [.n 31,.n 31],
 .app 5 2 [.n 31,.n 31],
 .app 6 0 [.n 2,.n 2],
 .app 6 1 [.n 2,.n 2],
 .app 6 2 [.n 2,.n 2],
 .bin .eql .i64 (.n 34) (.c 0),
 .ite (.n 38) (.c 0) (.c 1),
 .ite (.n 38) (.n 37) (.n 34),
 .app 0 0 [.n 32,.n 33,.n 35,.n 36],
 .app 0 1 [.n 32,.n 33,.n 35,.n 36],
 .app 0 2 [.n 32,.n 33,.n 35,.n 36],
 .bin .eql .i64 (.n 40) (.c 0),
 .ite (.n 44) (.c 0) (.c 1),
 .ite (.n 44) (.n 43) (.n 40),
 .app 6 0 [.n 0,.n 0],
 .app 6 1 [.n 0,.n 0],
 .app 6 2 [.n 0,.n 0],
 .bin .eql .i64 (.n 46) (.c 0),
 .ite (.n 50) (.c 0) (.c 1),
 .ite (.n 50) (.n 49) (.n 46),
 .app 5 0 [.n 2,.n 2],
 .app 5 1 [.n 2,.n 2],
 .app 5 2 [.n 2,.n 2],
 .bin .eql .i64 (.n 52) (.c 0),
 .ite (.n 56) (.c 0) (.c 1),
 .ite (.n 56) (.n 55) (.n 52),
 .app 0 0 [.n 47,.n 48,.n 53,.n 54],
 .app 0 1 [.n 47,.n 48,.n 53,.n 54],
 .app 0 2 [.n 47,.n 48,.n 53,.n 54],
 .bin .eql .i64 (.n 58) (.c 0),
 .ite (.n 62) (.c 0) (.c 1),
 .ite (.n 62) (.n 61) (.n 58),
 .app 5 0 [.n 0,.n 0],
 .app 5 1 [.n 0,.n 0],
 .app 5 2 [.n 0,.n 0],
 .bin .eql .i64 (.n 64) (.c 0),
 .ite (.n 68) (.c 0) (.c 1),
 .ite (.n 68) (.n 67) (.n 64),
 .bin .eql .i64 (.n 70) (.c 0),
 .ite (.n 71) (.c 0) (.c 1),
 .ite (.n 71) (.n 37) (.n 70),
 .app 0 0 [.n 65,.n 66,.n 35,.n 36],
 .app 0 1 [.n 65,.n 66,.n 35,.n 36],
 .app 0 2 [.n 65,.n 66,.n 35,.n 36],
 .bin .eql .i64 (.n 73) (.c 0),
 .ite (.n 77) (.c 0) (.c 1),
 .ite (.n 77) (.n 76) (.n 73),
 .app 6 0 [.n 31,.n 31],
 .app 6 1 [.n 31,.n 31],
 .app 6 2 [.n 31,.n 31],
 .bin .eql .i64 (.n 79) (.c 0),
 .ite (.n 83) (.c 0) (.c 1),
 .ite (.n 83) (.n 82) (.n 79),
 .app 0 0 [.n 74,.n 75,.n 80,.n 81],
 .app 0 1 [.n 74,.n 75,.n 80,.n 81],
 .app 0 2 [.n 74,.n 75,.n 80,.n 81],
 .bin .eql .i64 (.n 85) (.c 0),
 .ite (.n 89) (.c 0) (.c 1),
 .ite (.n 89) (.n 88) (.n 85),
 .app 2 0 [.n 59,.n 60,.n 86,.n 87],
 .app 2 1 [.n 59,.n 60,.n 86,.n 87],
 .app 2 2 [.n 59,.n 60,.n 86,.n 87],
 .bin .eql .i64 (.n 91) (.c 0),
 .ite (.n 95) (.c 0) (.c 1),
 .ite (.n 95) (.n 94) (.n 91),
 .app 7 0 [.n 41,.n 42,.n 92,.n 93],
 .app 7 1 [.n 41,.n 42,.n 92,.n 93],
 .app 7 2 [.n 41,.n 42,.n 92,.n 93],
 .bin .eql .i64 (.n 97) (.c 0),
 .ite (.n 101) (.c 0) (.c 1),
 .ite (.n 101) (.n 100) (.n 97),
 .bin .eql .i64 (.n 103) (.c 0),
 .ite (.n 104) (.c 0) (.c 1),
 .ite (.n 104) (.n 49) (.n 103),
 .bin .eql .i64 (.n 106) (.c 0),
 .ite (.n 107) (.c 0) (.c 1),
 .ite (.n 107) (.n 37) (.n 106),
 .app 0 0 [.n 47,.n 48,.n 35,.n 36],
 .app 0 1 [.n 47,.n 48,.n 35,.n 36],
 .app 0 2 [.n 47,.n 48,.n 35,.n 36],
 .bin .eql .i64 (.n 109) (.c 0),
 .ite (.n 113) (.c 0) (.c 1),
 .ite (.n 113) (.n 112) (.n 109),
 .app 73 0 [.n 31,.n 31],
 .app 73 1 [.n 31,.n 31],
 .app 73 2 [.n 31,.n 31],
 .bin .eql .i64 (.n 115) (.c 0),
 .ite (.n 119) (.c 0) (.c 1),
 .ite (.n 119) (.n 118) (.n 115),
 .app 0 0 [.n 110,.n 111,.n 116,.n 117],
 .app 0 1 [.n 110,.n 111,.n 116,.n 117],
 .app 0 2 [.n 110,.n 111,.n 116,.n 117],
 .bin .eql .i64 (.n 121) (.c 0),
 .ite (.n 125) (.c 0) (.c 1),
 .ite (.n 125) (.n 124) (.n 121),
 .bin .sub .i64 (.n 2) (.n 0),
 .app 73 0 [.n 128,.n 128],
 .app 73 1 [.n 128,.n 128],
 .app 73 2 [.n 128,.n 128],
 .bin .eql .i64 (.n 127) (.c 0),
 .ite (.n 132) (.c 0) (.c 1),
 .ite (.n 132) (.n 131) (.n 127),
 .app 1 0 [.n 129,.n 130,.n 122,.n 123],
 .app 1 1 [.n 129,.n 130,.n 122,.n 123],
 .app 1 2 [.n 129,.n 130,.n 122,.n 123],
 .bin .eql .i64 (.n 134) (.c 0),
 .ite (.n 138) (.c 0) (.c 1),
 .ite (.n 138) (.n 137) (.n 134),
 .app 74 0 [.n 135,.n 136],
 .app 74 1 [.n 135,.n 136],
 .app 74 2 [.n 135,.n 136],
 .bin .eql .i64 (.n 140) (.c 0),
 .ite (.n 144) (.c 0) (.c 1),
 .ite (.n 144) (.n 143) (.n 140),
 .bin .neq .i64 (.n 146) (.c 0),
 .ite (.n 147) (.c 0) (.c 1),
 .ite (.n 147) (.n 146) (.c 0),
 .ite (.n 147) (.c 0) (.n 98),
 .ite (.n 147) (.c 0) (.n 99),
 .ite (.n 147) (.c 0) (.n 141),
 .ite (.n 147) (.c 0) (.n 142),
 .ite (.n 20) (.c 1) (.n 149),
 .ite (.n 20) (.c 0) (.n 150),
 .ite (.n 20) (.c 0) (.n 151),
 .ite (.n 20) (.c 0) (.n 152),
 .ite (.n 20) (.c 0) (.n 153)]
def NS:List Vc:=[
 ⟨[(.n 21,true)],.pre 5 [.n 31,.n 31]⟩,
 ⟨[(.n 21,true)],.pre 6 [.n 2,.n 2]⟩,
 ⟨[(.n 21,true)],.pre 0 [.n 32,.n 33,.n 35,.n 36]⟩,
 ⟨[(.n 21,true)],.pre 6 [.n 0,.n 0]⟩,
 ⟨[(.n 21,true)],.pre 5 [.n 2,.n 2]⟩,
 ⟨[(.n 21,true)],.pre 0 [.n 47,.n 48,.n 53,.n 54]⟩,
 ⟨[(.n 21,true)],.pre 5 [.n 0,.n 0]⟩,
 ⟨[(.n 21,true)],.pre 6 [.n 2,.n 2]⟩,
 ⟨[(.n 21,true)],.pre 0 [.n 65,.n 66,.n 35,.n 36]⟩,
 ⟨[(.n 21,true)],.pre 6 [.n 31,.n 31]⟩,
 ⟨[(.n 21,true)],.pre 0 [.n 74,.n 75,.n 80,.n 81]⟩,
 ⟨[(.n 21,true)],.pre 2 [.n 59,.n 60,.n 86,.n 87]⟩,
 ⟨[(.n 21,true)],.pre 7 [.n 41,.n 42,.n 92,.n 93]⟩,
 ⟨[(.n 21,true)],.pre 6 [.n 0,.n 0]⟩,
 ⟨[(.n 21,true)],.pre 6 [.n 2,.n 2]⟩,
 ⟨[(.n 21,true)],.pre 0 [.n 47,.n 48,.n 35,.n 36]⟩,
 ⟨[(.n 21,true)],.pre 73 [.n 31,.n 31]⟩,
 ⟨[(.n 21,true)],.pre 0 [.n 110,.n 111,.n 116,.n 117]⟩,
 ⟨[(.n 21,true)],.pre 73 [.n 128,.n 128]⟩,
 ⟨[(.n 21,true)],.pre 1 [.n 129,.n 130,.n 122,.n 123]⟩,
 ⟨[(.n 21,true)],.pre 74 [.n 135,.n 136]⟩]
theorem Em:whole Try.prog spM 20 40 14 [(true,[some .i64,some .i64]),(true,[some .i64,some .i64])]=some (.tup [.agg [.int .i64 (.n 155),.int .i64 (.n 156),.int .i64 (.n 157),.int .i64 (.n 158)],.c (.int .i64 (.n 154))],⟨bT.reverse,NS.reverse⟩):=by kernel_rfl
theorem Dw:wfN bT.reverse=true:=by kernel_rfl
theorem JV (a b c d:Int) (w:World) (h1:PtV a b) (h2:PtV c d):Calls Try.prog 14 #[.agg #[.int .i64 a,.int .i64 b],.agg #[.int .i64 c,.int .i64 d]] w fun e w'=>e=.returned (.tuple #[.agg #[.int .i64 ((bA a b c d).getD 0 0),.int .i64 ((bA a b c d).getD 1 0),.int .i64 ((bY a b c d).getD 0 0),.int .i64 ((bY a b c d).getD 1 0)],.int .i64 0])/\Below w.heap.size w w':=by
 refine Sx.calls (X:=cxM [a,b,c,d]) fE (lD _) Em Dw (fun v hs=>?_) w
 have e0:v 0=a:=ag hs 0 rfl;have e1:v 1=b:=ag hs 1 rfl;have e2:v 2=c:=ag hs 2 rfl;have e3:v 3=d:=ag hs 3 rfl;have e22:v 22=IntKind.i64.wrap (v 3-v 1):=ag hs 22 rfl;have w22:v 22=d-b:=by rw [e22,e3,e1,Go.IntWalk.i64_in _ (by omega)]
 have s31:v 31=sgd (d-b):=by
  rw [<-w22];exact nV (x:=v 22) (m:=v 23) (c:=v 24) (u:=v 25) (r:=v 27) (g:=v 28) (s:=v 29) (z:=v 31) (by omega) (ag hs 23 rfl) (ag hs 24 rfl) (ag hs 25 rfl) (ag hs 27 rfl) (ag hs 28 rfl) (ag hs 29 rfl) (ag hs 31 rfl)
 have sb:=uf (d-b);have e32:v 32=(aB 5 [v 31,v 31]).getD 0 0:=ag hs 32 rfl;have e33:v 33=(aB 5 [v 31,v 31]).getD 1 0:=ag hs 33 rfl;have P32:((v 32,v 33):IV)=uS (v 31) (v 31):=by rw [e32,e33];rfl
 have U32:U (v 32,v 33):=by rw [P32];exact U_S _ _
 have e35:v 35=(aB 6 [v 2,v 2]).getD 0 0:=ag hs 35 rfl;have e36:v 36=(aB 6 [v 2,v 2]).getD 1 0:=ag hs 36 rfl;have P35:((v 35,v 36):IV)=uC (v 2) (v 2):=by rw [e35,e36];rfl
 have U35:U (v 35,v 36):=by rw [P35];exact U_C _ _
 have e47:v 47=(aB 6 [v 0,v 0]).getD 0 0:=ag hs 47 rfl;have e48:v 48=(aB 6 [v 0,v 0]).getD 1 0:=ag hs 48 rfl;have P47:((v 47,v 48):IV)=uC (v 0) (v 0):=by rw [e47,e48];rfl
 have U47:U (v 47,v 48):=by rw [P47];exact U_C _ _
 have e53:v 53=(aB 5 [v 2,v 2]).getD 0 0:=ag hs 53 rfl;have e54:v 54=(aB 5 [v 2,v 2]).getD 1 0:=ag hs 54 rfl;have P53:((v 53,v 54):IV)=uS (v 2) (v 2):=by rw [e53,e54];rfl
 have U53:U (v 53,v 54):=by rw [P53];exact U_S _ _
 have e65:v 65=(aB 5 [v 0,v 0]).getD 0 0:=ag hs 65 rfl;have e66:v 66=(aB 5 [v 0,v 0]).getD 1 0:=ag hs 66 rfl;have P65:((v 65,v 66):IV)=uS (v 0) (v 0):=by rw [e65,e66];rfl
 have U65:U (v 65,v 66):=by rw [P65];exact U_S _ _
 have e80:v 80=(aB 6 [v 31,v 31]).getD 0 0:=ag hs 80 rfl;have e81:v 81=(aB 6 [v 31,v 31]).getD 1 0:=ag hs 81 rfl;have P80:((v 80,v 81):IV)=uC (v 31) (v 31):=by rw [e80,e81];rfl
 have U80:U (v 80,v 81):=by rw [P80];exact U_C _ _
 have e41:v 41=(aB 0 [v 32,v 33,v 35,v 36]).getD 0 0:=ag hs 41 rfl;have e42:v 42=(aB 0 [v 32,v 33,v 35,v 36]).getD 1 0:=ag hs 42 rfl;have P41:((v 41,v 42):IV)=uM (v 32,v 33) (v 35,v 36):=by rw [e41,e42];rfl
 have U41:U (v 41,v 42):=by rw [P41];exact (U_M U32 U35).2.2
 have e43:v 43=(aB 0 [v 32,v 33,v 35,v 36]).getD 2 0:=ag hs 43 rfl;have E43:v 43=0:=e43.trans (U_M U32 U35).2.1;have e59:v 59=(aB 0 [v 47,v 48,v 53,v 54]).getD 0 0:=ag hs 59 rfl;have e60:v 60=(aB 0 [v 47,v 48,v 53,v 54]).getD 1 0:=ag hs 60 rfl;have P59:((v 59,v 60):IV)=uM (v 47,v 48) (v 53,v 54):=by rw [e59,e60];rfl
 have U59:U (v 59,v 60):=by rw [P59];exact (U_M U47 U53).2.2
 have e61:v 61=(aB 0 [v 47,v 48,v 53,v 54]).getD 2 0:=ag hs 61 rfl;have E61:v 61=0:=e61.trans (U_M U47 U53).2.1;have e74:v 74=(aB 0 [v 65,v 66,v 35,v 36]).getD 0 0:=ag hs 74 rfl;have e75:v 75=(aB 0 [v 65,v 66,v 35,v 36]).getD 1 0:=ag hs 75 rfl;have P74:((v 74,v 75):IV)=uM (v 65,v 66) (v 35,v 36):=by rw [e74,e75];rfl
 have U74:U (v 74,v 75):=by rw [P74];exact (U_M U65 U35).2.2
 have e76:v 76=(aB 0 [v 65,v 66,v 35,v 36]).getD 2 0:=ag hs 76 rfl;have E76:v 76=0:=e76.trans (U_M U65 U35).2.1;have e86:v 86=(aB 0 [v 74,v 75,v 80,v 81]).getD 0 0:=ag hs 86 rfl;have e87:v 87=(aB 0 [v 74,v 75,v 80,v 81]).getD 1 0:=ag hs 87 rfl;have P86:((v 86,v 87):IV)=uM (v 74,v 75) (v 80,v 81):=by rw [e86,e87];rfl
 have U86:U (v 86,v 87):=by rw [P86];exact (U_M U74 U80).2.2
 have e88:v 88=(aB 0 [v 74,v 75,v 80,v 81]).getD 2 0:=ag hs 88 rfl;have E88:v 88=0:=e88.trans (U_M U74 U80).2.1;have e92:v 92=(aB 2 [v 59,v 60,v 86,v 87]).getD 0 0:=ag hs 92 rfl;have e93:v 93=(aB 2 [v 59,v 60,v 86,v 87]).getD 1 0:=ag hs 93 rfl;have P92:((v 92,v 93):IV)=uD (v 59,v 60) (v 86,v 87):=by rw [e92,e93];rfl
 have F92:fxV (v 92) (v 93)=true:=by have:=(U_D U59 U86).2.2;rw [<-P92] at this;exact this
 have e94:v 94=(aB 2 [v 59,v 60,v 86,v 87]).getD 2 0:=ag hs 94 rfl;have E94:v 94=0:=e94.trans (U_D U59 U86).2.1;have e98:v 98=(aB 7 [v 41,v 42,v 92,v 93]).getD 0 0:=ag hs 98 rfl;have e99:v 99=(aB 7 [v 41,v 42,v 92,v 93]).getD 1 0:=ag hs 99 rfl;have PY:((v 41,v 42):IV)=il c (sgd (d-b)):=by rw [P41,P32,P35,s31,e2];rfl
 have PX:((v 92,v 93):IV)=iL a c (sgd (d-b)):=by rw [P92,P59,P86,P74,P47,P53,P65,P35,P80,s31,e0,e2];rfl
 have y0:v 41=(il c (sgd (d-b))).1:=congrArg Prod.fst PY;have y1:v 42=(il c (sgd (d-b))).2:=congrArg Prod.snd PY;have x0:v 92=(iL a c (sgd (d-b))).1:=congrArg Prod.fst PX;have x1:v 93=(iL a c (sgd (d-b))).2:=congrArg Prod.snd PX;have B0:v 98=bz (v 41) (v 42) (v 92) (v 93):=e98;have B1:v 99=bJ (v 41) (v 42) (v 92) (v 93):=e99;have e128:v 128=IntKind.i64.wrap (v 2-v 0):=ag hs 128 rfl;have w128:v 128=c-a:=by rw [e128,e2,e0,Go.IntWalk.i64_in _ (by omega)]
 have e129:v 129=(lu 73 [v 128,v 128]).getD 0 0:=ag hs 129 rfl;have e130:v 130=(lu 73 [v 128,v 128]).getD 1 0:=ag hs 130 rfl;have P129:((v 129,v 130):IV)=uH (v 128):=by rw [e129,e130];rfl
 have U129:U (v 129,v 130):=by rw [P129];exact U_H _
 have e116:v 116=(lu 73 [v 31,v 31]).getD 0 0:=ag hs 116 rfl;have e117:v 117=(lu 73 [v 31,v 31]).getD 1 0:=ag hs 117 rfl;have P116:((v 116,v 117):IV)=uH (v 31):=by rw [e116,e117];rfl
 have U116:U (v 116,v 117):=by rw [P116];exact U_H _
 have e110:v 110=(aB 0 [v 47,v 48,v 35,v 36]).getD 0 0:=ag hs 110 rfl;have e111:v 111=(aB 0 [v 47,v 48,v 35,v 36]).getD 1 0:=ag hs 111 rfl;have P110:((v 110,v 111):IV)=uM (v 47,v 48) (v 35,v 36):=by rw [e110,e111];rfl
 have U110:U (v 110,v 111):=by rw [P110];exact (U_M U47 U35).2.2
 have e112:v 112=(aB 0 [v 47,v 48,v 35,v 36]).getD 2 0:=ag hs 112 rfl;have E112:v 112=0:=e112.trans (U_M U47 U35).2.1;have e122:v 122=(aB 0 [v 110,v 111,v 116,v 117]).getD 0 0:=ag hs 122 rfl;have e123:v 123=(aB 0 [v 110,v 111,v 116,v 117]).getD 1 0:=ag hs 123 rfl;have P122:((v 122,v 123):IV)=uM (v 110,v 111) (v 116,v 117):=by rw [e122,e123];rfl
 have U122:U (v 122,v 123):=by rw [P122];exact (U_M U110 U116).2.2
 have e124:v 124=(aB 0 [v 110,v 111,v 116,v 117]).getD 2 0:=ag hs 124 rfl;have E124:v 124=0:=e124.trans (U_M U110 U116).2.1;have e135:v 135=(aB 1 [v 129,v 130,v 122,v 123]).getD 0 0:=ag hs 135 rfl;have e136:v 136=(aB 1 [v 129,v 130,v 122,v 123]).getD 1 0:=ag hs 136 rfl;have P135:((v 135,v 136):IV)=uA (v 129,v 130) (v 122,v 123):=by rw [e135,e136];rfl
 have F135:fxV (v 135) (v 136)=true:=by have:=(U_A U129 U122).2.2;rw [<-P135] at this;exact this
 have e137:v 137=(aB 1 [v 129,v 130,v 122,v 123]).getD 2 0:=ag hs 137 rfl;have E137:v 137=0:=e137.trans (U_A U129 U122).2.1;have e141:v 141=(lu 74 [v 135,v 136]).getD 0 0:=ag hs 141 rfl;have e142:v 142=(lu 74 [v 135,v 136]).getD 1 0:=ag hs 142 rfl;have PD:((v 135,v 136):IV)=gI a c (sgd (d-b)):=by rw [P135,P122,P110,P129,P116,P47,P35,w128,s31,e0,e2];rfl
 have DM:=oG a c (sgd (d-b)) h1.1 h2.1;rw [<-PD] at DM;have A74:KU (v 135) (v 136):=⟨F135,DM.2,DM.1⟩;have d0:v 135=(gI a c (sgd (d-b))).1:=congrArg Prod.fst PD;have d1:v 136=(gI a c (sgd (d-b))).2:=congrArg Prod.snd PD;have D0:v 141=yu (v 135) (v 136):=e141.trans (ahV _ _).1;have D1:v 142=wU (v 135) (v 136):=e142.trans (ahV _ _).2;have e4:v 4=b2i (decide (v 0>=(-5400000:Int))):=ag hs 4 rfl;have e5:v 5=b2i (decide (v 0<=(5400000:Int))):=ag hs 5 rfl;have e6:v 6=if v 4≠0 then v 5 else (0:Int):=ag hs 6 rfl
 have e7:v 7=b2i (decide (v 1>=(-10800000:Int))):=ag hs 7 rfl;have e8:v 8=if v 6≠0 then v 7 else (0:Int):=ag hs 8 rfl
 have e9:v 9=b2i (decide (v 1<(10800000:Int))):=ag hs 9 rfl;have e10:v 10=if v 8≠0 then v 9 else (0:Int):=ag hs 10 rfl
 have e12:v 12=b2i (decide (v 2>=(-5400000:Int))):=ag hs 12 rfl;have e13:v 13=b2i (decide (v 2<=(5400000:Int))):=ag hs 13 rfl;have e14:v 14=if v 12≠0 then v 13 else (0:Int):=ag hs 14 rfl
 have e15:v 15=b2i (decide (v 3>=(-10800000:Int))):=ag hs 15 rfl;have e16:v 16=if v 14≠0 then v 15 else (0:Int):=ag hs 16 rfl
 have e17:v 17=b2i (decide (v 3<(10800000:Int))):=ag hs 17 rfl;have e18:v 18=if v 16≠0 then v 17 else (0:Int):=ag hs 18 rfl
 have e20:v 20=if v 11≠0 then (1:Int) else v 19:=ag hs 20 rfl
 have A10:v 10=1:=by rw [e10,e8,e6,e4,e5,e7,e9,bb2,bb2,bb2,e0,e1,decide_eq_true (by omega)];rfl
 have A18:v 18=1:=by rw [e18,e16,e14,e12,e13,e15,e17,bb2,bb2,bb2,e2,e3,decide_eq_true (by omega)];rfl
 have z154:v 154=0:=aC (X:=cxM [a,b,c,d]) (v:=v) (l:=bT) (bv _) hs (k:=154) (r:=.c 0) (ps:=[(10,.c 1),(18,.c 1),(43,.c 0),(61,.c 0),(76,.c 0),(88,.c 0),(94,.c 0),(112,.c 0),(124,.c 0),(137,.c 0)]) (nz:=[]) (aa A10 (aa A18 (aa E43 (aa E61 (aa E76 (aa E88 (aa E94 (aa E112 (aa E124 (aa E137 au)))))))))) aJ (by kernel_rfl)
 have z155:v 155=v 98:=aA (X:=cxM [a,b,c,d]) (v:=v) (l:=bT) (bv _) hs (k:=155) (j:=98) (ps:=[(10,.c 1),(18,.c 1),(43,.c 0),(61,.c 0),(76,.c 0),(88,.c 0),(94,.c 0),(112,.c 0),(124,.c 0),(137,.c 0)]) (aa A10 (aa A18 (aa E43 (aa E61 (aa E76 (aa E88 (aa E94 (aa E112 (aa E124 (aa E137 au)))))))))) (by kernel_rfl)
 have z156:v 156=v 99:=aA (X:=cxM [a,b,c,d]) (v:=v) (l:=bT) (bv _) hs (k:=156) (j:=99) (ps:=[(10,.c 1),(18,.c 1),(43,.c 0),(61,.c 0),(76,.c 0),(88,.c 0),(94,.c 0),(112,.c 0),(124,.c 0),(137,.c 0)]) (aa A10 (aa A18 (aa E43 (aa E61 (aa E76 (aa E88 (aa E94 (aa E112 (aa E124 (aa E137 au)))))))))) (by kernel_rfl)
 have z157:v 157=v 141:=aA (X:=cxM [a,b,c,d]) (v:=v) (l:=bT) (bv _) hs (k:=157) (j:=141) (ps:=[(10,.c 1),(18,.c 1),(43,.c 0),(61,.c 0),(76,.c 0),(88,.c 0),(94,.c 0),(112,.c 0),(124,.c 0),(137,.c 0)]) (aa A10 (aa A18 (aa E43 (aa E61 (aa E76 (aa E88 (aa E94 (aa E112 (aa E124 (aa E137 au)))))))))) (by kernel_rfl)
 have z158:v 158=v 142:=aA (X:=cxM [a,b,c,d]) (v:=v) (l:=bT) (bv _) hs (k:=158) (j:=142) (ps:=[(10,.c 1),(18,.c 1),(43,.c 0),(61,.c 0),(76,.c 0),(88,.c 0),(94,.c 0),(112,.c 0),(124,.c 0),(137,.c 0)]) (aa A10 (aa A18 (aa E43 (aa E61 (aa E76 (aa E88 (aa E94 (aa E112 (aa E124 (aa E137 au)))))))))) (by kernel_rfl)
 refine ⟨cB ?_,?_⟩
 . exact af (fun _=>(show dA (v 31) (v 31)=true from dw (by rw [s31];omega))) (af (fun _=>(show dA (v 2) (v 2)=true from dw (by rw [e2];omega))) (af (fun _=>⟨bD U32,bD U35⟩) (af (fun _=>(show dA (v 0) (v 0)=true from dw (by rw [e0];omega))) (af (fun _=>(show dA (v 2) (v 2)=true from dw (by rw [e2];omega))) (af (fun _=>⟨bD U47,bD U53⟩) (af (fun _=>(show dA (v 0) (v 0)=true from dw (by rw [e0];omega))) (af (fun _=>(show dA (v 2) (v 2)=true from dw (by rw [e2];omega))) (af (fun _=>⟨bD U65,bD U35⟩) (af (fun _=>(show dA (v 31) (v 31)=true from dw (by rw [s31];omega))) (af (fun _=>⟨bD U74,bD U80⟩) (af (fun _=>⟨bD U59,bD U86⟩) (af (fun _=>⟨bD U41,F92⟩) (af (fun _=>(show dA (v 0) (v 0)=true from dw (by rw [e0];omega))) (af (fun _=>(show dA (v 2) (v 2)=true from dw (by rw [e2];omega))) (af (fun _=>⟨bD U47,bD U35⟩) (af (fun _=>(show dA (v 31) (v 31)=true from dw (by rw [s31];omega))) (af (fun _=>⟨bD U110,bD U116⟩) (af (fun _=>(show dA (v 128) (v 128)=true from dw (by rw [w128];omega))) (af (fun _=>⟨bD U129,bD U122⟩) (af (fun _=>A74) (cz)))))))))))))))))))))
 . intro x hx0;have hx':=cu (v:=v) (by rfl) hx0
   rw [hx'];show Value.tuple #[.agg #[.int .i64 (v 155),.int .i64 (v 156),.int .i64 (v 157),.int .i64 (v 158)],.int .i64 (v 154)]=_;rw [(iV a b c d).1,(iV a b c d).2.1,(jc a b c d).1,(jc a b c d).2.1,z154,z155,z156,z157,z158,B0,B1,D0,D1,d0,d1,y0,y1,x0,x1]
