/- The contracts of vectors.Local and Place, and of Of where an arc is not valid. -/
import Derived.Test.YtbdlccacamalpaaZVrP
set_option linter.unusedVariables false
set_option linter.unusedSimpArgs false
set_option maxRecDepth 100000
namespace Go.Proofs.Ytbdlccacamalpaa
open Go.RowKit Alm Sx
theorem DV {p q:IV} (hp:fxV p.1 p.2=true) (hq:U q):er0 p q=0:=by
 rw [bT] at hp;unfold U at hq
 have k:∀ a c:Int,-2147483648<=a/\a<=2147483648->-1073741824<=c/\c<=1073741824->-2305843009213693952<=a*c/\a*c<=2305843009213693952:=fun a c h1 h2=>by
  have:=vz a c 2147483648 1073741824 h1 h2;omega
 have w1:=k p.1 q.1 (by omega) (by omega)
 have w2:=k p.1 q.2 (by omega) (by omega)
 have w3:=k p.2 q.1 (by omega) (by omega)
 have w4:=k p.2 q.2 (by omega) (by omega)
 have le:=AX p.1 p.2 q.1 q.2
 have b:-2147483648<=eD p.1 p.2 q.1 q.2/\eY p.1 p.2 q.1 q.2<=2147483648:=by
  unfold eD eY mn4 mx4;generalize p.1*q.1=W1 at *
  generalize p.1*q.2=W2 at *
  generalize p.2*q.1=W3 at *
  generalize p.2*q.2=W4 at *
  omega
 exact (jh (L:=eD p.1 p.2 q.1 q.2) (H:=eY p.1 p.2 q.1 q.2) ⟨b.1,le,b.2⟩).2.2
theorem Hf {p:IV} (h:U p):er3 p=0/\uQ p=(sqL p.1 p.2,sqH p.1 p.2)/\0<=sqL p.1 p.2/\sqL p.1 p.2<=sqH p.1 p.2/\sqH p.1 p.2<=1073741824:=by
 unfold U at h;have a:=eG (x:=p.1) (y:=p.1) (by omega) (by omega)
 have b:=eG (x:=p.2) (y:=p.2) (by omega) (by omega)
 have n1:0<=p.1*p.1:=by rcases Int.le_total 0 p.1 with h|h;exact Int.mul_nonneg h h;exact Int.mul_nonneg_of_nonpos_of_nonpos h h
 have n2:0<=p.2*p.2:=by rcases Int.le_total 0 p.2 with h|h;exact Int.mul_nonneg h h;exact Int.mul_nonneg_of_nonpos_of_nonpos h h
 have M:0<=sqL p.1 p.2/\sqL p.1 p.2<=sqH p.1 p.2/\sqH p.1 p.2<=1073741824:=by
  unfold sqL sqH;generalize p.1*p.1=W1 at *
  generalize p.2*p.2=W2 at *
  split<;>omega
 have F:=jh (L:=sqL p.1 p.2) (H:=sqH p.1 p.2) ⟨by omega,M.2.1,by omega⟩
 refine ⟨F.2.2,?_,M⟩;show (fU _ _,fJ _ _)=_;rw [F.1,F.2.1]
theorem EN {p q:IV} (h:U p) (k:U q):er1 (uQ p) (uQ q)=0/\0<=(sm2 p q).1:=by
 have a:=Hf h;have b:=Hf k;have F:=jh (L:=sqL p.1 p.2+sqL q.1 q.2) (H:=sqH p.1 p.2+sqH q.1 q.2) ⟨by omega,by omega,by omega⟩
 unfold er1 sm2;rw [a.2.1,b.2.1];refine ⟨F.2.2,?_⟩;show 0<=fU (sqL p.1 p.2+sqL q.1 q.2) (sqH p.1 p.2+sqH q.1 q.2);rw [F.1];omega
def hoI (X Y:IV):IV:=uR (sm2 X Y)
theorem JY {X Y:IV} (h:U X) (k:U Y):er4 (sm2 X Y)=0/\0<=(hoI X Y).1:=by
 have a:=(EN h k).2;have r:=I6 (oO (uQ X) (uQ Y)) a;refine ⟨r.1,?_⟩;unfold hoI;have e:uR (sm2 X Y)=_:=r.2.1;rw [e];exact r.2.2
def slo (L:Int):Int:=if L>=10800000 then L-21600000 else L
def loE (X Y:IV) (t u:Int):IV:=uD (uM Y (uC t u)) (uM X (uS t u))
def loH (X Y:IV) (t u:Int):IV:=uA (uM X (uC t u)) (uM Y (uS t u))
def loN (X Y Z:IV) (r s t u:Int):IV:=uD (uM Z (uC r s)) (uM (loH X Y t u) (uS r s))
def loU (X Y Z:IV) (r s t u:Int):IV:=uA (uM Z (uS r s)) (uM (loH X Y t u) (uC r s))
def loF (X Y Z:IV) (r s t u:Int):Int:=er2 (uM Z (uC r s)) (uM (loH X Y t u) (uS r s))
def loG (X Y Z:IV) (r s t u:Int):Int:=er1 (uM Z (uS r s)) (uM (loH X Y t u) (uC r s))
theorem jR {q:Prop} [Decidable q] {x y:Int}:(if b2i (decide q)≠0 then x else y)=if q then x else y:=by
 by_cases h:q<;>simp [b2i,h]
def iL:List Nd:=[
 .arg 0,
 .arg 1,
 .arg 2,
 .arg 3,
 .arg 4,
 .arg 5,
 .arg 6,
 .arg 7,
 .arg 8,
 .arg 9,
 .app 8 0 [.n 0,.n 1],
 .app 8 0 [.n 2,.n 3],
 .ite (.n 10) (.n 11) (.c 0),
 .app 8 0 [.n 4,.n 5],
 .ite (.n 12) (.n 13) (.c 0),
 .ite (.n 14) (.c 0) (.c 1),
 .bin .leq .i64 (.n 6) (.n 7),
 .bin .geq .i64 (.n 6) (.c (-1099511627776)),
 .bin .leq .i64 (.n 6) (.c 1099511627776),
 .ite (.n 17) (.n 18) (.c 0),
 .ite (.n 16) (.n 19) (.c 0),
 .bin .geq .i64 (.n 7) (.c (-1099511627776)),
 .bin .leq .i64 (.n 7) (.c 1099511627776),
 .ite (.n 21) (.n 22) (.c 0),
 .ite (.n 20) (.n 23) (.c 0),
 .ite (.n 24) (.c 0) (.c 1),
 .ite (.n 15) (.c 1) (.n 25),
 .bin .leq .i64 (.n 8) (.n 9),
 .bin .geq .i64 (.n 8) (.c (-1099511627776)),
 .bin .leq .i64 (.n 8) (.c 1099511627776),
 .ite (.n 28) (.n 29) (.c 0),
 .ite (.n 27) (.n 30) (.c 0),
 .bin .geq .i64 (.n 9) (.c (-1099511627776)),
 .bin .leq .i64 (.n 9) (.c 1099511627776),
 .ite (.n 32) (.n 33) (.c 0),
 .ite (.n 31) (.n 34) (.c 0),
 .ite (.n 35) (.c 0) (.c 1),
 .ite (.n 26) (.c 1) (.n 36),
 .ite (.n 37) (.c 0) (.c 1),
 .app 6 0 [.n 6,.n 7],
 .app 6 1 [.n 6,.n 7],
 .app 6 2 [.n 6,.n 7],
 .app 5 0 [.n 6,.n 7],
 .app 5 1 [.n 6,.n 7],
 .app 5 2 [.n 6,.n 7],
 .bin .eql .i64 (.n 41) (.c 0),
 .ite (.n 45) (.c 0) (.c 1),
 .ite (.n 45) (.n 44) (.n 41),
 .app 6 0 [.n 8,.n 9],
 .app 6 1 [.n 8,.n 9],
 .app 6 2 [.n 8,.n 9],
 .bin .eql .i64 (.n 47) (.c 0),
 .ite (.n 51) (.c 0) (.c 1),
 .ite (.n 51) (.n 50) (.n 47),
 .app 5 0 [.n 8,.n 9],
 .app 5 1 [.n 8,.n 9],
 .app 5 2 [.n 8,.n 9],
 .bin .eql .i64 (.n 53) (.c 0),
 .ite (.n 57) (.c 0) (.c 1),
 .ite (.n 57) (.n 56) (.n 53),
 .app 0 0 [.n 2,.n 3,.n 48,.n 49],
 .app 0 1 [.n 2,.n 3,.n 48,.n 49],
 .app 0 2 [.n 2,.n 3,.n 48,.n 49],
 .bin .eql .i64 (.n 59) (.c 0),
 .ite (.n 63) (.c 0) (.c 1),
 .ite (.n 63) (.n 62) (.n 59),
 .app 0 0 [.n 0,.n 1,.n 54,.n 55],
 .app 0 1 [.n 0,.n 1,.n 54,.n 55],
 .app 0 2 [.n 0,.n 1,.n 54,.n 55],
 .bin .eql .i64 (.n 65) (.c 0),
 .ite (.n 69) (.c 0) (.c 1),
 .ite (.n 69) (.n 68) (.n 65),
 .app 2 0 [.n 60,.n 61,.n 66,.n 67],
 .app 2 1 [.n 60,.n 61,.n 66,.n 67],
 .app 2 2 [.n 60,.n 61,.n 66,.n 67],
 .bin .eql .i64 (.n 71) (.c 0),
 .ite (.n 75) (.c 0) (.c 1),
 .ite (.n 75) (.n 74) (.n 71),
 .app 0 0 [.n 0,.n 1,.n 48,.n 49],
 .app 0 1 [.n 0,.n 1,.n 48,.n 49],
 .app 0 2 [.n 0,.n 1,.n 48,.n 49],
 .bin .eql .i64 (.n 77) (.c 0),
 .ite (.n 81) (.c 0) (.c 1),
 .ite (.n 81) (.n 80) (.n 77),
 .app 0 0 [.n 2,.n 3,.n 54,.n 55],
 .app 0 1 [.n 2,.n 3,.n 54,.n 55],
 .app 0 2 [.n 2,.n 3,.n 54,.n 55],
 .bin .eql .i64 (.n 83) (.c 0),
 .ite (.n 87) (.c 0) (.c 1),
 .ite (.n 87) (.n 86) (.n 83),
 .app 1 0 [.n 78,.n 79,.n 84,.n 85],
 .app 1 1 [.n 78,.n 79,.n 84,.n 85],
 .app 1 2 [.n 78,.n 79,.n 84,.n 85],
 .bin .eql .i64 (.n 89) (.c 0),
 .ite (.n 93) (.c 0) (.c 1),
 .ite (.n 93) (.n 92) (.n 89),
 .app 0 0 [.n 4,.n 5,.n 39,.n 40],
 .app 0 1 [.n 4,.n 5,.n 39,.n 40],
 .app 0 2 [.n 4,.n 5,.n 39,.n 40],
 .bin .eql .i64 (.n 95) (.c 0),
 .ite (.n 99) (.c 0) (.c 1),
 .ite (.n 99) (.n 98) (.n 95),
 .app 0 0 [.n 90,.n 91,.n 42,.n 43],
 .app 0 1 [.n 90,.n 91,.n 42,.n 43],
 .app 0 2 [.n 90,.n 91,.n 42,.n 43],
 .bin .eql .i64 (.n 101) (.c 0),
 .ite (.n 105) (.c 0) (.c 1),
 .ite (.n 105) (.n 104) (.n 101),
 .app 2 0 [.n 96,.n 97,.n 102,.n 103],
 .app 2 1 [.n 96,.n 97,.n 102,.n 103],
 .app 2 2 [.n 96,.n 97,.n 102,.n 103],
 .bin .eql .i64 (.n 107) (.c 0),
 .ite (.n 111) (.c 0) (.c 1),
 .ite (.n 111) (.n 110) (.n 107),
 .app 0 0 [.n 4,.n 5,.n 42,.n 43],
 .app 0 1 [.n 4,.n 5,.n 42,.n 43],
 .app 0 2 [.n 4,.n 5,.n 42,.n 43],
 .bin .eql .i64 (.n 113) (.c 0),
 .ite (.n 117) (.c 0) (.c 1),
 .ite (.n 117) (.n 116) (.n 113),
 .app 0 0 [.n 90,.n 91,.n 39,.n 40],
 .app 0 1 [.n 90,.n 91,.n 39,.n 40],
 .app 0 2 [.n 90,.n 91,.n 39,.n 40],
 .bin .eql .i64 (.n 119) (.c 0),
 .ite (.n 123) (.c 0) (.c 1),
 .ite (.n 123) (.n 122) (.n 119),
 .app 1 0 [.n 114,.n 115,.n 120,.n 121],
 .app 1 1 [.n 114,.n 115,.n 120,.n 121],
 .app 1 2 [.n 114,.n 115,.n 120,.n 121],
 .bin .eql .i64 (.n 125) (.c 0),
 .ite (.n 129) (.c 0) (.c 1),
 .ite (.n 129) (.n 128) (.n 125),
 .bin .neq .i64 (.n 131) (.c 0),
 .ite (.n 132) (.c 0) (.c 1),
 .ite (.n 132) (.n 131) (.c 0),
 .ite (.n 132) (.c 0) (.n 72),
 .ite (.n 132) (.c 0) (.n 73),
 .ite (.n 132) (.c 0) (.n 108),
 .ite (.n 132) (.c 0) (.n 109),
 .ite (.n 132) (.c 0) (.n 126),
 .ite (.n 132) (.c 0) (.n 127),
 .ite (.n 37) (.c 1) (.n 134),
 .ite (.n 37) (.c 0) (.n 135),
 .ite (.n 37) (.c 0) (.n 136),
 .ite (.n 37) (.c 0) (.n 137),
 .ite (.n 37) (.c 0) (.n 138),
 .ite (.n 37) (.c 0) (.n 139),
 .ite (.n 37) (.c 0) (.n 140)]
def JS:List Vc:=[
 ⟨[],.pre 8 [.n 0,.n 1]⟩,
 ⟨[(.n 10,true)],.pre 8 [.n 2,.n 3]⟩,
 ⟨[(.n 12,true)],.pre 8 [.n 4,.n 5]⟩,
 ⟨[(.n 38,true)],.pre 6 [.n 6,.n 7]⟩,
 ⟨[(.n 38,true)],.pre 5 [.n 6,.n 7]⟩,
 ⟨[(.n 38,true)],.pre 6 [.n 8,.n 9]⟩,
 ⟨[(.n 38,true)],.pre 5 [.n 8,.n 9]⟩,
 ⟨[(.n 38,true)],.pre 0 [.n 2,.n 3,.n 48,.n 49]⟩,
 ⟨[(.n 38,true)],.pre 0 [.n 0,.n 1,.n 54,.n 55]⟩,
 ⟨[(.n 38,true)],.pre 2 [.n 60,.n 61,.n 66,.n 67]⟩,
 ⟨[(.n 38,true)],.pre 0 [.n 0,.n 1,.n 48,.n 49]⟩,
 ⟨[(.n 38,true)],.pre 0 [.n 2,.n 3,.n 54,.n 55]⟩,
 ⟨[(.n 38,true)],.pre 1 [.n 78,.n 79,.n 84,.n 85]⟩,
 ⟨[(.n 38,true)],.pre 0 [.n 4,.n 5,.n 39,.n 40]⟩,
 ⟨[(.n 38,true)],.pre 0 [.n 90,.n 91,.n 42,.n 43]⟩,
 ⟨[(.n 38,true)],.pre 2 [.n 96,.n 97,.n 102,.n 103]⟩,
 ⟨[(.n 38,true)],.pre 0 [.n 4,.n 5,.n 42,.n 43]⟩,
 ⟨[(.n 38,true)],.pre 0 [.n 90,.n 91,.n 39,.n 40]⟩,
 ⟨[(.n 38,true)],.pre 1 [.n 114,.n 115,.n 120,.n 121]⟩]
theorem KZ:whole Try.prog kr 20 40 14 [(true,[some .i64,some .i64,some .i64,some .i64,some .i64,some .i64]),(true,[some .i64,some .i64]),(true,[some .i64,some .i64])]=some (.tup [.agg [.int .i64 (.n 142),.int .i64 (.n 143),.int .i64 (.n 144),.int .i64 (.n 145),.int .i64 (.n 146),.int .i64 (.n 147)],.c (.int .i64 (.n 141))],⟨iL.reverse,JS.reverse⟩):=by kernel_rfl
theorem Ms:wfN iL.reverse=true:=by kernel_rfl
theorem NK (a0 a1 a2 a3 a4 a5 a6 a7 a8 a9:Int) (w:World) (u0:U (a0,a1)) (u1:U (a2,a3)) (u2:U (a4,a5)) (h1:dW a6 a7=true) (h2:dW a8 a9=true) (g0:loF ((a0,a1):IV) ((a2,a3):IV) ((a4,a5):IV) a6 a7 a8 a9=0) (g1:loG ((a0,a1):IV) ((a2,a3):IV) ((a4,a5):IV) a6 a7 a8 a9=0):Calls Try.prog 14 #[.agg #[.int .i64 a0,.int .i64 a1,.int .i64 a2,.int .i64 a3,.int .i64 a4,.int .i64 a5],.agg #[.int .i64 a6,.int .i64 a7],.agg #[.int .i64 a8,.int .i64 a9]] w fun e w'=>e=.returned (.tuple #[.agg #[.int .i64 (loE ((a0,a1):IV) ((a2,a3):IV) a8 a9).1,.int .i64 (loE ((a0,a1):IV) ((a2,a3):IV) a8 a9).2,.int .i64 (loN ((a0,a1):IV) ((a2,a3):IV) ((a4,a5):IV) a6 a7 a8 a9).1,.int .i64 (loN ((a0,a1):IV) ((a2,a3):IV) ((a4,a5):IV) a6 a7 a8 a9).2,.int .i64 (loU ((a0,a1):IV) ((a2,a3):IV) ((a4,a5):IV) a6 a7 a8 a9).1,.int .i64 (loU ((a0,a1):IV) ((a2,a3):IV) ((a4,a5):IV) a6 a7 a8 a9).2],.int .i64 0])/\Below w.heap.size w w':=by
 refine Sx.calls (X:=cxB [a0,a1,a2,a3,a4,a5,a6,a7,a8,a9]) iJ (il _) KZ Ms (fun v hs=>?_) w
 have e0:v 0=a0:=aj hs 0 rfl;have e1:v 1=a1:=aj hs 1 rfl;have e2:v 2=a2:=aj hs 2 rfl;have e3:v 3=a3:=aj hs 3 rfl;have e4:v 4=a4:=aj hs 4 rfl;have e5:v 5=a5:=aj hs 5 rfl;have e6:v 6=a6:=aj hs 6 rfl;have e7:v 7=a7:=aj hs 7 rfl;have e8:v 8=a8:=aj hs 8 rfl;have e9:v 9=a9:=aj hs 9 rfl;have P0:((v 0,v 1):IV)=(a0,a1):=by rw [e0,e1]
 have U0:U (v 0,v 1):=by rw [P0];exact u0
 have F0:fxV (v 0) (v 1)=true:=za U0;have P2:((v 2,v 3):IV)=(a2,a3):=by rw [e2,e3]
 have U2:U (v 2,v 3):=by rw [P2];exact u1
 have F2:fxV (v 2) (v 3)=true:=za U2;have P4:((v 4,v 5):IV)=(a4,a5):=by rw [e4,e5]
 have U4:U (v 4,v 5):=by rw [P4];exact u2
 have F4:fxV (v 4) (v 5)=true:=za U4;have A6:dW (v 6) (v 7)=true:=by rw [e6,e7];exact h1
 have A8:dW (v 8) (v 9)=true:=by rw [e8,e9];exact h2
 have k10:v 10=1:=by have h:v 10=b2i (fxV (v 0) (v 1)):=aj hs 10 rfl;rw [h,F0];rfl
 have k11:v 11=1:=by have h:v 11=b2i (fxV (v 2) (v 3)):=aj hs 11 rfl;rw [h,F2];rfl
 have k13:v 13=1:=by have h:v 13=b2i (fxV (v 4) (v 5)):=aj hs 13 rfl;rw [h,F4];rfl
 have q6:=(fw _ _).1 A6;have k16:v 16=1:=by have h:v 16=b2i (decide (v 6<=v 7)):=aj hs 16 rfl;rw [h,decide_eq_true (by omega)];rfl
 have k17:v 17=1:=by have h:v 17=b2i (decide (v 6>=-1099511627776)):=aj hs 17 rfl;rw [h,decide_eq_true (by omega)];rfl
 have k18:v 18=1:=by have h:v 18=b2i (decide (v 6<=1099511627776)):=aj hs 18 rfl;rw [h,decide_eq_true (by omega)];rfl
 have k21:v 21=1:=by have h:v 21=b2i (decide (v 7>=-1099511627776)):=aj hs 21 rfl;rw [h,decide_eq_true (by omega)];rfl
 have k22:v 22=1:=by have h:v 22=b2i (decide (v 7<=1099511627776)):=aj hs 22 rfl;rw [h,decide_eq_true (by omega)];rfl
 have q8:=(fw _ _).1 A8;have k27:v 27=1:=by have h:v 27=b2i (decide (v 8<=v 9)):=aj hs 27 rfl;rw [h,decide_eq_true (by omega)];rfl
 have k28:v 28=1:=by have h:v 28=b2i (decide (v 8>=-1099511627776)):=aj hs 28 rfl;rw [h,decide_eq_true (by omega)];rfl
 have k29:v 29=1:=by have h:v 29=b2i (decide (v 8<=1099511627776)):=aj hs 29 rfl;rw [h,decide_eq_true (by omega)];rfl
 have k32:v 32=1:=by have h:v 32=b2i (decide (v 9>=-1099511627776)):=aj hs 32 rfl;rw [h,decide_eq_true (by omega)];rfl
 have k33:v 33=1:=by have h:v 33=b2i (decide (v 9<=1099511627776)):=aj hs 33 rfl;rw [h,decide_eq_true (by omega)];rfl
 have e39:v 39=(az 6 [v 6,v 7]).getD 0 0:=aj hs 39 rfl;have e40:v 40=(az 6 [v 6,v 7]).getD 1 0:=aj hs 40 rfl;have P39:((v 39,v 40):IV)=uC a6 a7:=by rw [e39,e40,e6,e7];rfl
 have U39:U (v 39,v 40):=by rw [P39];exact U_C _ _
 have e42:v 42=(az 5 [v 6,v 7]).getD 0 0:=aj hs 42 rfl;have e43:v 43=(az 5 [v 6,v 7]).getD 1 0:=aj hs 43 rfl;have P42:((v 42,v 43):IV)=uS a6 a7:=by rw [e42,e43,e6,e7];rfl
 have U42:U (v 42,v 43):=by rw [P42];exact U_S _ _
 have e48:v 48=(az 6 [v 8,v 9]).getD 0 0:=aj hs 48 rfl;have e49:v 49=(az 6 [v 8,v 9]).getD 1 0:=aj hs 49 rfl;have P48:((v 48,v 49):IV)=uC a8 a9:=by rw [e48,e49,e8,e9];rfl
 have U48:U (v 48,v 49):=by rw [P48];exact U_C _ _
 have e54:v 54=(az 5 [v 8,v 9]).getD 0 0:=aj hs 54 rfl;have e55:v 55=(az 5 [v 8,v 9]).getD 1 0:=aj hs 55 rfl;have P54:((v 54,v 55):IV)=uS a8 a9:=by rw [e54,e55,e8,e9];rfl
 have U54:U (v 54,v 55):=by rw [P54];exact U_S _ _
 have e60:v 60=(az 0 [v 2,v 3,v 48,v 49]).getD 0 0:=aj hs 60 rfl;have e61:v 61=(az 0 [v 2,v 3,v 48,v 49]).getD 1 0:=aj hs 61 rfl;have P60:((v 60,v 61):IV)=uM (v 2,v 3) (v 48,v 49):=by rw [e60,e61];rfl
 have U60:U (v 60,v 61):=by rw [P60];exact (U_M U2 U48).2.2
 have e62:v 62=(az 0 [v 2,v 3,v 48,v 49]).getD 2 0:=aj hs 62 rfl;have E62:v 62=0:=e62.trans (U_M U2 U48).2.1;have e66:v 66=(az 0 [v 0,v 1,v 54,v 55]).getD 0 0:=aj hs 66 rfl;have e67:v 67=(az 0 [v 0,v 1,v 54,v 55]).getD 1 0:=aj hs 67 rfl;have P66:((v 66,v 67):IV)=uM (v 0,v 1) (v 54,v 55):=by rw [e66,e67];rfl
 have U66:U (v 66,v 67):=by rw [P66];exact (U_M U0 U54).2.2
 have e68:v 68=(az 0 [v 0,v 1,v 54,v 55]).getD 2 0:=aj hs 68 rfl;have E68:v 68=0:=e68.trans (U_M U0 U54).2.1;have e72:v 72=(az 2 [v 60,v 61,v 66,v 67]).getD 0 0:=aj hs 72 rfl;have e73:v 73=(az 2 [v 60,v 61,v 66,v 67]).getD 1 0:=aj hs 73 rfl;have P72:((v 72,v 73):IV)=uD (v 60,v 61) (v 66,v 67):=by rw [e72,e73];rfl
 have F72:fxV (v 72) (v 73)=true:=by have:=(U_D U60 U66).2.2;rw [<-P72] at this;exact this
 have e74:v 74=(az 2 [v 60,v 61,v 66,v 67]).getD 2 0:=aj hs 74 rfl;have E74:v 74=0:=e74.trans (U_D U60 U66).2.1;have e78:v 78=(az 0 [v 0,v 1,v 48,v 49]).getD 0 0:=aj hs 78 rfl;have e79:v 79=(az 0 [v 0,v 1,v 48,v 49]).getD 1 0:=aj hs 79 rfl;have P78:((v 78,v 79):IV)=uM (v 0,v 1) (v 48,v 49):=by rw [e78,e79];rfl
 have U78:U (v 78,v 79):=by rw [P78];exact (U_M U0 U48).2.2
 have e80:v 80=(az 0 [v 0,v 1,v 48,v 49]).getD 2 0:=aj hs 80 rfl;have E80:v 80=0:=e80.trans (U_M U0 U48).2.1;have e84:v 84=(az 0 [v 2,v 3,v 54,v 55]).getD 0 0:=aj hs 84 rfl;have e85:v 85=(az 0 [v 2,v 3,v 54,v 55]).getD 1 0:=aj hs 85 rfl;have P84:((v 84,v 85):IV)=uM (v 2,v 3) (v 54,v 55):=by rw [e84,e85];rfl
 have U84:U (v 84,v 85):=by rw [P84];exact (U_M U2 U54).2.2
 have e86:v 86=(az 0 [v 2,v 3,v 54,v 55]).getD 2 0:=aj hs 86 rfl;have E86:v 86=0:=e86.trans (U_M U2 U54).2.1;have e90:v 90=(az 1 [v 78,v 79,v 84,v 85]).getD 0 0:=aj hs 90 rfl;have e91:v 91=(az 1 [v 78,v 79,v 84,v 85]).getD 1 0:=aj hs 91 rfl;have P90:((v 90,v 91):IV)=uA (v 78,v 79) (v 84,v 85):=by rw [e90,e91];rfl
 have F90:fxV (v 90) (v 91)=true:=by have:=(U_A U78 U84).2.2;rw [<-P90] at this;exact this
 have e92:v 92=(az 1 [v 78,v 79,v 84,v 85]).getD 2 0:=aj hs 92 rfl;have E92:v 92=0:=e92.trans (U_A U78 U84).2.1;have e96:v 96=(az 0 [v 4,v 5,v 39,v 40]).getD 0 0:=aj hs 96 rfl;have e97:v 97=(az 0 [v 4,v 5,v 39,v 40]).getD 1 0:=aj hs 97 rfl;have P96:((v 96,v 97):IV)=uM (v 4,v 5) (v 39,v 40):=by rw [e96,e97];rfl
 have U96:U (v 96,v 97):=by rw [P96];exact (U_M U4 U39).2.2
 have e98:v 98=(az 0 [v 4,v 5,v 39,v 40]).getD 2 0:=aj hs 98 rfl;have E98:v 98=0:=e98.trans (U_M U4 U39).2.1;have e102:v 102=(az 0 [v 90,v 91,v 42,v 43]).getD 0 0:=aj hs 102 rfl;have e103:v 103=(az 0 [v 90,v 91,v 42,v 43]).getD 1 0:=aj hs 103 rfl;have e104:v 104=(az 0 [v 90,v 91,v 42,v 43]).getD 2 0:=aj hs 104 rfl;have P102:((v 102,v 103):IV)=uM (v 90,v 91) (v 42,v 43):=by rw [e102,e103];rfl
 have F102:fxV (v 102) (v 103)=true:=by have:=wB (v 90,v 91) (v 42,v 43);rw [<-P102] at this;exact this
 have E104:v 104=0:=e104.trans (DV (p:=(v 90,v 91)) (q:=(v 42,v 43)) F90 U42);have e108:v 108=(az 2 [v 96,v 97,v 102,v 103]).getD 0 0:=aj hs 108 rfl;have e109:v 109=(az 2 [v 96,v 97,v 102,v 103]).getD 1 0:=aj hs 109 rfl;have e110:v 110=(az 2 [v 96,v 97,v 102,v 103]).getD 2 0:=aj hs 110 rfl;have P108:((v 108,v 109):IV)=uD (v 96,v 97) (v 102,v 103):=by rw [e108,e109];rfl
 have F108:fxV (v 108) (v 109)=true:=by have:=En (v 96,v 97) (v 102,v 103);rw [<-P108] at this;exact this
 have e114:v 114=(az 0 [v 4,v 5,v 42,v 43]).getD 0 0:=aj hs 114 rfl;have e115:v 115=(az 0 [v 4,v 5,v 42,v 43]).getD 1 0:=aj hs 115 rfl;have P114:((v 114,v 115):IV)=uM (v 4,v 5) (v 42,v 43):=by rw [e114,e115];rfl
 have U114:U (v 114,v 115):=by rw [P114];exact (U_M U4 U42).2.2
 have e116:v 116=(az 0 [v 4,v 5,v 42,v 43]).getD 2 0:=aj hs 116 rfl;have E116:v 116=0:=e116.trans (U_M U4 U42).2.1;have e120:v 120=(az 0 [v 90,v 91,v 39,v 40]).getD 0 0:=aj hs 120 rfl;have e121:v 121=(az 0 [v 90,v 91,v 39,v 40]).getD 1 0:=aj hs 121 rfl;have e122:v 122=(az 0 [v 90,v 91,v 39,v 40]).getD 2 0:=aj hs 122 rfl;have P120:((v 120,v 121):IV)=uM (v 90,v 91) (v 39,v 40):=by rw [e120,e121];rfl
 have F120:fxV (v 120) (v 121)=true:=by have:=wB (v 90,v 91) (v 39,v 40);rw [<-P120] at this;exact this
 have E122:v 122=0:=e122.trans (DV (p:=(v 90,v 91)) (q:=(v 39,v 40)) F90 U39);have e126:v 126=(az 1 [v 114,v 115,v 120,v 121]).getD 0 0:=aj hs 126 rfl;have e127:v 127=(az 1 [v 114,v 115,v 120,v 121]).getD 1 0:=aj hs 127 rfl;have e128:v 128=(az 1 [v 114,v 115,v 120,v 121]).getD 2 0:=aj hs 128 rfl;have P126:((v 126,v 127):IV)=uA (v 114,v 115) (v 120,v 121):=by rw [e126,e127];rfl
 have F126:fxV (v 126) (v 127)=true:=by have:=oO (v 114,v 115) (v 120,v 121);rw [<-P126] at this;exact this
 have C72:((v 72,v 73):IV)=loE ((a0,a1):IV) ((a2,a3):IV) a8 a9:=by rw [P72,P60,P66,P2,P0,P48,P54];rfl
 have C90:((v 90,v 91):IV)=loH ((a0,a1):IV) ((a2,a3):IV) a8 a9:=by rw [P90,P78,P84,P2,P0,P48,P54];rfl
 have C108:((v 108,v 109):IV)=loN ((a0,a1):IV) ((a2,a3):IV) ((a4,a5):IV) a6 a7 a8 a9:=by rw [P108,P96,P102,C90,P4,P39,P42];rfl
 have C126:((v 126,v 127):IV)=loU ((a0,a1):IV) ((a2,a3):IV) ((a4,a5):IV) a6 a7 a8 a9:=by rw [P126,P114,P120,C90,P4,P39,P42];rfl
 have X110:v 110=loF ((a0,a1):IV) ((a2,a3):IV) ((a4,a5):IV) a6 a7 a8 a9:=by have q:v 110=er2 (v 96,v 97) (v 102,v 103):=e110;rw [q,P96,P102,C90,P4,P39,P42];rfl
 have X128:v 128=loG ((a0,a1):IV) ((a2,a3):IV) ((a4,a5):IV) a6 a7 a8 a9:=by have q:v 128=er1 (v 114,v 115) (v 120,v 121):=e128;rw [q,P114,P120,C90,P4,P39,P42];rfl
 have E110:v 110=0:=by rw [X110];exact g0
 have E128:v 128=0:=by rw [X128];exact g1
 have r142:v 142=(loE ((a0,a1):IV) ((a2,a3):IV) a8 a9).1:=(bD (X:=cxB [a0,a1,a2,a3,a4,a5,a6,a7,a8,a9]) (v:=v) (l:=iL) (bg _) hs (k:=142) (j:=72) (ps:=[(10,.c 1),(11,.c 1),(13,.c 1),(16,.c 1),(17,.c 1),(18,.c 1),(21,.c 1),(22,.c 1),(27,.c 1),(28,.c 1),(29,.c 1),(32,.c 1),(33,.c 1),(62,.c 0),(68,.c 0),(74,.c 0),(80,.c 0),(86,.c 0),(92,.c 0),(98,.c 0),(104,.c 0),(110,.c 0),(116,.c 0),(122,.c 0),(128,.c 0)]) (aa k10 (aa k11 (aa k13 (aa k16 (aa k17 (aa k18 (aa k21 (aa k22 (aa k27 (aa k28 (aa k29 (aa k32 (aa k33 (aa E62 (aa E68 (aa E74 (aa E80 (aa E86 (aa E92 (aa E98 (aa E104 (aa E110 (aa E116 (aa E122 (aa E128 bA))))))))))))))))))))))))) (by kernel_rfl)).trans (congrArg Prod.fst C72)
 have r143:v 143=(loE ((a0,a1):IV) ((a2,a3):IV) a8 a9).2:=(bD (X:=cxB [a0,a1,a2,a3,a4,a5,a6,a7,a8,a9]) (v:=v) (l:=iL) (bg _) hs (k:=143) (j:=73) (ps:=[(10,.c 1),(11,.c 1),(13,.c 1),(16,.c 1),(17,.c 1),(18,.c 1),(21,.c 1),(22,.c 1),(27,.c 1),(28,.c 1),(29,.c 1),(32,.c 1),(33,.c 1),(62,.c 0),(68,.c 0),(74,.c 0),(80,.c 0),(86,.c 0),(92,.c 0),(98,.c 0),(104,.c 0),(110,.c 0),(116,.c 0),(122,.c 0),(128,.c 0)]) (aa k10 (aa k11 (aa k13 (aa k16 (aa k17 (aa k18 (aa k21 (aa k22 (aa k27 (aa k28 (aa k29 (aa k32 (aa k33 (aa E62 (aa E68 (aa E74 (aa E80 (aa E86 (aa E92 (aa E98 (aa E104 (aa E110 (aa E116 (aa E122 (aa E128 bA))))))))))))))))))))))))) (by kernel_rfl)).trans (congrArg Prod.snd C72)
 have r144:v 144=(loN ((a0,a1):IV) ((a2,a3):IV) ((a4,a5):IV) a6 a7 a8 a9).1:=(bD (X:=cxB [a0,a1,a2,a3,a4,a5,a6,a7,a8,a9]) (v:=v) (l:=iL) (bg _) hs (k:=144) (j:=108) (ps:=[(10,.c 1),(11,.c 1),(13,.c 1),(16,.c 1),(17,.c 1),(18,.c 1),(21,.c 1),(22,.c 1),(27,.c 1),(28,.c 1),(29,.c 1),(32,.c 1),(33,.c 1),(62,.c 0),(68,.c 0),(74,.c 0),(80,.c 0),(86,.c 0),(92,.c 0),(98,.c 0),(104,.c 0),(110,.c 0),(116,.c 0),(122,.c 0),(128,.c 0)]) (aa k10 (aa k11 (aa k13 (aa k16 (aa k17 (aa k18 (aa k21 (aa k22 (aa k27 (aa k28 (aa k29 (aa k32 (aa k33 (aa E62 (aa E68 (aa E74 (aa E80 (aa E86 (aa E92 (aa E98 (aa E104 (aa E110 (aa E116 (aa E122 (aa E128 bA))))))))))))))))))))))))) (by kernel_rfl)).trans (congrArg Prod.fst C108)
 have r145:v 145=(loN ((a0,a1):IV) ((a2,a3):IV) ((a4,a5):IV) a6 a7 a8 a9).2:=(bD (X:=cxB [a0,a1,a2,a3,a4,a5,a6,a7,a8,a9]) (v:=v) (l:=iL) (bg _) hs (k:=145) (j:=109) (ps:=[(10,.c 1),(11,.c 1),(13,.c 1),(16,.c 1),(17,.c 1),(18,.c 1),(21,.c 1),(22,.c 1),(27,.c 1),(28,.c 1),(29,.c 1),(32,.c 1),(33,.c 1),(62,.c 0),(68,.c 0),(74,.c 0),(80,.c 0),(86,.c 0),(92,.c 0),(98,.c 0),(104,.c 0),(110,.c 0),(116,.c 0),(122,.c 0),(128,.c 0)]) (aa k10 (aa k11 (aa k13 (aa k16 (aa k17 (aa k18 (aa k21 (aa k22 (aa k27 (aa k28 (aa k29 (aa k32 (aa k33 (aa E62 (aa E68 (aa E74 (aa E80 (aa E86 (aa E92 (aa E98 (aa E104 (aa E110 (aa E116 (aa E122 (aa E128 bA))))))))))))))))))))))))) (by kernel_rfl)).trans (congrArg Prod.snd C108)
 have r146:v 146=(loU ((a0,a1):IV) ((a2,a3):IV) ((a4,a5):IV) a6 a7 a8 a9).1:=(bD (X:=cxB [a0,a1,a2,a3,a4,a5,a6,a7,a8,a9]) (v:=v) (l:=iL) (bg _) hs (k:=146) (j:=126) (ps:=[(10,.c 1),(11,.c 1),(13,.c 1),(16,.c 1),(17,.c 1),(18,.c 1),(21,.c 1),(22,.c 1),(27,.c 1),(28,.c 1),(29,.c 1),(32,.c 1),(33,.c 1),(62,.c 0),(68,.c 0),(74,.c 0),(80,.c 0),(86,.c 0),(92,.c 0),(98,.c 0),(104,.c 0),(110,.c 0),(116,.c 0),(122,.c 0),(128,.c 0)]) (aa k10 (aa k11 (aa k13 (aa k16 (aa k17 (aa k18 (aa k21 (aa k22 (aa k27 (aa k28 (aa k29 (aa k32 (aa k33 (aa E62 (aa E68 (aa E74 (aa E80 (aa E86 (aa E92 (aa E98 (aa E104 (aa E110 (aa E116 (aa E122 (aa E128 bA))))))))))))))))))))))))) (by kernel_rfl)).trans (congrArg Prod.fst C126)
 have r147:v 147=(loU ((a0,a1):IV) ((a2,a3):IV) ((a4,a5):IV) a6 a7 a8 a9).2:=(bD (X:=cxB [a0,a1,a2,a3,a4,a5,a6,a7,a8,a9]) (v:=v) (l:=iL) (bg _) hs (k:=147) (j:=127) (ps:=[(10,.c 1),(11,.c 1),(13,.c 1),(16,.c 1),(17,.c 1),(18,.c 1),(21,.c 1),(22,.c 1),(27,.c 1),(28,.c 1),(29,.c 1),(32,.c 1),(33,.c 1),(62,.c 0),(68,.c 0),(74,.c 0),(80,.c 0),(86,.c 0),(92,.c 0),(98,.c 0),(104,.c 0),(110,.c 0),(116,.c 0),(122,.c 0),(128,.c 0)]) (aa k10 (aa k11 (aa k13 (aa k16 (aa k17 (aa k18 (aa k21 (aa k22 (aa k27 (aa k28 (aa k29 (aa k32 (aa k33 (aa E62 (aa E68 (aa E74 (aa E80 (aa E86 (aa E92 (aa E98 (aa E104 (aa E110 (aa E116 (aa E122 (aa E128 bA))))))))))))))))))))))))) (by kernel_rfl)).trans (congrArg Prod.snd C126)
 have rE:v 141=0:=bv (X:=cxB [a0,a1,a2,a3,a4,a5,a6,a7,a8,a9]) (v:=v) (l:=iL) (bg _) hs (k:=141) (r:=.c 0) (ps:=[(10,.c 1),(11,.c 1),(13,.c 1),(16,.c 1),(17,.c 1),(18,.c 1),(21,.c 1),(22,.c 1),(27,.c 1),(28,.c 1),(29,.c 1),(32,.c 1),(33,.c 1),(62,.c 0),(68,.c 0),(74,.c 0),(80,.c 0),(86,.c 0),(92,.c 0),(98,.c 0),(104,.c 0),(110,.c 0),(116,.c 0),(122,.c 0),(128,.c 0)]) (nz:=[]) (aa k10 (aa k11 (aa k13 (aa k16 (aa k17 (aa k18 (aa k21 (aa k22 (aa k27 (aa k28 (aa k29 (aa k32 (aa k33 (aa E62 (aa E68 (aa E74 (aa E80 (aa E86 (aa E92 (aa E98 (aa E104 (aa E110 (aa E116 (aa E122 (aa E128 bA))))))))))))))))))))))))) bM (by kernel_rfl)
 refine ⟨jF hs (fs:=[((.n 10,true),(.n 0,.n 1)),((.n 10,true),(.n 2,.n 3)),((.n 10,true),(.n 4,.n 5)),((.n 12,true),(.n 0,.n 1)),((.n 12,true),(.n 2,.n 3)),((.n 12,true),(.n 4,.n 5)),((.n 38,true),(.n 0,.n 1)),((.n 38,true),(.n 2,.n 3)),((.n 38,true),(.n 4,.n 5))]) (rs:=[((.n 38,true),(.n 6,.n 7)),((.n 38,true),(.n 8,.n 9))]) (fun e he=>by simp only [List.mem_cons,List.not_mem_nil,or_false] at he;rcases he with rfl|rfl|rfl|rfl|rfl|rfl|rfl|rfl|rfl<;>intro _<;>assumption) (fun e he=>by simp only [List.mem_cons,List.not_mem_nil,or_false] at he;rcases he with rfl|rfl<;>intro _<;>assumption) (by kernel_rfl),?_⟩
 intro x hx0;have hx':=oq (v:=v) (by rfl) hx0
 rw [hx'];show Value.tuple #[.agg #[.int .i64 (v 142),.int .i64 (v 143),.int .i64 (v 144),.int .i64 (v 145),.int .i64 (v 146),.int .i64 (v 147)],.int .i64 (v 141)]=_;rw [r142,r143,r144,r145,r146,r147,rE]
def fK:List Nd:=[
 .arg 0,
 .arg 1,
 .arg 2,
 .arg 3,
 .arg 4,
 .arg 5,
 .app 8 0 [.n 0,.n 1],
 .app 8 0 [.n 2,.n 3],
 .ite (.n 6) (.n 7) (.c 0),
 .app 8 0 [.n 4,.n 5],
 .ite (.n 8) (.n 9) (.c 0),
 .ite (.n 10) (.c 0) (.c 1),
 .ite (.n 11) (.c 0) (.c 1),
 .app 3 0 [.n 0,.n 1],
 .app 3 1 [.n 0,.n 1],
 .app 3 2 [.n 0,.n 1],
 .app 3 0 [.n 2,.n 3],
 .app 3 1 [.n 2,.n 3],
 .app 3 2 [.n 2,.n 3],
 .bin .eql .i64 (.n 15) (.c 0),
 .ite (.n 19) (.c 0) (.c 1),
 .ite (.n 19) (.n 18) (.n 15),
 .app 1 0 [.n 13,.n 14,.n 16,.n 17],
 .app 1 1 [.n 13,.n 14,.n 16,.n 17],
 .app 1 2 [.n 13,.n 14,.n 16,.n 17],
 .bin .eql .i64 (.n 21) (.c 0),
 .ite (.n 25) (.c 0) (.c 1),
 .ite (.n 25) (.n 24) (.n 21),
 .app 4 0 [.n 22,.n 23],
 .app 4 1 [.n 22,.n 23],
 .app 4 2 [.n 22,.n 23],
 .bin .eql .i64 (.n 27) (.c 0),
 .ite (.n 31) (.c 0) (.c 1),
 .ite (.n 31) (.n 30) (.n 27),
 .bin .neq .i64 (.n 33) (.c 0),
 .ite (.n 34) (.c 0) (.c 1),
 .app 7 0 [.n 4,.n 5,.n 28,.n 29],
 .app 7 1 [.n 4,.n 5,.n 28,.n 29],
 .app 7 2 [.n 4,.n 5,.n 28,.n 29],
 .app 7 0 [.n 2,.n 3,.n 0,.n 1],
 .app 7 1 [.n 2,.n 3,.n 0,.n 1],
 .app 7 2 [.n 2,.n 3,.n 0,.n 1],
 .bin .neq .i64 (.n 38) (.c 0),
 .bin .neq .i64 (.n 41) (.c 0),
 .ite (.n 42) (.c 1) (.n 43),
 .mx (.n 38) (.n 41),
 .ite (.n 44) (.c 0) (.c 1),
 .bin .sub .i64 (.n 37) (.n 36),
 .bin .geq .i64 (.n 47) (.c 21600000),
 .ite (.n 48) (.c 0) (.c 1),
 .bin .geq .i64 (.n 36) (.c 10800000),
 .bin .sub .i64 (.n 36) (.c 21600000),
 .bin .sub .i64 (.n 37) (.c 21600000),
 .ite (.n 50) (.c 0) (.c 1),
 .ite (.n 50) (.n 51) (.n 36),
 .ite (.n 50) (.n 52) (.n 37),
 .mx (.n 54) (.c (-5400000)),
 .mn (.n 55) (.c 5400000),
 .bin .sub .i64 (.n 40) (.n 39),
 .bin .lss .i64 (.n 58) (.c 21600000),
 .bin .rem .i64 (.n 39) (.c 21600000),
 .bin .lss .i64 (.n 60) (.c 0),
 .bin .add .i64 (.n 60) (.c 21600000),
 .ite (.n 61) (.c 0) (.c 1),
 .ite (.n 61) (.n 62) (.n 60),
 .bin .geq .i64 (.n 64) (.c 10800000),
 .bin .sub .i64 (.n 64) (.c 21600000),
 .ite (.n 65) (.c 0) (.c 1),
 .ite (.n 65) (.n 66) (.n 64),
 .bin .add .i64 (.n 68) (.n 58),
 .ite (.n 59) (.c 0) (.c 1),
 .ite (.n 59) (.n 68) (.c (-10800000)),
 .ite (.n 59) (.n 69) (.c 10800000),
 .bin .leq .i64 (.n 56) (.n 57),
 .bin .geq .i64 (.n 56) (.c (-5400000)),
 .ite (.n 73) (.n 74) (.c 0),
 .bin .leq .i64 (.n 57) (.c 5400000),
 .ite (.n 75) (.n 76) (.c 0),
 .bin .eql .i64 (.n 71) (.c (-10800000)),
 .bin .eql .i64 (.n 72) (.c 10800000),
 .ite (.n 78) (.n 79) (.c 0),
 .bin .geq .i64 (.n 71) (.c (-10800000)),
 .bin .lss .i64 (.n 71) (.c 10800000),
 .ite (.n 81) (.n 82) (.c 0),
 .bin .leq .i64 (.n 71) (.n 72),
 .ite (.n 83) (.n 84) (.c 0),
 .bin .sub .i64 (.n 72) (.n 71),
 .bin .lss .i64 (.n 86) (.c 21600000),
 .ite (.n 85) (.n 87) (.c 0),
 .ite (.n 80) (.c 1) (.n 88),
 .ite (.n 77) (.n 89) (.c 0),
 .ite (.n 90) (.c 0) (.c 1),
 .ite (.n 91) (.c 21) (.c 0),
 .ite (.n 91) (.c 0) (.n 56),
 .ite (.n 91) (.c 0) (.n 57),
 .ite (.n 91) (.c 0) (.n 71),
 .ite (.n 91) (.c 0) (.n 72),
 .ite (.n 48) (.c 21) (.n 92),
 .ite (.n 48) (.n 36) (.n 54),
 .ite (.n 48) (.n 37) (.n 55),
 .ite (.n 48) (.c 0) (.n 93),
 .ite (.n 48) (.c 0) (.n 94),
 .ite (.n 48) (.c 0) (.n 95),
 .ite (.n 48) (.c 0) (.n 96),
 .ite (.n 44) (.n 45) (.n 97),
 .ite (.n 44) (.n 36) (.n 98),
 .ite (.n 44) (.n 37) (.n 99),
 .ite (.n 44) (.c 0) (.n 100),
 .ite (.n 44) (.c 0) (.n 101),
 .ite (.n 44) (.c 0) (.n 102),
 .ite (.n 44) (.c 0) (.n 103),
 .ite (.n 34) (.n 33) (.n 104),
 .ite (.n 34) (.c 0) (.n 107),
 .ite (.n 34) (.c 0) (.n 108),
 .ite (.n 34) (.c 0) (.n 109),
 .ite (.n 34) (.c 0) (.n 110),
 .ite (.n 11) (.c 1) (.n 111),
 .ite (.n 11) (.c 0) (.n 112),
 .ite (.n 11) (.c 0) (.n 113),
 .ite (.n 11) (.c 0) (.n 114),
 .ite (.n 11) (.c 0) (.n 115)]
def LH:List Vc:=[
 ⟨[],.pre 8 [.n 0,.n 1]⟩,
 ⟨[(.n 6,true)],.pre 8 [.n 2,.n 3]⟩,
 ⟨[(.n 8,true)],.pre 8 [.n 4,.n 5]⟩,
 ⟨[(.n 12,true)],.pre 3 [.n 0,.n 1]⟩,
 ⟨[(.n 12,true)],.pre 3 [.n 2,.n 3]⟩,
 ⟨[(.n 12,true)],.pre 1 [.n 13,.n 14,.n 16,.n 17]⟩,
 ⟨[(.n 12,true)],.pre 4 [.n 22,.n 23]⟩,
 ⟨[(.n 35,true),(.n 12,true)],.pre 7 [.n 4,.n 5,.n 28,.n 29]⟩,
 ⟨[(.n 35,true),(.n 12,true)],.pre 7 [.n 2,.n 3,.n 0,.n 1]⟩]
theorem K8:whole Try.prog kr 20 40 12 [(true,[some .i64,some .i64,some .i64,some .i64,some .i64,some .i64])]=some (.tup [.agg [.int .i64 (.n 117),.int .i64 (.n 118),.int .i64 (.n 119),.int .i64 (.n 120)],.c (.int .i64 (.n 116))],⟨fK.reverse,LH.reverse⟩):=by kernel_rfl
theorem Mk:wfN fK.reverse=true:=by kernel_rfl
theorem Rt (a0 a1 a2 a3 a4 a5:Int) (w:World) (u0:U (a0,a1)) (u1:U (a2,a3)) (u2:U (a4,a5)) (ho:bY a4 a5 (hoI ((a0,a1):IV) ((a2,a3):IV)).1 (hoI ((a0,a1):IV) ((a2,a3):IV)).2=false):Calls Try.prog 12 #[.agg #[.int .i64 a0,.int .i64 a1,.int .i64 a2,.int .i64 a3,.int .i64 a4,.int .i64 a5]] w fun e w'=>e=.returned (.tuple #[.agg #[.int .i64 (slo (ay a4 a5 (hoI ((a0,a1):IV) ((a2,a3):IV)).1 (hoI ((a0,a1):IV) ((a2,a3):IV)).2)),.int .i64 (min (slo (ay a4 a5 (hoI ((a0,a1):IV) ((a2,a3):IV)).1 (hoI ((a0,a1):IV) ((a2,a3):IV)).2)+(aU a4 a5 (hoI ((a0,a1):IV) ((a2,a3):IV)).1 (hoI ((a0,a1):IV) ((a2,a3):IV)).2-ay a4 a5 (hoI ((a0,a1):IV) ((a2,a3):IV)).1 (hoI ((a0,a1):IV) ((a2,a3):IV)).2)) 5400000),.int .i64 ((if aU a2 a3 a0 a1-ay a2 a3 a0 a1<21600000 then slo (ay a2 a3 a0 a1) else -10800000)),.int .i64 ((if aU a2 a3 a0 a1-ay a2 a3 a0 a1<21600000 then slo (ay a2 a3 a0 a1)+(aU a2 a3 a0 a1-ay a2 a3 a0 a1) else 10800000))],.int .i64 0])/\Below w.heap.size w w':=by
 refine Sx.calls (X:=cxB [a0,a1,a2,a3,a4,a5]) iJ (il _) K8 Mk (fun v hs=>?_) w
 have e0:v 0=a0:=aj hs 0 rfl;have e1:v 1=a1:=aj hs 1 rfl;have e2:v 2=a2:=aj hs 2 rfl;have e3:v 3=a3:=aj hs 3 rfl;have e4:v 4=a4:=aj hs 4 rfl;have e5:v 5=a5:=aj hs 5 rfl;have P0:((v 0,v 1):IV)=(a0,a1):=by rw [e0,e1]
 have U0:U (v 0,v 1):=by rw [P0];exact u0
 have F0:fxV (v 0) (v 1)=true:=za U0;have P2:((v 2,v 3):IV)=(a2,a3):=by rw [e2,e3]
 have U2:U (v 2,v 3):=by rw [P2];exact u1
 have F2:fxV (v 2) (v 3)=true:=za U2;have P4:((v 4,v 5):IV)=(a4,a5):=by rw [e4,e5]
 have U4:U (v 4,v 5):=by rw [P4];exact u2
 have F4:fxV (v 4) (v 5)=true:=za U4;have k6:v 6=1:=by have h:v 6=b2i (fxV (v 0) (v 1)):=aj hs 6 rfl;rw [h,F0];rfl
 have k7:v 7=1:=by have h:v 7=b2i (fxV (v 2) (v 3)):=aj hs 7 rfl;rw [h,F2];rfl
 have k9:v 9=1:=by have h:v 9=b2i (fxV (v 4) (v 5)):=aj hs 9 rfl;rw [h,F4];rfl
 have e13:v 13=(az 3 [v 0,v 1]).getD 0 0:=aj hs 13 rfl;have e14:v 14=(az 3 [v 0,v 1]).getD 1 0:=aj hs 14 rfl;have e15:v 15=(az 3 [v 0,v 1]).getD 2 0:=aj hs 15 rfl;have P13:((v 13,v 14):IV)=uQ (v 0,v 1):=by rw [e13,e14];rfl
 have F13:fxV (v 13) (v 14)=true:=by have:=Ja (v 0,v 1);rw [<-P13] at this;exact this
 have e16:v 16=(az 3 [v 2,v 3]).getD 0 0:=aj hs 16 rfl;have e17:v 17=(az 3 [v 2,v 3]).getD 1 0:=aj hs 17 rfl;have e18:v 18=(az 3 [v 2,v 3]).getD 2 0:=aj hs 18 rfl;have P16:((v 16,v 17):IV)=uQ (v 2,v 3):=by rw [e16,e17];rfl
 have F16:fxV (v 16) (v 17)=true:=by have:=Ja (v 2,v 3);rw [<-P16] at this;exact this
 have e22:v 22=(az 1 [v 13,v 14,v 16,v 17]).getD 0 0:=aj hs 22 rfl;have e23:v 23=(az 1 [v 13,v 14,v 16,v 17]).getD 1 0:=aj hs 23 rfl;have e24:v 24=(az 1 [v 13,v 14,v 16,v 17]).getD 2 0:=aj hs 24 rfl;have P22:((v 22,v 23):IV)=uA (v 13,v 14) (v 16,v 17):=by rw [e22,e23];rfl
 have F22:fxV (v 22) (v 23)=true:=by have:=oO (v 13,v 14) (v 16,v 17);rw [<-P22] at this;exact this
 have e28:v 28=(az 4 [v 22,v 23]).getD 0 0:=aj hs 28 rfl;have e29:v 29=(az 4 [v 22,v 23]).getD 1 0:=aj hs 29 rfl;have e30:v 30=(az 4 [v 22,v 23]).getD 2 0:=aj hs 30 rfl;have P28:((v 28,v 29):IV)=uR (v 22,v 23):=by rw [e28,e29];rfl
 have F28:fxV (v 28) (v 29)=true:=by have:=Jd (v 22,v 23);rw [<-P28] at this;exact this
 have B13:((v 13,v 14):IV)=uQ ((a0,a1):IV):=by rw [P13,P0]
 have B16:((v 16,v 17):IV)=uQ ((a2,a3):IV):=by rw [P16,P2]
 have B22:((v 22,v 23):IV)=sm2 ((a0,a1):IV) ((a2,a3):IV):=by rw [P22,B13,B16];rfl
 have C28:((v 28,v 29):IV)=hoI ((a0,a1):IV) ((a2,a3):IV):=by rw [P28,B22];rfl
 have E15:v 15=0:=by have q:v 15=er3 (v 0,v 1):=e15;rw [q,P0];exact (Hf u0).1
 have E18:v 18=0:=by have q:v 18=er3 (v 2,v 3):=e18;rw [q,P2];exact (Hf u1).1
 have E24:v 24=0:=by have q:v 24=er1 (v 13,v 14) (v 16,v 17):=e24;rw [q,B13,B16];exact (EN u0 u1).1
 have E30:v 30=0:=by have q:v 30=er4 (v 22,v 23):=e30;rw [q,B22];exact (JY u0 u1).1
 have e36:v 36=(az 7 [v 4,v 5,v 28,v 29]).getD 0 0:=aj hs 36 rfl;have e37:v 37=(az 7 [v 4,v 5,v 28,v 29]).getD 1 0:=aj hs 37 rfl;have e39:v 39=(az 7 [v 2,v 3,v 0,v 1]).getD 0 0:=aj hs 39 rfl;have e40:v 40=(az 7 [v 2,v 3,v 0,v 1]).getD 1 0:=aj hs 40 rfl;have L0:v 36=ay a4 a5 (hoI ((a0,a1):IV) ((a2,a3):IV)).1 (hoI ((a0,a1):IV) ((a2,a3):IV)).2:=by have h:v 36=ay (v 4) (v 5) (v 28) (v 29):=e36;rw [h,e4,e5,show v 28=(hoI ((a0,a1):IV) ((a2,a3):IV)).1 from congrArg Prod.fst C28,show v 29=(hoI ((a0,a1):IV) ((a2,a3):IV)).2 from congrArg Prod.snd C28]
 have L1:v 37=aU a4 a5 (hoI ((a0,a1):IV) ((a2,a3):IV)).1 (hoI ((a0,a1):IV) ((a2,a3):IV)).2:=by have h:v 37=aU (v 4) (v 5) (v 28) (v 29):=e37;rw [h,e4,e5,show v 28=(hoI ((a0,a1):IV) ((a2,a3):IV)).1 from congrArg Prod.fst C28,show v 29=(hoI ((a0,a1):IV) ((a2,a3):IV)).2 from congrArg Prod.snd C28]
 have L2:v 39=ay a2 a3 a0 a1:=by have h:v 39=ay (v 2) (v 3) (v 0) (v 1):=e39;rw [h,e0,e1,e2,e3]
 have L3:v 40=aU a2 a3 a0 a1:=by have h:v 40=aU (v 2) (v 3) (v 0) (v 1):=e40;rw [h,e0,e1,e2,e3]
 have bb:=lc a4 a5 (hoI ((a0,a1):IV) ((a2,a3):IV)).1 (hoI ((a0,a1):IV) ((a2,a3):IV)).2;have bq9:=lc a2 a3 a0 a1;rw [<-L0,<-L1] at bb;rw [<-L2,<-L3] at bq9;have fh:=(bT _ _).1 F28;have h0:0<=v 28:=by rw [show v 28=(hoI ((a0,a1):IV) ((a2,a3):IV)).1 from congrArg Prod.fst C28];exact (JY u0 u1).2
 have k47:v 47=v 37-v 36:=by have h:v 47=IntKind.i64.wrap (v 37-v 36):=aj hs 47 rfl;rw [h,Go.IntWalk.i64_in _ (by omega)]
 have ho':bY (v 4) (v 5) (v 28) (v 29)=false:=by rw [e4,e5,show v 28=(hoI ((a0,a1):IV) ((a2,a3):IV)).1 from congrArg Prod.fst C28,show v 29=(hoI ((a0,a1):IV) ((a2,a3):IV)).2 from congrArg Prod.snd C28];exact ho
 have f4:=(bT _ _).1 F4;have bh:=Ca (yl:=v 4) (yh:=v 5) (xl:=v 28) (xh:=v 29) (by omega) (by omega) (by omega) (by omega) ho'
 have bl:=FR (yl:=v 4) (yh:=v 5) (xl:=v 28) (xh:=v 29) (by omega) (by omega)
 rw [show ay (v 4) (v 5) (v 28) (v 29)=v 36 from e36.symm] at bh bl
 rw [show aU (v 4) (v 5) (v 28) (v 29)=v 37 from e37.symm] at bh
 clear P13 P16 P22 P28 B13 B16 B22 C28 F13 F16 F22 F28 e13 e14 e16 e17 e22 e23 e28 e29 ho ho'
 have k48:v 48=0:=by have h:v 48=b2i (decide (v 47>=21600000)):=aj hs 48 rfl;rw [h,k47,decide_eq_false (by omega)];rfl
 have w51:v 51=v 36-21600000:=by have h:v 51=IntKind.i64.wrap (v 36-21600000):=aj hs 51 rfl;rw [h,Go.IntWalk.i64_in _ (by omega)]
 have w52:v 52=v 37-21600000:=by have h:v 52=IntKind.i64.wrap (v 37-21600000):=aj hs 52 rfl;rw [h,Go.IntWalk.i64_in _ (by omega)]
 have w54:v 54=slo (v 36):=by
  have h:v 54=if v 50≠0 then v 51 else v 36:=aj hs 54 rfl
  have h':v 50=b2i (decide (v 36>=10800000)):=aj hs 50 rfl;rw [h,h',jR,w51];rfl
 have w55:v 55=slo (v 36)+(v 37-v 36):=by
  have h:v 55=if v 50≠0 then v 52 else v 37:=aj hs 55 rfl
  have h':v 50=b2i (decide (v 36>=10800000)):=aj hs 50 rfl;rw [h,h',jR,w52];unfold slo;split<;>omega
 have sl:-5400000<=slo (v 36)/\slo (v 36)<=5400000:=by unfold slo;split<;>omega
 have w56:v 56=slo (v 36):=by have h:v 56=if (-5400000:Int)>v 54 then (-5400000:Int) else v 54:=aj hs 56 rfl;rw [h,w54];split<;>omega
 have w57:v 57=min (slo (v 36)+(v 37-v 36)) 5400000:=by have h:v 57=if (5400000:Int)<v 55 then (5400000:Int) else v 55:=aj hs 57 rfl;rw [h,w55];split<;>omega
 have w58:v 58=v 40-v 39:=by have h:v 58=IntKind.i64.wrap (v 40-v 39):=aj hs 58 rfl;rw [h,Go.IntWalk.i64_in _ (by omega)]
 have w60:v 60=v 39:=by have h:v 60=Int.tmod (v 39) 21600000:=aj hs 60 rfl;rw [h,Int.tmod_eq_emod_of_nonneg (by omega),Int.emod_eq_of_lt (by omega) (by omega)]
 have k61:v 61=0:=by have h:v 61=b2i (decide (v 60<0)):=aj hs 61 rfl;rw [h,w60,decide_eq_false (by omega)];rfl
 have w64:v 64=v 39:=by have h:v 64=if v 61≠0 then v 62 else v 60:=aj hs 64 rfl;rw [h,k61,if_neg (by simp),w60]
 have w66:v 66=v 39-21600000:=by have h:v 66=IntKind.i64.wrap (v 64-21600000):=aj hs 66 rfl;rw [h,w64,Go.IntWalk.i64_in _ (by omega)]
 have w68:v 68=slo (v 39):=by
  have h:v 68=if v 65≠0 then v 66 else v 64:=aj hs 68 rfl
  have h':v 65=b2i (decide (v 64>=10800000)):=aj hs 65 rfl;rw [h,h',jR,w66,w64];rfl
 have sg:-10800000<=slo (v 39)/\slo (v 39)<10800000:=by unfold slo;split<;>omega
 have w69:v 69=slo (v 39)+(v 40-v 39):=by have h:v 69=IntKind.i64.wrap (v 68+v 58):=aj hs 69 rfl;rw [h,w68,w58,Go.IntWalk.i64_in _ (by omega)]
 have w71:v 71=if v 40-v 39<21600000 then slo (v 39) else -10800000:=by
  have h:v 71=if v 59≠0 then v 68 else -10800000:=aj hs 71 rfl
  have h':v 59=b2i (decide (v 58<21600000)):=aj hs 59 rfl;rw [h,h',jR,w58,w68]
 have w72:v 72=if v 40-v 39<21600000 then slo (v 39)+(v 40-v 39) else 10800000:=by
  have h:v 72=if v 59≠0 then v 69 else 10800000:=aj hs 72 rfl
  have h':v 59=b2i (decide (v 58<21600000)):=aj hs 59 rfl;rw [h,h',jR,w58,w69]
 have k73:v 73=1:=by have h:v 73=b2i (decide (v 56<=v 57)):=aj hs 73 rfl;rw [h,w56,w57,decide_eq_true (by omega)];rfl
 have k74:v 74=1:=by have h:v 74=b2i (decide (v 56>=-5400000)):=aj hs 74 rfl;rw [h,w56,decide_eq_true (by omega)];rfl
 have k76:v 76=1:=by have h:v 76=b2i (decide (v 57<=5400000)):=aj hs 76 rfl;rw [h,w57,decide_eq_true (by omega)];rfl
 have k89:v 89=1:=by
  by_cases q:v 40-v 39<21600000
  . rw [if_pos q] at w71 w72;have w86:v 86=v 40-v 39:=by have h:v 86=IntKind.i64.wrap (v 72-v 71):=aj hs 86 rfl;rw [h,w71,w72,Go.IntWalk.i64_in _ (by omega)];omega
    have k79:v 79=0∨v 79=1:=by have h:v 79=b2i (v 72==10800000):=aj hs 79 rfl;rw [h];cases (v 72==10800000)<;>simp [b2i]
    have k78:v 78=0∨v 78=1:=by have h:v 78=b2i (v 71 == -10800000):=aj hs 78 rfl;rw [h];cases (v 71 == -10800000)<;>simp [b2i]
    have k81:v 81=1:=by have h:v 81=b2i (decide (v 71>=-10800000)):=aj hs 81 rfl;rw [h,w71,decide_eq_true (by omega)];rfl
    have k82:v 82=1:=by have h:v 82=b2i (decide (v 71<10800000)):=aj hs 82 rfl;rw [h,w71,decide_eq_true (by omega)];rfl
    have k84:v 84=1:=by have h:v 84=b2i (decide (v 71<=v 72)):=aj hs 84 rfl;rw [h,w71,w72,decide_eq_true (by omega)];rfl
    have k87:v 87=1:=by have h:v 87=b2i (decide (v 86<21600000)):=aj hs 87 rfl;rw [h,w86,decide_eq_true (by omega)];rfl
    rcases k78 with k78|k78<;>rcases k79 with k79|k79
    . exact bv (X:=cxB [a0,a1,a2,a3,a4,a5]) (v:=v) (l:=fK) (bg _) hs (k:=89) (r:=.c 1) (ps:=[(78,.c 0),(79,.c 0),(81,.c 1),(82,.c 1),(84,.c 1),(87,.c 1)]) (nz:=[]) (aa k78 (aa k79 (aa k81 (aa k82 (aa k84 (aa k87 bA)))))) bM (by kernel_rfl)
    . exact bv (X:=cxB [a0,a1,a2,a3,a4,a5]) (v:=v) (l:=fK) (bg _) hs (k:=89) (r:=.c 1) (ps:=[(78,.c 0),(79,.c 1),(81,.c 1),(82,.c 1),(84,.c 1),(87,.c 1)]) (nz:=[]) (aa k78 (aa k79 (aa k81 (aa k82 (aa k84 (aa k87 bA)))))) bM (by kernel_rfl)
    . exact bv (X:=cxB [a0,a1,a2,a3,a4,a5]) (v:=v) (l:=fK) (bg _) hs (k:=89) (r:=.c 1) (ps:=[(78,.c 1),(79,.c 0),(81,.c 1),(82,.c 1),(84,.c 1),(87,.c 1)]) (nz:=[]) (aa k78 (aa k79 (aa k81 (aa k82 (aa k84 (aa k87 bA)))))) bM (by kernel_rfl)
    . exact bv (X:=cxB [a0,a1,a2,a3,a4,a5]) (v:=v) (l:=fK) (bg _) hs (k:=89) (r:=.c 1) (ps:=[(78,.c 1),(79,.c 1),(81,.c 1),(82,.c 1),(84,.c 1),(87,.c 1)]) (nz:=[]) (aa k78 (aa k79 (aa k81 (aa k82 (aa k84 (aa k87 bA)))))) bM (by kernel_rfl)
  . rw [if_neg q] at w71 w72;have k78:v 78=1:=by have h:v 78=b2i (v 71 == -10800000):=aj hs 78 rfl;rw [h,w71];rfl
    have k79:v 79=1:=by have h:v 79=b2i (v 72==10800000):=aj hs 79 rfl;rw [h,w72];rfl
    exact bv (X:=cxB [a0,a1,a2,a3,a4,a5]) (v:=v) (l:=fK) (bg _) hs (k:=89) (r:=.c 1) (ps:=[(78,.c 1),(79,.c 1)]) (nz:=[]) (aa k78 (aa k79 bA)) bM (by kernel_rfl)
 rw [L0] at w56;rw [L0,L1] at w57;rw [L2,L3] at w71 w72;have r117:v 117=slo (ay a4 a5 (hoI ((a0,a1):IV) ((a2,a3):IV)).1 (hoI ((a0,a1):IV) ((a2,a3):IV)).2):=(bD (X:=cxB [a0,a1,a2,a3,a4,a5]) (v:=v) (l:=fK) (bg _) hs (k:=117) (j:=56) (ps:=[(6,.c 1),(7,.c 1),(9,.c 1),(15,.c 0),(18,.c 0),(24,.c 0),(30,.c 0),(48,.c 0),(73,.c 1),(74,.c 1),(76,.c 1),(89,.c 1)]) (aa k6 (aa k7 (aa k9 (aa E15 (aa E18 (aa E24 (aa E30 (aa k48 (aa k73 (aa k74 (aa k76 (aa k89 bA)))))))))))) (by kernel_rfl)).trans (w56)
 have r118:v 118=min (slo (ay a4 a5 (hoI ((a0,a1):IV) ((a2,a3):IV)).1 (hoI ((a0,a1):IV) ((a2,a3):IV)).2)+(aU a4 a5 (hoI ((a0,a1):IV) ((a2,a3):IV)).1 (hoI ((a0,a1):IV) ((a2,a3):IV)).2-ay a4 a5 (hoI ((a0,a1):IV) ((a2,a3):IV)).1 (hoI ((a0,a1):IV) ((a2,a3):IV)).2)) 5400000:=(bD (X:=cxB [a0,a1,a2,a3,a4,a5]) (v:=v) (l:=fK) (bg _) hs (k:=118) (j:=57) (ps:=[(6,.c 1),(7,.c 1),(9,.c 1),(15,.c 0),(18,.c 0),(24,.c 0),(30,.c 0),(48,.c 0),(73,.c 1),(74,.c 1),(76,.c 1),(89,.c 1)]) (aa k6 (aa k7 (aa k9 (aa E15 (aa E18 (aa E24 (aa E30 (aa k48 (aa k73 (aa k74 (aa k76 (aa k89 bA)))))))))))) (by kernel_rfl)).trans (w57)
 have r119:v 119=(if aU a2 a3 a0 a1-ay a2 a3 a0 a1<21600000 then slo (ay a2 a3 a0 a1) else -10800000):=(bD (X:=cxB [a0,a1,a2,a3,a4,a5]) (v:=v) (l:=fK) (bg _) hs (k:=119) (j:=71) (ps:=[(6,.c 1),(7,.c 1),(9,.c 1),(15,.c 0),(18,.c 0),(24,.c 0),(30,.c 0),(48,.c 0),(73,.c 1),(74,.c 1),(76,.c 1),(89,.c 1)]) (aa k6 (aa k7 (aa k9 (aa E15 (aa E18 (aa E24 (aa E30 (aa k48 (aa k73 (aa k74 (aa k76 (aa k89 bA)))))))))))) (by kernel_rfl)).trans (w71)
 have r120:v 120=(if aU a2 a3 a0 a1-ay a2 a3 a0 a1<21600000 then slo (ay a2 a3 a0 a1)+(aU a2 a3 a0 a1-ay a2 a3 a0 a1) else 10800000):=(bD (X:=cxB [a0,a1,a2,a3,a4,a5]) (v:=v) (l:=fK) (bg _) hs (k:=120) (j:=72) (ps:=[(6,.c 1),(7,.c 1),(9,.c 1),(15,.c 0),(18,.c 0),(24,.c 0),(30,.c 0),(48,.c 0),(73,.c 1),(74,.c 1),(76,.c 1),(89,.c 1)]) (aa k6 (aa k7 (aa k9 (aa E15 (aa E18 (aa E24 (aa E30 (aa k48 (aa k73 (aa k74 (aa k76 (aa k89 bA)))))))))))) (by kernel_rfl)).trans (w72)
 have rE:v 116=0:=bv (X:=cxB [a0,a1,a2,a3,a4,a5]) (v:=v) (l:=fK) (bg _) hs (k:=116) (r:=.c 0) (ps:=[(6,.c 1),(7,.c 1),(9,.c 1),(15,.c 0),(18,.c 0),(24,.c 0),(30,.c 0),(48,.c 0),(73,.c 1),(74,.c 1),(76,.c 1),(89,.c 1)]) (nz:=[]) (aa k6 (aa k7 (aa k9 (aa E15 (aa E18 (aa E24 (aa E30 (aa k48 (aa k73 (aa k74 (aa k76 (aa k89 bA)))))))))))) bM (by kernel_rfl)
 refine ⟨jF hs (fs:=[((.n 6,true),(.n 0,.n 1)),((.n 6,true),(.n 2,.n 3)),((.n 6,true),(.n 4,.n 5)),((.n 8,true),(.n 0,.n 1)),((.n 8,true),(.n 2,.n 3)),((.n 8,true),(.n 4,.n 5)),((.n 12,true),(.n 0,.n 1)),((.n 12,true),(.n 2,.n 3)),((.n 12,true),(.n 4,.n 5)),((.n 35,true),(.n 0,.n 1)),((.n 35,true),(.n 2,.n 3)),((.n 35,true),(.n 4,.n 5))]) (rs:=[]) (fun e he=>by simp only [List.mem_cons,List.not_mem_nil,or_false] at he;rcases he with rfl|rfl|rfl|rfl|rfl|rfl|rfl|rfl|rfl|rfl|rfl|rfl<;>intro _<;>assumption) (fun e he=>by cases he) (by kernel_rfl),?_⟩
 intro x hx0;have hx':=oq (v:=v) (by rfl) hx0
 rw [hx'];show Value.tuple #[.agg #[.int .i64 (v 117),.int .i64 (v 118),.int .i64 (v 119),.int .i64 (v 120)],.int .i64 (v 116)]=_;rw [r117,r118,r119,r120,rE]
