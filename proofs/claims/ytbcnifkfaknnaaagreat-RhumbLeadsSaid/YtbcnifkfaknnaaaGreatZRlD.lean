/- The place that a leg leads to along a rhumb line, by the program: Direct, from a point. -/
import Derived.Test.YtbcnifkfaknnaaaGreatZRlQ
import Derived.Test.YtbcnifkfaknnaaaGreatZRhP
import Derived.Test.YtbcnifkfaknnaaaGreatZUnit
import Derived.Test.YtbcnifkfaknnaaaGreatZLkV
set_option linter.unusedVariables false
set_option linter.unusedSimpArgs false
set_option maxRecDepth 100000
set_option maxHeartbeats 8000000
namespace Go.Proofs.YtbcnifkfaknnaaaGreat
open Go.RowKit Alm Sx
def kRd (f:Nat):Bool:=f==13
def jP:Nat->List Int->List Int
 | 13,[a,b,c,d,n]=>[(qgV a b c d n).getD 0 0,(qgV a b c d n).getD 1 0,(qgV a b c d n).getD 2 0]
 | _,_=>[]
def X6:Nat->List Int->Prop
 | 13,[a,b,c,d,n]=>qgP a b c d n
 | _,_=>False
def dE (args:List Int):Cx:=(Cn args).plus kRd jP X6
def Za:Sx.Spec:=⟨51,13,[(true,[some .i64,some .i64]),(true,[some .i64,some .i64]),(false,[some .i64])],[(false,[some .i64]),(false,[some .i64]),(false,[some .i64])]⟩
def VF:List Sx.Spec:=[YV,UE,Ev,Za,KQ]
theorem Pf (args:List Int):∀ s∈VF,bR Tryz.prog (dE args) s:=by
 intro s hs;simp only [VF,List.mem_cons,List.not_mem_nil,or_false] at hs;rcases hs with rfl|rfl|rfl|rfl|rfl
 . exact dR rfl (dR rfl (Hz (by decide) (Q4 args)))
 . exact dR rfl (dR rfl (Hz (by decide) (Gt args)))
 . exact dR rfl (dR rfl (yx args))
 . refine iq rfl (ours _ _ _ Tryz.func51 rfl (by kernel_rfl)) fun xs hp w=>?_
   match xs,hp with
   | [a,b,c,d,n],hp=>exact TJ a b c d n w hp
 . exact dR rfl (DR args)
def ldL (l h x y:Int):Int:=min (gH l h x) (gH l h y)
def ldH (l h x y:Int):Int:=max (gU l h x) (gU l h y)
def fqL (a b c d x y:Int):Int:=min (qgL a b c d x) (qgL a b c d y)
def fqH (a b c d x y:Int):Int:=max (qgH a b c d x) (qgH a b c d y)
def jd (a P Q g h:Int):Int:=a+ldL (uC P Q).1 (uC P Q).2 g h
def je (a P Q g h:Int):Int:=a+ldH (uC P Q).1 (uC P Q).2 g h
def tL (P Q g h:Int):Int:=ldL (uS P Q).1 (uS P Q).2 g h
def tN (P Q g h:Int):Int:=ldH (uS P Q).1 (uS P Q).2 g h
def rdQ (a P Q g h:Int):IV:=uC (min a (jd a P Q g h)) (max a (je a P Q g h))
def cB (a P Q g h:Int):Prop:=-5340000<=jd a P Q g h/\je a P Q g h<=5340000
instance (a P Q g h:Int):Decidable (cB a P Q g h):=by unfold cB;infer_instance
def qM (a P Q g h:Int):Int:=fqL 1073741824 1073741824 (rdQ a P Q g h).1 (rdQ a P Q g h).2 (tL P Q g h) (tN P Q g h)
def rD (a P Q g h:Int):Int:=fqH 1073741824 1073741824 (rdQ a P Q g h).1 (rdQ a P Q g h).2 (tL P Q g h) (tN P Q g h)
def tO (a P Q g h:Int):Int:=prL (jd a P Q g h)-prH a
def tQ (a P Q g h:Int):Int:=prH (je a P Q g h)-prL a
def zI (a P Q g h:Int):Int:=fqL (uS P Q).1 (uS P Q).2 (uC P Q).1 (uC P Q).2 (tO a P Q g h) (tQ a P Q g h)
def zh (a P Q g h:Int):Int:=fqH (uS P Q).1 (uS P Q).2 (uC P Q).1 (uC P Q).2 (tO a P Q g h) (tQ a P Q g h)
def lF (P Q:Int):Prop:=(uC P Q).1>0∨(uC P Q).2<0
instance (P Q:Int):Decidable (lF P Q):=by unfold lF;infer_instance
def AJ (a P Q g h:Int):Prop:=lF P Q/\qgO (uS P Q).1 (uS P Q).2 (uC P Q).1 (uC P Q).2 (tO a P Q g h)/\qgO (uS P Q).1 (uS P Q).2 (uC P Q).1 (uC P Q).2 (tQ a P Q g h)
instance (a P Q g h:Int):Decidable (AJ a P Q g h):=by unfold AJ qgO;infer_instance
def iW (a P Q g h:Int):Int:=if AJ a P Q g h then max (qM a P Q g h) (zI a P Q g h) else qM a P Q g h
def iY (a P Q g h:Int):Int:=if AJ a P Q g h then min (rD a P Q g h) (zh a P Q g h) else rD a P Q g h
def mW (x y:Int):Int:=if y-x>=21600000 then -10800000 else sgt x
def qW (x y:Int):Int:=if y-x>=21600000 then 10800000 else sgt x+(y-x)
def rdV (a b P Q g h:Int):List Int:=if cB a P Q g h then [jd a P Q g h,je a P Q g h,mW (b+iW a P Q g h) (b+iY a P Q g h),qW (b+iW a P Q g h) (b+iY a P Q g h),0] else [0,0,0,0,25]
def Gp (a b P Q g h:Int):Prop:=(-5340000<=a/\a<=5340000)/\(-10800000<=b/\b<10800000)/\kL P Q=true/\(0<=g/\g<=h/\h<=15400000) /\
 (cB a P Q g h->0<(rdQ a P Q g h).1/\qgO 1073741824 1073741824 (rdQ a P Q g h).1 (rdQ a P Q g h).2 (tL P Q g h)/\qgO 1073741824 1073741824 (rdQ a P Q g h).1 (rdQ a P Q g h).2 (tN P Q g h) /\
  iW a P Q g h<=iY a P Q g h)
theorem sQ {a b c d n:Int} (h:qgO a b c d n):qgV a b c d n=[qgL a b c d n,qgH a b c d n,0]:=by
 unfold qgV;rw [h.1,h.2];rfl
theorem Rj {a b c d n:Int} (h:¬ qgO a b c d n):qgV a b c d n=[0,0,5]:=by
 unfold qgV qgO at *
 cases h1:cK (qgL a b c d n)<;>cases h2:cK (qgH a b c d n)<;>simp [h1,h2] at h ⊢
theorem Qg {p q:Prop} [Decidable p] [Decidable q] [Decidable (p/\q)]:(if b2i (decide p)≠0 then b2i (decide q) else 0)=b2i (decide (p/\q)):=by
 by_cases h1:p<;>by_cases h2:q<;>simp [b2i,h1,h2]
theorem VI {p q:Prop} [Decidable p] [Decidable q] [Decidable (p∨q)]:(if b2i (decide p)≠0 then (1:Int) else b2i (decide q))=b2i (decide (p∨q)):=by
 by_cases h1:p<;>by_cases h2:q<;>simp [b2i,h1,h2]
theorem lK {n:Int} (h:cK n=true):-1099511627776<=n/\n<=1099511627776:=by
 unfold cK at h;simp only [Bool.and_eq_true,decide_eq_true_eq] at h;omega
theorem GI (l h x y:Int) (hu:-1073741824<=l/\l<=h/\h<=1073741824) (hx:0<=x/\x<=15400000) (hy:0<=y/\y<=15400000):-15400000<=ldL l h x y/\ldL l h x y<=ldH l h x y/\ldH l h x y<=15400000:=by
 have k:∀ u z:Int,-1073741824<=u->u<=1073741824->0<=z->z<=15400000->-15400000<=qFl u z 1073741824/\qFl u z 1073741824<=qCe u z 1073741824/\qCe u z 1073741824<=15400000:=by
  intro u z u0 u1 z0 z1;have a:=Int.mul_le_mul_of_nonneg_right u0 z0;have b:=Int.mul_le_mul_of_nonneg_right u1 z0;unfold qFl qCe;generalize u*z=t at *
  omega
 have a:=k l x (by omega) (by omega) hx.1 hx.2
 have b:=k h x (by omega) (by omega) hx.1 hx.2
 have c:=k l y (by omega) (by omega) hy.1 hy.2
 have d:=k h y (by omega) (by omega) hy.1 hy.2
 unfold ldL ldH gH gU;omega
def aP:List Nd:=[
 .arg 0,
 .arg 1,
 .arg 2,
 .arg 3,
 .arg 4,
 .arg 5,
 .arg 6,
 .arg 7,
 .bin .leq .i64 (.n 0) (.n 1),
 .bin .geq .i64 (.n 0) (.c (-5400000)),
 .ite (.n 8) (.n 9) (.c 0),
 .bin .leq .i64 (.n 1) (.c 5400000),
 .ite (.n 10) (.n 11) (.c 0),
 .bin .eql .i64 (.n 2) (.c (-10800000)),
 .bin .eql .i64 (.n 3) (.c 10800000),
 .ite (.n 13) (.n 14) (.c 0),
 .bin .geq .i64 (.n 2) (.c (-10800000)),
 .bin .lss .i64 (.n 2) (.c 10800000),
 .ite (.n 16) (.n 17) (.c 0),
 .bin .leq .i64 (.n 2) (.n 3),
 .ite (.n 18) (.n 19) (.c 0),
 .bin .sub .i64 (.n 3) (.n 2),
 .bin .lss .i64 (.n 21) (.c 21600000),
 .ite (.n 20) (.n 22) (.c 0),
 .ite (.n 15) (.c 1) (.n 23),
 .ite (.n 12) (.n 24) (.c 0),
 .ite (.n 25) (.c 0) (.c 1),
 .bin .leq .i64 (.n 4) (.n 5),
 .bin .geq .i64 (.n 4) (.c (-1099511627776)),
 .bin .leq .i64 (.n 4) (.c 1099511627776),
 .ite (.n 28) (.n 29) (.c 0),
 .ite (.n 27) (.n 30) (.c 0),
 .bin .geq .i64 (.n 5) (.c (-1099511627776)),
 .bin .leq .i64 (.n 5) (.c 1099511627776),
 .ite (.n 32) (.n 33) (.c 0),
 .ite (.n 31) (.n 34) (.c 0),
 .ite (.n 35) (.c 0) (.c 1),
 .ite (.n 26) (.c 1) (.n 36),
 .bin .leq .i64 (.n 6) (.n 7),
 .bin .geq .i64 (.n 6) (.c (-1099511627776)),
 .bin .leq .i64 (.n 6) (.c 1099511627776),
 .ite (.n 39) (.n 40) (.c 0),
 .ite (.n 38) (.n 41) (.c 0),
 .bin .geq .i64 (.n 7) (.c (-1099511627776)),
 .bin .leq .i64 (.n 7) (.c 1099511627776),
 .ite (.n 43) (.n 44) (.c 0),
 .ite (.n 42) (.n 45) (.c 0),
 .ite (.n 46) (.c 0) (.c 1),
 .ite (.n 37) (.c 1) (.n 47),
 .bin .lss .i64 (.n 6) (.c 0),
 .ite (.n 48) (.c 1) (.n 49),
 .bin .gtr .i64 (.n 7) (.c 21600000),
 .ite (.n 50) (.c 1) (.n 51),
 .ite (.n 52) (.c 0) (.c 1),
 .bin .geq .i64 (.n 0) (.c (-5340000)),
 .bin .leq .i64 (.n 1) (.c 5340000),
 .ite (.n 54) (.n 55) (.c 0),
 .ite (.n 56) (.c 0) (.c 1),
 .app 5 0 [.n 4,.n 5],
 .app 5 1 [.n 4,.n 5],
 .app 5 2 [.n 4,.n 5],
 .app 6 0 [.n 4,.n 5],
 .app 6 1 [.n 4,.n 5],
 .app 6 2 [.n 4,.n 5],
 .bin .neq .i64 (.n 60) (.c 0),
 .bin .neq .i64 (.n 63) (.c 0),
 .ite (.n 64) (.c 1) (.n 65),
 .mx (.n 60) (.n 63),
 .ite (.n 66) (.c 0) (.c 1),
 .app 9 0 [.n 61,.n 62,.n 6],
 .app 9 1 [.n 61,.n 62,.n 6],
 .app 9 2 [.n 61,.n 62,.n 6],
 .bin .neq .i64 (.n 71) (.c 0),
 .ite (.n 72) (.c 0) (.c 1),
 .app 9 0 [.n 61,.n 62,.n 7],
 .app 9 1 [.n 61,.n 62,.n 7],
 .app 9 2 [.n 61,.n 62,.n 7],
 .bin .neq .i64 (.n 76) (.c 0),
 .ite (.n 77) (.c 0) (.c 1),
 .mn (.n 69) (.n 74),
 .mx (.n 70) (.n 75),
 .ite (.n 77) (.n 76) (.c 0),
 .ite (.n 77) (.c 0) (.n 79),
 .ite (.n 77) (.c 0) (.n 80),
 .ite (.n 72) (.n 71) (.n 81),
 .ite (.n 72) (.n 71) (.n 76),
 .ite (.n 72) (.c 0) (.n 82),
 .ite (.n 72) (.c 0) (.n 83),
 .app 9 0 [.n 58,.n 59,.n 6],
 .app 9 1 [.n 58,.n 59,.n 6],
 .app 9 2 [.n 58,.n 59,.n 6],
 .bin .neq .i64 (.n 90) (.c 0),
 .ite (.n 91) (.c 0) (.c 1),
 .app 9 0 [.n 58,.n 59,.n 7],
 .app 9 1 [.n 58,.n 59,.n 7],
 .app 9 2 [.n 58,.n 59,.n 7],
 .bin .neq .i64 (.n 95) (.c 0),
 .ite (.n 96) (.c 0) (.c 1),
 .mn (.n 88) (.n 93),
 .mx (.n 89) (.n 94),
 .ite (.n 96) (.n 95) (.c 0),
 .ite (.n 96) (.c 0) (.n 98),
 .ite (.n 96) (.c 0) (.n 99),
 .ite (.n 91) (.n 90) (.n 100),
 .ite (.n 91) (.n 90) (.n 95),
 .ite (.n 91) (.c 0) (.n 101),
 .ite (.n 91) (.c 0) (.n 102),
 .bin .neq .i64 (.n 84) (.c 0),
 .bin .neq .i64 (.n 103) (.c 0),
 .ite (.n 107) (.c 1) (.n 108),
 .mx (.n 84) (.n 103),
 .ite (.n 109) (.c 0) (.c 1),
 .bin .add .i64 (.n 0) (.n 86),
 .bin .add .i64 (.n 1) (.n 87),
 .bin .geq .i64 (.n 112) (.c (-5340000)),
 .bin .leq .i64 (.n 113) (.c 5340000),
 .ite (.n 114) (.n 115) (.c 0),
 .ite (.n 116) (.c 0) (.c 1),
 .mn (.n 0) (.n 112),
 .mx (.n 1) (.n 113),
 .app 6 0 [.n 118,.n 119],
 .app 6 1 [.n 118,.n 119],
 .app 6 2 [.n 118,.n 119],
 .bin .neq .i64 (.n 122) (.c 0),
 .ite (.n 123) (.c 0) (.c 1),
 .app 13 0 [.c 1073741824,.c 1073741824,.n 120,.n 121,.n 105],
 .app 13 1 [.c 1073741824,.c 1073741824,.n 120,.n 121,.n 105],
 .app 13 2 [.c 1073741824,.c 1073741824,.n 120,.n 121,.n 105],
 .bin .neq .i64 (.n 127) (.c 0),
 .ite (.n 128) (.c 0) (.c 1),
 .app 13 0 [.c 1073741824,.c 1073741824,.n 120,.n 121,.n 106],
 .app 13 1 [.c 1073741824,.c 1073741824,.n 120,.n 121,.n 106],
 .app 13 2 [.c 1073741824,.c 1073741824,.n 120,.n 121,.n 106],
 .bin .neq .i64 (.n 132) (.c 0),
 .ite (.n 133) (.c 0) (.c 1),
 .mn (.n 125) (.n 130),
 .mx (.n 126) (.n 131),
 .ite (.n 133) (.n 132) (.c 0),
 .ite (.n 133) (.c 0) (.n 135),
 .ite (.n 133) (.c 0) (.n 136),
 .ite (.n 128) (.n 127) (.n 137),
 .ite (.n 128) (.n 127) (.n 132),
 .ite (.n 128) (.c 0) (.n 138),
 .ite (.n 128) (.c 0) (.n 139),
 .bin .neq .i64 (.n 140) (.c 0),
 .ite (.n 144) (.c 0) (.c 1),
 .bin .gtr .i64 (.n 61) (.c 0),
 .bin .lss .i64 (.n 62) (.c 0),
 .ite (.n 146) (.c 1) (.n 147),
 .app 99 0 [.n 112],
 .app 99 1 [.n 112],
 .app 99 2 [.n 112],
 .app 99 0 [.n 113],
 .app 99 1 [.n 113],
 .app 99 2 [.n 113],
 .app 99 0 [.n 0],
 .app 99 1 [.n 0],
 .app 99 2 [.n 0],
 .app 99 0 [.n 1],
 .app 99 1 [.n 1],
 .app 99 2 [.n 1],
 .bin .sub .i64 (.n 149) (.n 159),
 .bin .sub .i64 (.n 153) (.n 155),
 .app 13 0 [.n 58,.n 59,.n 61,.n 62,.n 161],
 .app 13 1 [.n 58,.n 59,.n 61,.n 62,.n 161],
 .app 13 2 [.n 58,.n 59,.n 61,.n 62,.n 161],
 .bin .neq .i64 (.n 165) (.c 0),
 .ite (.n 166) (.c 0) (.c 1),
 .app 13 0 [.n 58,.n 59,.n 61,.n 62,.n 162],
 .app 13 1 [.n 58,.n 59,.n 61,.n 62,.n 162],
 .app 13 2 [.n 58,.n 59,.n 61,.n 62,.n 162],
 .bin .neq .i64 (.n 170) (.c 0),
 .ite (.n 171) (.c 0) (.c 1),
 .mn (.n 163) (.n 168),
 .mx (.n 164) (.n 169),
 .ite (.n 171) (.n 170) (.c 0),
 .ite (.n 171) (.c 0) (.n 173),
 .ite (.n 171) (.c 0) (.n 174),
 .ite (.n 166) (.n 165) (.n 175),
 .ite (.n 166) (.n 165) (.n 170),
 .ite (.n 166) (.c 0) (.n 176),
 .ite (.n 166) (.c 0) (.n 177),
 .bin .eql .i64 (.n 178) (.c 0),
 .bin .leq .i64 (.n 142) (.n 143),
 .bin .geq .i64 (.n 142) (.c (-1099511627776)),
 .bin .leq .i64 (.n 142) (.c 1099511627776),
 .ite (.n 184) (.n 185) (.c 0),
 .ite (.n 183) (.n 186) (.c 0),
 .bin .geq .i64 (.n 143) (.c (-1099511627776)),
 .bin .leq .i64 (.n 143) (.c 1099511627776),
 .ite (.n 188) (.n 189) (.c 0),
 .ite (.n 187) (.n 190) (.c 0),
 .ite (.n 191) (.c 0) (.c 1),
 .bin .leq .i64 (.n 180) (.n 181),
 .bin .geq .i64 (.n 180) (.c (-1099511627776)),
 .bin .leq .i64 (.n 180) (.c 1099511627776),
 .ite (.n 194) (.n 195) (.c 0),
 .ite (.n 193) (.n 196) (.c 0),
 .bin .geq .i64 (.n 181) (.c (-1099511627776)),
 .bin .leq .i64 (.n 181) (.c 1099511627776),
 .ite (.n 198) (.n 199) (.c 0),
 .ite (.n 197) (.n 200) (.c 0),
 .ite (.n 201) (.c 0) (.c 1),
 .ite (.n 192) (.c 1) (.n 202),
 .ite (.n 203) (.c 0) (.c 1),
 .mx (.n 142) (.n 180),
 .mn (.n 143) (.n 181),
 .bin .gtr .i64 (.n 205) (.n 206),
 .ite (.n 207) (.c 0) (.c 1),
 .ite (.n 207) (.c 23) (.c 0),
 .ite (.n 207) (.c 0) (.n 205),
 .ite (.n 207) (.c 0) (.n 206),
 .ite (.n 203) (.c 1) (.n 209),
 .ite (.n 203) (.c 0) (.n 210),
 .ite (.n 203) (.c 0) (.n 211),
 .bin .neq .i64 (.n 212) (.c 0),
 .ite (.n 215) (.c 0) (.c 1),
 .ite (.n 182) (.n 216) (.c 0),
 .ite (.n 182) (.n 215) (.c 0),
 .ite (.n 182) (.c 0) (.c 1),
 .ite (.n 217) (.c 1) (.n 219),
 .ite (.n 217) (.n 212) (.n 140),
 .ite (.n 217) (.n 213) (.n 142),
 .ite (.n 217) (.n 214) (.n 143),
 .ite (.n 148) (.n 220) (.c 0),
 .ite (.n 148) (.n 218) (.c 0),
 .ite (.n 148) (.c 0) (.c 1),
 .ite (.n 224) (.c 1) (.n 226),
 .ite (.n 224) (.n 221) (.n 140),
 .ite (.n 224) (.n 222) (.n 142),
 .ite (.n 224) (.n 223) (.n 143),
 .bin .add .i64 (.n 2) (.n 229),
 .bin .add .i64 (.n 3) (.n 230),
 .bin .sub .i64 (.n 232) (.n 231),
 .bin .geq .i64 (.n 233) (.c 21600000),
 .ite (.n 234) (.c 0) (.c 1),
 .bin .rem .i64 (.n 231) (.c 21600000),
 .bin .lss .i64 (.n 236) (.c 0),
 .bin .add .i64 (.n 236) (.c 21600000),
 .ite (.n 237) (.c 0) (.c 1),
 .ite (.n 237) (.n 238) (.n 236),
 .bin .geq .i64 (.n 240) (.c 10800000),
 .bin .sub .i64 (.n 240) (.c 21600000),
 .ite (.n 241) (.c 0) (.c 1),
 .ite (.n 241) (.n 242) (.n 240),
 .bin .add .i64 (.n 244) (.n 233),
 .ite (.n 234) (.c (-10800000)) (.n 244),
 .ite (.n 234) (.c 10800000) (.n 245),
 .ite (.n 225) (.c 1) (.n 227),
 .ite (.n 225) (.n 212) (.c 0),
 .ite (.n 225) (.n 212) (.n 228),
 .ite (.n 225) (.n 213) (.n 229),
 .ite (.n 225) (.n 214) (.n 230),
 .ite (.n 225) (.c 0) (.n 112),
 .ite (.n 225) (.c 0) (.n 113),
 .ite (.n 225) (.c 0) (.n 246),
 .ite (.n 225) (.c 0) (.n 247),
 .ite (.n 145) (.n 248) (.c 0),
 .ite (.n 144) (.c 1) (.n 257),
 .ite (.n 144) (.n 140) (.n 249),
 .ite (.n 144) (.n 140) (.n 250),
 .ite (.n 144) (.n 142) (.n 251),
 .ite (.n 144) (.n 143) (.n 252),
 .ite (.n 144) (.c 0) (.n 253),
 .ite (.n 144) (.c 0) (.n 254),
 .ite (.n 144) (.c 0) (.n 255),
 .ite (.n 144) (.c 0) (.n 256),
 .ite (.n 124) (.n 258) (.c 0),
 .ite (.n 123) (.c 1) (.n 267),
 .ite (.n 123) (.n 122) (.n 259),
 .ite (.n 123) (.n 122) (.n 260),
 .ite (.n 123) (.c 0) (.n 263),
 .ite (.n 123) (.c 0) (.n 264),
 .ite (.n 123) (.c 0) (.n 265),
 .ite (.n 123) (.c 0) (.n 266),
 .ite (.n 116) (.n 268) (.c 0),
 .ite (.n 117) (.c 1) (.n 275),
 .ite (.n 117) (.c 25) (.n 269),
 .ite (.n 117) (.n 84) (.n 270),
 .ite (.n 117) (.c 0) (.n 271),
 .ite (.n 117) (.c 0) (.n 272),
 .ite (.n 117) (.c 0) (.n 273),
 .ite (.n 117) (.c 0) (.n 274),
 .ite (.n 111) (.n 276) (.c 0),
 .ite (.n 109) (.c 1) (.n 283),
 .ite (.n 109) (.n 110) (.n 277),
 .ite (.n 109) (.n 84) (.n 278),
 .ite (.n 109) (.c 0) (.n 279),
 .ite (.n 109) (.c 0) (.n 280),
 .ite (.n 109) (.c 0) (.n 281),
 .ite (.n 109) (.c 0) (.n 282),
 .ite (.n 68) (.n 284) (.c 0),
 .ite (.n 66) (.c 1) (.n 291),
 .ite (.n 66) (.n 67) (.n 285),
 .ite (.n 66) (.n 60) (.n 286),
 .ite (.n 66) (.n 63) (.n 103),
 .ite (.n 66) (.c 0) (.n 287),
 .ite (.n 66) (.c 0) (.n 288),
 .ite (.n 66) (.c 0) (.n 289),
 .ite (.n 66) (.c 0) (.n 290),
 .ite (.n 56) (.n 292) (.c 0),
 .ite (.n 57) (.c 1) (.n 300),
 .ite (.n 57) (.c 2) (.n 293),
 .ite (.n 57) (.c 0) (.n 296),
 .ite (.n 57) (.c 0) (.n 297),
 .ite (.n 57) (.c 0) (.n 298),
 .ite (.n 57) (.c 0) (.n 299),
 .ite (.n 53) (.n 301) (.c 0),
 .ite (.n 52) (.c 1) (.n 307),
 .ite (.n 52) (.c 1) (.n 302),
 .ite (.n 52) (.c 0) (.n 303),
 .ite (.n 52) (.c 0) (.n 304),
 .ite (.n 52) (.c 0) (.n 305),
 .ite (.n 52) (.c 0) (.n 306)]
def Pg:List Vc:=[
 ⟨[(.n 56,true),(.n 53,true)],.pre 5 [.n 4,.n 5]⟩,
 ⟨[(.n 56,true),(.n 53,true)],.pre 6 [.n 4,.n 5]⟩,
 ⟨[(.n 68,true),(.n 56,true),(.n 53,true)],.pre 9 [.n 61,.n 62,.n 6]⟩,
 ⟨[(.n 73,true),(.n 68,true),(.n 56,true),(.n 53,true)],.pre 9 [.n 61,.n 62,.n 7]⟩,
 ⟨[(.n 68,true),(.n 56,true),(.n 53,true)],.pre 9 [.n 58,.n 59,.n 6]⟩,
 ⟨[(.n 92,true),(.n 68,true),(.n 56,true),(.n 53,true)],.pre 9 [.n 58,.n 59,.n 7]⟩,
 ⟨[(.n 116,true),(.n 111,true),(.n 68,true),(.n 56,true),(.n 53,true)],.pre 6 [.n 118,.n 119]⟩,
 ⟨[(.n 124,true),(.n 116,true),(.n 111,true),(.n 68,true),(.n 56,true),(.n 53,true)],.pre 13 [.c 1073741824,.c 1073741824,.n 120,.n 121,.n 105]⟩,
 ⟨[(.n 129,true),(.n 124,true),(.n 116,true),(.n 111,true),(.n 68,true),(.n 56,true),(.n 53,true)],.pre 13 [.c 1073741824,.c 1073741824,.n 120,.n 121,.n 106]⟩,
 ⟨[(.n 148,true),(.n 145,true),(.n 124,true),(.n 116,true),(.n 111,true),(.n 68,true),(.n 56,true),(.n 53,true)],.pre 99 [.n 112]⟩,
 ⟨[(.n 148,true),(.n 145,true),(.n 124,true),(.n 116,true),(.n 111,true),(.n 68,true),(.n 56,true),(.n 53,true)],.pre 99 [.n 113]⟩,
 ⟨[(.n 148,true),(.n 145,true),(.n 124,true),(.n 116,true),(.n 111,true),(.n 68,true),(.n 56,true),(.n 53,true)],.pre 99 [.n 0]⟩,
 ⟨[(.n 148,true),(.n 145,true),(.n 124,true),(.n 116,true),(.n 111,true),(.n 68,true),(.n 56,true),(.n 53,true)],.pre 99 [.n 1]⟩,
 ⟨[(.n 148,true),(.n 145,true),(.n 124,true),(.n 116,true),(.n 111,true),(.n 68,true),(.n 56,true),(.n 53,true)],.pre 13 [.n 58,.n 59,.n 61,.n 62,.n 161]⟩,
 ⟨[(.n 167,true),(.n 148,true),(.n 145,true),(.n 124,true),(.n 116,true),(.n 111,true),(.n 68,true),(.n 56,true),(.n 53,true)],.pre 13 [.n 58,.n 59,.n 61,.n 62,.n 162]⟩]
theorem Pe:whole Tryz.prog VF 20 40 8 [(true,[some .i64,some .i64,some .i64,some .i64]),(true,[some .i64,some .i64,some .i64,some .i64])]=some (.tup [.agg [.int .i64 (.n 310),.int .i64 (.n 311),.int .i64 (.n 312),.int .i64 (.n 313)],.c (.int .i64 (.n 309))],⟨aP.reverse,Pg.reverse⟩):=by kernel_rfl
theorem Ql:wfN aP.reverse=true:=by kernel_rfl
theorem Yq (a a1 b b1 P Q g h:Int) (w:World) (ha:a1=a) (hb:b1=b) (hp0:Gp a b P Q g h):Calls Tryz.prog 8 #[.agg #[.int .i64 a,.int .i64 a1,.int .i64 b,.int .i64 b1],.agg #[.int .i64 P,.int .i64 Q,.int .i64 g,.int .i64 h]] w fun e w'=>e=.returned (.tuple #[.agg #[.int .i64 ((rdV a b P Q g h).getD 0 0),.int .i64 ((rdV a b P Q g h).getD 1 0),.int .i64 ((rdV a b P Q g h).getD 2 0),.int .i64 ((rdV a b P Q g h).getD 3 0)],.int .i64 ((rdV a b P Q g h).getD 4 0)])/\Below w.heap.size w w':=by
 refine Sx.calls (X:=dE [a,a1,b,b1,P,Q,g,h]) jc (Pf _) Pe Ql (fun v hs=>?_) w
 have e0:v 0=a:=ag hs 0 rfl;have e1:v 1=a1:=ag hs 1 rfl;have e2:v 2=b:=ag hs 2 rfl;have e3:v 3=b1:=ag hs 3 rfl;have e4:v 4=P:=ag hs 4 rfl;have e5:v 5=Q:=ag hs 5 rfl;have e6:v 6=g:=ag hs 6 rfl;have e7:v 7=h:=ag hs 7 rfl;have e8:v 8=b2i (decide (v 0<=v 1)):=ag hs 8 rfl;have e9:v 9=b2i (decide (v 0>=(-5400000:Int))):=ag hs 9 rfl;have e10:v 10=if v 8≠0 then v 9 else (0:Int):=ag hs 10 rfl
 have e11:v 11=b2i (decide (v 1<=(5400000:Int))):=ag hs 11 rfl;have e12:v 12=if v 10≠0 then v 11 else (0:Int):=ag hs 12 rfl
 have e13:v 13=b2i (v 2==(-10800000:Int)):=ag hs 13 rfl;have e14:v 14=b2i (v 3==(10800000:Int)):=ag hs 14 rfl;have e15:v 15=if v 13≠0 then v 14 else (0:Int):=ag hs 15 rfl
 have e16:v 16=b2i (decide (v 2>=(-10800000:Int))):=ag hs 16 rfl;have e17:v 17=b2i (decide (v 2<(10800000:Int))):=ag hs 17 rfl;have e18:v 18=if v 16≠0 then v 17 else (0:Int):=ag hs 18 rfl
 have e19:v 19=b2i (decide (v 2<=v 3)):=ag hs 19 rfl;have e20:v 20=if v 18≠0 then v 19 else (0:Int):=ag hs 20 rfl
 have e21:v 21=IntKind.i64.wrap (v 3-v 2):=ag hs 21 rfl;have e22:v 22=b2i (decide (v 21<(21600000:Int))):=ag hs 22 rfl;have e23:v 23=if v 20≠0 then v 22 else (0:Int):=ag hs 23 rfl
 have e24:v 24=if v 15≠0 then (1:Int) else v 23:=ag hs 24 rfl
 have e25:v 25=if v 12≠0 then v 24 else (0:Int):=ag hs 25 rfl
 have e26:v 26=if v 25≠0 then (0:Int) else (1:Int):=ag hs 26 rfl
 have e27:v 27=b2i (decide (v 4<=v 5)):=ag hs 27 rfl;have e28:v 28=b2i (decide (v 4>=(-1099511627776:Int))):=ag hs 28 rfl;have e29:v 29=b2i (decide (v 4<=(1099511627776:Int))):=ag hs 29 rfl;have e30:v 30=if v 28≠0 then v 29 else (0:Int):=ag hs 30 rfl
 have e31:v 31=if v 27≠0 then v 30 else (0:Int):=ag hs 31 rfl
 have e32:v 32=b2i (decide (v 5>=(-1099511627776:Int))):=ag hs 32 rfl;have e33:v 33=b2i (decide (v 5<=(1099511627776:Int))):=ag hs 33 rfl;have e34:v 34=if v 32≠0 then v 33 else (0:Int):=ag hs 34 rfl
 have e38:v 38=b2i (decide (v 6<=v 7)):=ag hs 38 rfl;have e39:v 39=b2i (decide (v 6>=(-1099511627776:Int))):=ag hs 39 rfl;have e40:v 40=b2i (decide (v 6<=(1099511627776:Int))):=ag hs 40 rfl;have e41:v 41=if v 39≠0 then v 40 else (0:Int):=ag hs 41 rfl
 have e42:v 42=if v 38≠0 then v 41 else (0:Int):=ag hs 42 rfl
 have e43:v 43=b2i (decide (v 7>=(-1099511627776:Int))):=ag hs 43 rfl;have e44:v 44=b2i (decide (v 7<=(1099511627776:Int))):=ag hs 44 rfl;have e45:v 45=if v 43≠0 then v 44 else (0:Int):=ag hs 45 rfl
 have e46:v 46=if v 42≠0 then v 45 else (0:Int):=ag hs 46 rfl
 have e47:v 47=if v 46≠0 then (0:Int) else (1:Int):=ag hs 47 rfl
 have e48:v 48=if v 37≠0 then (1:Int) else v 47:=ag hs 48 rfl
 have e49:v 49=b2i (decide (v 6<(0:Int))):=ag hs 49 rfl;have e50:v 50=if v 48≠0 then (1:Int) else v 49:=ag hs 50 rfl
 have e51:v 51=b2i (decide (v 7>(21600000:Int))):=ag hs 51 rfl;have e52:v 52=if v 50≠0 then (1:Int) else v 51:=ag hs 52 rfl
 have e53:v 53=if v 52≠0 then (0:Int) else (1:Int):=ag hs 53 rfl
 have e54:v 54=b2i (decide (v 0>=(-5340000:Int))):=ag hs 54 rfl;have e55:v 55=b2i (decide (v 1<=(5340000:Int))):=ag hs 55 rfl;have e56:v 56=if v 54≠0 then v 55 else (0:Int):=ag hs 56 rfl
 have e57:v 57=if v 56≠0 then (0:Int) else (1:Int):=ag hs 57 rfl
 have e58:v 58=(fA 5 [v 4,v 5]).getD 0 0:=ag hs 58 rfl;have e59:v 59=(fA 5 [v 4,v 5]).getD 1 0:=ag hs 59 rfl;have e60:v 60=(fA 5 [v 4,v 5]).getD 2 0:=ag hs 60 rfl;have e61:v 61=(fA 6 [v 4,v 5]).getD 0 0:=ag hs 61 rfl;have e62:v 62=(fA 6 [v 4,v 5]).getD 1 0:=ag hs 62 rfl;have e63:v 63=(fA 6 [v 4,v 5]).getD 2 0:=ag hs 63 rfl;have e69:v 69=(fA 9 [v 61,v 62,v 6]).getD 0 0:=ag hs 69 rfl;have e70:v 70=(fA 9 [v 61,v 62,v 6]).getD 1 0:=ag hs 70 rfl;have e71:v 71=(fA 9 [v 61,v 62,v 6]).getD 2 0:=ag hs 71 rfl;have e74:v 74=(fA 9 [v 61,v 62,v 7]).getD 0 0:=ag hs 74 rfl;have e75:v 75=(fA 9 [v 61,v 62,v 7]).getD 1 0:=ag hs 75 rfl;have e76:v 76=(fA 9 [v 61,v 62,v 7]).getD 2 0:=ag hs 76 rfl;have e79:v 79=if v 74<v 69 then v 74 else v 69:=ag hs 79 rfl
 have e80:v 80=if v 75>v 70 then v 75 else v 70:=ag hs 80 rfl
 have e88:v 88=(fA 9 [v 58,v 59,v 6]).getD 0 0:=ag hs 88 rfl;have e89:v 89=(fA 9 [v 58,v 59,v 6]).getD 1 0:=ag hs 89 rfl;have e90:v 90=(fA 9 [v 58,v 59,v 6]).getD 2 0:=ag hs 90 rfl;have e93:v 93=(fA 9 [v 58,v 59,v 7]).getD 0 0:=ag hs 93 rfl;have e94:v 94=(fA 9 [v 58,v 59,v 7]).getD 1 0:=ag hs 94 rfl;have e95:v 95=(fA 9 [v 58,v 59,v 7]).getD 2 0:=ag hs 95 rfl;have e98:v 98=if v 93<v 88 then v 93 else v 88:=ag hs 98 rfl
 have e99:v 99=if v 94>v 89 then v 94 else v 89:=ag hs 99 rfl
 have e112:v 112=IntKind.i64.wrap (v 0+v 86):=ag hs 112 rfl;have e113:v 113=IntKind.i64.wrap (v 1+v 87):=ag hs 113 rfl;have e114:v 114=b2i (decide (v 112>=(-5340000:Int))):=ag hs 114 rfl;have e115:v 115=b2i (decide (v 113<=(5340000:Int))):=ag hs 115 rfl;have e116:v 116=if v 114≠0 then v 115 else (0:Int):=ag hs 116 rfl
 have e118:v 118=if v 112<v 0 then v 112 else v 0:=ag hs 118 rfl
 have e119:v 119=if v 113>v 1 then v 113 else v 1:=ag hs 119 rfl
 have e120:v 120=(fA 6 [v 118,v 119]).getD 0 0:=ag hs 120 rfl;have e121:v 121=(fA 6 [v 118,v 119]).getD 1 0:=ag hs 121 rfl;have e122:v 122=(fA 6 [v 118,v 119]).getD 2 0:=ag hs 122 rfl;have e125:v 125=(jP 13 [(1073741824:Int),(1073741824:Int),v 120,v 121,v 105]).getD 0 0:=ag hs 125 rfl;have e126:v 126=(jP 13 [(1073741824:Int),(1073741824:Int),v 120,v 121,v 105]).getD 1 0:=ag hs 126 rfl;have e127:v 127=(jP 13 [(1073741824:Int),(1073741824:Int),v 120,v 121,v 105]).getD 2 0:=ag hs 127 rfl;have e130:v 130=(jP 13 [(1073741824:Int),(1073741824:Int),v 120,v 121,v 106]).getD 0 0:=ag hs 130 rfl;have e131:v 131=(jP 13 [(1073741824:Int),(1073741824:Int),v 120,v 121,v 106]).getD 1 0:=ag hs 131 rfl;have e132:v 132=(jP 13 [(1073741824:Int),(1073741824:Int),v 120,v 121,v 106]).getD 2 0:=ag hs 132 rfl;have e135:v 135=if v 130<v 125 then v 130 else v 125:=ag hs 135 rfl
 have e136:v 136=if v 131>v 126 then v 131 else v 126:=ag hs 136 rfl
 have e146:v 146=b2i (decide (v 61>(0:Int))):=ag hs 146 rfl;have e147:v 147=b2i (decide (v 62<(0:Int))):=ag hs 147 rfl;have e148:v 148=if v 146≠0 then (1:Int) else v 147:=ag hs 148 rfl
 have e149:v 149=(fP 99 [v 112]).getD 0 0:=ag hs 149 rfl;have e150:v 150=(fP 99 [v 112]).getD 1 0:=ag hs 150 rfl;have e151:v 151=(fP 99 [v 112]).getD 2 0:=ag hs 151 rfl;have e152:v 152=(fP 99 [v 113]).getD 0 0:=ag hs 152 rfl;have e153:v 153=(fP 99 [v 113]).getD 1 0:=ag hs 153 rfl;have e154:v 154=(fP 99 [v 113]).getD 2 0:=ag hs 154 rfl;have e155:v 155=(fP 99 [v 0]).getD 0 0:=ag hs 155 rfl;have e156:v 156=(fP 99 [v 0]).getD 1 0:=ag hs 156 rfl;have e157:v 157=(fP 99 [v 0]).getD 2 0:=ag hs 157 rfl;have e158:v 158=(fP 99 [v 1]).getD 0 0:=ag hs 158 rfl;have e159:v 159=(fP 99 [v 1]).getD 1 0:=ag hs 159 rfl;have bG:v 160=(fP 99 [v 1]).getD 2 0:=ag hs 160 rfl;have e161:v 161=IntKind.i64.wrap (v 149-v 159):=ag hs 161 rfl;have e162:v 162=IntKind.i64.wrap (v 153-v 155):=ag hs 162 rfl;have e163:v 163=(jP 13 [v 58,v 59,v 61,v 62,v 161]).getD 0 0:=ag hs 163 rfl;have e164:v 164=(jP 13 [v 58,v 59,v 61,v 62,v 161]).getD 1 0:=ag hs 164 rfl;have e165:v 165=(jP 13 [v 58,v 59,v 61,v 62,v 161]).getD 2 0:=ag hs 165 rfl;have e168:v 168=(jP 13 [v 58,v 59,v 61,v 62,v 162]).getD 0 0:=ag hs 168 rfl;have e169:v 169=(jP 13 [v 58,v 59,v 61,v 62,v 162]).getD 1 0:=ag hs 169 rfl;have e170:v 170=(jP 13 [v 58,v 59,v 61,v 62,v 162]).getD 2 0:=ag hs 170 rfl;have e173:v 173=if v 168<v 163 then v 168 else v 163:=ag hs 173 rfl
 have e174:v 174=if v 169>v 164 then v 169 else v 164:=ag hs 174 rfl
 have e183:v 183=b2i (decide (v 142<=v 143)):=ag hs 183 rfl;have e184:v 184=b2i (decide (v 142>=(-1099511627776:Int))):=ag hs 184 rfl;have e185:v 185=b2i (decide (v 142<=(1099511627776:Int))):=ag hs 185 rfl;have e186:v 186=if v 184≠0 then v 185 else (0:Int):=ag hs 186 rfl
 have e187:v 187=if v 183≠0 then v 186 else (0:Int):=ag hs 187 rfl
 have e188:v 188=b2i (decide (v 143>=(-1099511627776:Int))):=ag hs 188 rfl;have e189:v 189=b2i (decide (v 143<=(1099511627776:Int))):=ag hs 189 rfl;have e190:v 190=if v 188≠0 then v 189 else (0:Int):=ag hs 190 rfl
 have e191:v 191=if v 187≠0 then v 190 else (0:Int):=ag hs 191 rfl
 have e193:v 193=b2i (decide (v 180<=v 181)):=ag hs 193 rfl;have e194:v 194=b2i (decide (v 180>=(-1099511627776:Int))):=ag hs 194 rfl;have e195:v 195=b2i (decide (v 180<=(1099511627776:Int))):=ag hs 195 rfl;have e196:v 196=if v 194≠0 then v 195 else (0:Int):=ag hs 196 rfl
 have e197:v 197=if v 193≠0 then v 196 else (0:Int):=ag hs 197 rfl
 have e198:v 198=b2i (decide (v 181>=(-1099511627776:Int))):=ag hs 198 rfl;have e199:v 199=b2i (decide (v 181<=(1099511627776:Int))):=ag hs 199 rfl;have e200:v 200=if v 198≠0 then v 199 else (0:Int):=ag hs 200 rfl
 have e201:v 201=if v 197≠0 then v 200 else (0:Int):=ag hs 201 rfl
 have e205:v 205=if v 180>v 142 then v 180 else v 142:=ag hs 205 rfl
 have e206:v 206=if v 181<v 143 then v 181 else v 143:=ag hs 206 rfl
 have e207:v 207=b2i (decide (v 205>v 206)):=ag hs 207 rfl;have e231:v 231=IntKind.i64.wrap (v 2+v 229):=ag hs 231 rfl;have e232:v 232=IntKind.i64.wrap (v 3+v 230):=ag hs 232 rfl;have e233:v 233=IntKind.i64.wrap (v 232-v 231):=ag hs 233 rfl;have e234:v 234=b2i (decide (v 233>=(21600000:Int))):=ag hs 234 rfl;have e236:v 236=Int.tmod (v 231) ((21600000:Int)):=ag hs 236 rfl;have e237:v 237=b2i (decide (v 236<(0:Int))):=ag hs 237 rfl;have e238:v 238=IntKind.i64.wrap (v 236+(21600000:Int)):=ag hs 238 rfl;have e240:v 240=if v 237≠0 then v 238 else v 236:=ag hs 240 rfl
 have e241:v 241=b2i (decide (v 240>=(10800000:Int))):=ag hs 241 rfl;have e242:v 242=IntKind.i64.wrap (v 240-(21600000:Int)):=ag hs 242 rfl;have e244:v 244=if v 241≠0 then v 242 else v 240:=ag hs 244 rfl
 have e245:v 245=IntKind.i64.wrap (v 244+v 233):=ag hs 245 rfl;have e246:v 246=if v 234≠0 then (-10800000:Int) else v 244:=ag hs 246 rfl
 have e247:v 247=if v 234≠0 then (10800000:Int) else v 245:=ag hs 247 rfl
 subst ha hb;obtain ⟨h1,h2,h3,h4,h5⟩:=hp0;have h3':=h3;unfold kL at h3'
 simp only [Bool.and_eq_true,decide_eq_true_eq] at h3'
 have u1:-1073741824<=(uS P Q).1/\(uS P Q).1<=(uS P Q).2/\(uS P Q).2<=1073741824:=iX _ _;have u2:-1073741824<=(uC P Q).1/\(uC P Q).1<=(uC P Q).2/\(uC P Q).2<=1073741824:=iX _ _;have BC:=GI (uC P Q).1 (uC P Q).2 g h u2 (by omega) (by omega)
 have BS:=GI (uS P Q).1 (uS P Q).2 g h u1 (by omega) (by omega)
 have B8:v 8=1:=by rw [e8,e0,e1,decide_eq_true (by omega)];rfl
 have B9:v 9=1:=by rw [e9,e0,decide_eq_true (by omega)];rfl
 have B11:v 11=1:=by rw [e11,e1,decide_eq_true (by omega)];rfl
 have B14:v 14=0:=by rw [e14,e3,Da,if_neg (by omega)]
 have B15:v 15=0:=by rw [e15,B14];split<;>rfl
 have B16:v 16=1:=by rw [e16,e2,decide_eq_true (by omega)];rfl
 have B17:v 17=1:=by rw [e17,e2,decide_eq_true (by omega)];rfl
 have B19:v 19=1:=by rw [e19,e2,e3,decide_eq_true (by omega)];rfl
 have B22:v 22=1:=by rw [e22,e21,e2,e3,Go.IntWalk.i64_in _ (by omega),decide_eq_true (by omega)];rfl
 have B27:v 27=1:=by rw [e27,e4,e5,decide_eq_true (by omega)];rfl
 have B28:v 28=1:=by rw [e28,e4,decide_eq_true (by omega)];rfl
 have B29:v 29=1:=by rw [e29,e4,decide_eq_true (by omega)];rfl
 have B32:v 32=1:=by rw [e32,e5,decide_eq_true (by omega)];rfl
 have B33:v 33=1:=by rw [e33,e5,decide_eq_true (by omega)];rfl
 have B38:v 38=1:=by rw [e38,e6,e7,decide_eq_true (by omega)];rfl
 have B39:v 39=1:=by rw [e39,e6,decide_eq_true (by omega)];rfl
 have B40:v 40=1:=by rw [e40,e6,decide_eq_true (by omega)];rfl
 have B43:v 43=1:=by rw [e43,e7,decide_eq_true (by omega)];rfl
 have B44:v 44=1:=by rw [e44,e7,decide_eq_true (by omega)];rfl
 have B49:v 49=0:=by rw [e49,e6,decide_eq_false (by omega)];rfl
 have B51:v 51=0:=by rw [e51,e7,decide_eq_false (by omega)];rfl
 have B54:v 54=1:=by rw [e54,e0,decide_eq_true (by omega)];rfl
 have B55:v 55=1:=by rw [e55,e1,decide_eq_true (by omega)];rfl
 have B60:v 60=0:=e60;have B63:v 63=0:=e63;have B71:v 71=0:=e71;have B76:v 76=0:=e76;have B90:v 90=0:=e90;have B95:v 95=0:=e95;have B122:v 122=0:=e122;have a58:v 58=(uS P Q).1:=by rw [e58,e4,e5];rfl
 have a59:v 59=(uS P Q).2:=by rw [e59,e4,e5];rfl
 have a61:v 61=(uC P Q).1:=by rw [e61,e4,e5];rfl
 have a62:v 62=(uC P Q).2:=by rw [e62,e4,e5];rfl
 have a79:v 79=ldL (uC P Q).1 (uC P Q).2 g h:=by rw [kF e79,e69,e74,a61,a62,e6,e7];rfl
 have a80:v 80=ldH (uC P Q).1 (uC P Q).2 g h:=by rw [kC e80,e70,e75,a61,a62,e6,e7];rfl
 have a98:v 98=tL P Q g h:=by rw [kF e98,e88,e93,a58,a59,e6,e7];rfl
 have a99:v 99=tN P Q g h:=by rw [kC e99,e89,e94,a58,a59,e6,e7];rfl
 have BD:-15400000<=tL P Q g h/\tL P Q g h<=tN P Q g h/\tN P Q g h<=15400000:=BS;have z56:v 56=1:=bP (X:=dE [a1,a1,b1,b1,P,Q,g,h]) (v:=v) (l:=aP) (aK _) hs (k:=56) (r:=.c 1) (ps:=[(8,.c 1),(9,.c 1),(11,.c 1),(15,.c 0),(16,.c 1),(17,.c 1),(19,.c 1),(22,.c 1),(27,.c 1),(28,.c 1),(29,.c 1),(32,.c 1),(33,.c 1),(38,.c 1),(39,.c 1),(40,.c 1),(43,.c 1),(44,.c 1),(49,.c 0),(51,.c 0),(54,.c 1),(55,.c 1),(60,.c 0),(63,.c 0),(71,.c 0),(76,.c 0),(90,.c 0),(95,.c 0),(122,.c 0)]) (nz:=[]) (ae B8 (ae B9 (ae B11 (ae B15 (ae B16 (ae B17 (ae B19 (ae B22 (ae B27 (ae B28 (ae B29 (ae B32 (ae B33 (ae B38 (ae B39 (ae B40 (ae B43 (ae B44 (ae B49 (ae B51 (ae B54 (ae B55 (ae B60 (ae B63 (ae B71 (ae B76 (ae B90 (ae B95 (ae B122 aS))))))))))))))))))))))))))))) dz (by kernel_rfl)
 have z52:v 52=0:=bP (X:=dE [a1,a1,b1,b1,P,Q,g,h]) (v:=v) (l:=aP) (aK _) hs (k:=52) (r:=.c 0) (ps:=[(8,.c 1),(9,.c 1),(11,.c 1),(15,.c 0),(16,.c 1),(17,.c 1),(19,.c 1),(22,.c 1),(27,.c 1),(28,.c 1),(29,.c 1),(32,.c 1),(33,.c 1),(38,.c 1),(39,.c 1),(40,.c 1),(43,.c 1),(44,.c 1),(49,.c 0),(51,.c 0),(54,.c 1),(55,.c 1),(60,.c 0),(63,.c 0),(71,.c 0),(76,.c 0),(90,.c 0),(95,.c 0),(122,.c 0)]) (nz:=[]) (ae B8 (ae B9 (ae B11 (ae B15 (ae B16 (ae B17 (ae B19 (ae B22 (ae B27 (ae B28 (ae B29 (ae B32 (ae B33 (ae B38 (ae B39 (ae B40 (ae B43 (ae B44 (ae B49 (ae B51 (ae B54 (ae B55 (ae B60 (ae B63 (ae B71 (ae B76 (ae B90 (ae B95 (ae B122 aS))))))))))))))))))))))))))))) dz (by kernel_rfl)
 have z68:v 68=1:=bP (X:=dE [a1,a1,b1,b1,P,Q,g,h]) (v:=v) (l:=aP) (aK _) hs (k:=68) (r:=.c 1) (ps:=[(52,.c 0),(56,.c 1),(60,.c 0),(63,.c 0),(71,.c 0),(76,.c 0),(90,.c 0),(95,.c 0),(122,.c 0)]) (nz:=[]) (ae z52 (ae z56 (ae B60 (ae B63 (ae B71 (ae B76 (ae B90 (ae B95 (ae B122 aS))))))))) dz (by kernel_rfl)
 have z111:v 111=1:=bP (X:=dE [a1,a1,b1,b1,P,Q,g,h]) (v:=v) (l:=aP) (aK _) hs (k:=111) (r:=.c 1) (ps:=[(52,.c 0),(56,.c 1),(60,.c 0),(63,.c 0),(71,.c 0),(76,.c 0),(90,.c 0),(95,.c 0),(122,.c 0)]) (nz:=[]) (ae z52 (ae z56 (ae B60 (ae B63 (ae B71 (ae B76 (ae B90 (ae B95 (ae B122 aS))))))))) dz (by kernel_rfl)
 have z86:v 86=v 79:=aW (X:=dE [a1,a1,b1,b1,P,Q,g,h]) (v:=v) (l:=aP) (aK _) hs (k:=86) (j:=79) (ps:=[(52,.c 0),(56,.c 1),(60,.c 0),(63,.c 0),(71,.c 0),(76,.c 0),(90,.c 0),(95,.c 0),(122,.c 0)]) (ae z52 (ae z56 (ae B60 (ae B63 (ae B71 (ae B76 (ae B90 (ae B95 (ae B122 aS))))))))) (by kernel_rfl)
 have z87:v 87=v 80:=aW (X:=dE [a1,a1,b1,b1,P,Q,g,h]) (v:=v) (l:=aP) (aK _) hs (k:=87) (j:=80) (ps:=[(52,.c 0),(56,.c 1),(60,.c 0),(63,.c 0),(71,.c 0),(76,.c 0),(90,.c 0),(95,.c 0),(122,.c 0)]) (ae z52 (ae z56 (ae B60 (ae B63 (ae B71 (ae B76 (ae B90 (ae B95 (ae B122 aS))))))))) (by kernel_rfl)
 have z105:v 105=v 98:=aW (X:=dE [a1,a1,b1,b1,P,Q,g,h]) (v:=v) (l:=aP) (aK _) hs (k:=105) (j:=98) (ps:=[(52,.c 0),(56,.c 1),(60,.c 0),(63,.c 0),(71,.c 0),(76,.c 0),(90,.c 0),(95,.c 0),(122,.c 0)]) (ae z52 (ae z56 (ae B60 (ae B63 (ae B71 (ae B76 (ae B90 (ae B95 (ae B122 aS))))))))) (by kernel_rfl)
 have z106:v 106=v 99:=aW (X:=dE [a1,a1,b1,b1,P,Q,g,h]) (v:=v) (l:=aP) (aK _) hs (k:=106) (j:=99) (ps:=[(52,.c 0),(56,.c 1),(60,.c 0),(63,.c 0),(71,.c 0),(76,.c 0),(90,.c 0),(95,.c 0),(122,.c 0)]) (ae z52 (ae z56 (ae B60 (ae B63 (ae B71 (ae B76 (ae B90 (ae B95 (ae B122 aS))))))))) (by kernel_rfl)
 have a112:v 112=jd a1 P Q g h:=by
  rw [e112,e0,z86,a79,Go.IntWalk.i64_in _ (by omega)];rfl
 have a113:v 113=je a1 P Q g h:=by
  rw [e113,e1,z87,a80,Go.IntWalk.i64_in _ (by omega)];rfl
 have BY:-21000000<=jd a1 P Q g h/\jd a1 P Q g h<=je a1 P Q g h/\je a1 P Q g h<=21000000:=by unfold jd je;omega
 have N116:v 116=b2i (decide (cB a1 P Q g h)):=by
  rw [e116,e114,e115,a112,a113];exact Qg
 have P5:kL (v 4) (v 5)=true:=by rw [e4,e5];exact h3
 have fg:cK g=true:=by unfold cK;simp only [Bool.and_eq_true,decide_eq_true_eq];omega
 have fh:cK h=true:=by unfold cK;simp only [Bool.and_eq_true,decide_eq_true_eq];omega
 have PC6:fxV (v 61) (v 62)=true/\cK (v 6)=true:=by rw [a61,a62,e6];exact ⟨ny _ _,fg⟩
 have PC7:fxV (v 61) (v 62)=true/\cK (v 7)=true:=by rw [a61,a62,e7];exact ⟨ny _ _,fh⟩
 have PS6:fxV (v 58) (v 59)=true/\cK (v 6)=true:=by rw [a58,a59,e6];exact ⟨ny _ _,fg⟩
 have PS7:fxV (v 58) (v 59)=true/\cK (v 7)=true:=by rw [a58,a59,e7];exact ⟨ny _ _,fh⟩
 have a118:v 118=min a1 (jd a1 P Q g h):=by rw [kF e118,e0,a112]
 have a119:v 119=max a1 (je a1 P Q g h):=by rw [kC e119,e1,a113]
 have a120:v 120=(rdQ a1 P Q g h).1:=by rw [e120,a118,a119];rfl
 have a121:v 121=(rdQ a1 P Q g h).2:=by rw [e121,a118,a119];rfl
 have P118:kL (v 118) (v 119)=true:=by
  rw [a118,a119];unfold kL;simp only [Bool.and_eq_true,decide_eq_true_eq];omega
 have a148:v 148=b2i (decide (lF P Q)):=by
  rw [e148,e146,e147,a61,a62];exact VI
 have nr:cB a1 P Q g h->-5340000<=v 112/\v 112<=5340000/\-5340000<=v 113/\v 113<=5340000:=fun k=>by
  unfold cB at k;rw [a112,a113];omega
 have Q1:cB a1 P Q g h->qgP 1073741824 1073741824 (v 120) (v 121) (v 105):=fun k=>by
  rw [a120,a121,z105,a98];exact ⟨by decide,ny _ _,.inl (h5 k).1,by omega⟩
 have Q2:cB a1 P Q g h->qgP 1073741824 1073741824 (v 120) (v 121) (v 106):=fun k=>by
  rw [a120,a121,z106,a99];exact ⟨by decide,ny _ _,.inl (h5 k).1,by omega⟩
 have a149:v 149=prL (jd a1 P Q g h):=by rw [<-a112];exact e149
 have a153:v 153=prH (je a1 P Q g h):=by rw [<-a113];exact e153
 have a159:v 159=prH a1:=by rw [<-e1];exact e159
 have a155:v 155=prL a1:=by rw [<-e0];exact e155
 have MM:cB a1 P Q g h->(v 161=tO a1 P Q g h/\v 162=tQ a1 P Q g h)/\(-220000000<=tO a1 P Q g h/\tO a1 P Q g h<=220000000)/\(-220000000<=tQ a1 P Q g h/\tQ a1 P Q g h<=220000000):=fun k=>by
  unfold cB at k;have p1:=iH a1 h1;have p2:=iH (jd a1 P Q g h) (by omega)
  have p3:=iH (je a1 P Q g h) (by omega)
  rw [e161,e162,a149,a153,a155,a159,Go.IntWalk.i64_in _ (by omega),Go.IntWalk.i64_in _ (by omega)]
  unfold tO tQ;omega
 have S1:cB a1 P Q g h->lF P Q->qgP (v 58) (v 59) (v 61) (v 62) (v 161):=fun k s=>by
  have m:=MM k;rw [a58,a59,a61,a62,m.1.1];exact ⟨ny _ _,ny _ _,s,by omega⟩
 have S2:cB a1 P Q g h->lF P Q->qgP (v 58) (v 59) (v 61) (v 62) (v 162):=fun k s=>by
  have m:=MM k;rw [a58,a59,a61,a62,m.1.2];exact ⟨ny _ _,ny _ _,s,by omega⟩
 have NRof:v 116≠0->cB a1 P Q g h:=fun k=>by
  rw [N116] at k
  by_cases z:cB a1 P Q g h
  . exact z
  . rw [decide_eq_false z] at k;exact absurd rfl k
 have SPof:v 148≠0->lF P Q:=fun k=>by
  rw [a148] at k
  by_cases z:lF P Q
  . exact z
  . rw [decide_eq_false z] at k;exact absurd rfl k
 refine ⟨gT ?_,?_⟩
 . exact aA (fun _=>P5) (aA (fun _=>P5) (aA (fun _=>PC6) (aA (fun _=>PC7) (aA (fun _=>PS6) (aA (fun _=>PS7) (aA (fun _=>P118) (aA (fun hp=>Q1 (NRof (bE (bE hp).2).1)) (aA (fun hp=>Q2 (NRof (bE (bE (bE hp).2).2).1)) (aA (fun hp=>by have k:=nr (NRof (bE (bE (bE (bE hp).2).2).2).1);show -5340000<=v 112/\v 112<=5340000;omega) (aA (fun hp=>by have k:=nr (NRof (bE (bE (bE (bE hp).2).2).2).1);show -5340000<=v 113/\v 113<=5340000;omega) (aA (fun _=>by show -5340000<=v 0/\v 0<=5340000;rw [e0];exact h1) (aA (fun _=>by show -5340000<=v 1/\v 1<=5340000;rw [e1];exact h1) (aA (fun hp=>S1 (NRof (bE (bE (bE (bE hp).2).2).2).1) (SPof (bE hp).1)) (aA (fun hp=>S2 (NRof (bE (bE (bE (bE (bE hp).2).2).2).2).1) (SPof (bE (bE hp).2).1)) (gM)))))))))))))))
 . intro x hx0;have hx':=gP (v:=v) (by rfl) hx0
   rw [hx'];show Value.tuple #[.agg #[.int .i64 (v 310),.int .i64 (v 311),.int .i64 (v 312),.int .i64 (v 313)],.int .i64 (v 309)]=_
   by_cases k:cB a1 P Q g h
   . have n116:v 116=1:=by rw [N116,decide_eq_true k];rfl
     have m:=MM k;have hk:=h5 k;have f1:=sQ hk.2.1;have f2:=sQ hk.2.2.1
     have b127:v 127=0:=by
      have z:v 127=(qgV 1073741824 1073741824 (v 120) (v 121) (v 105)).getD 2 0:=e127;rw [z,a120,a121,z105,a98,f1];rfl
     have b132:v 132=0:=by
      have z:v 132=(qgV 1073741824 1073741824 (v 120) (v 121) (v 106)).getD 2 0:=e132;rw [z,a120,a121,z106,a99,f2];rfl
     have b125:v 125=qgL 1073741824 1073741824 (rdQ a1 P Q g h).1 (rdQ a1 P Q g h).2 (tL P Q g h):=by
      have z:v 125=(qgV 1073741824 1073741824 (v 120) (v 121) (v 105)).getD 0 0:=e125;rw [z,a120,a121,z105,a98,f1];rfl
     have b126:v 126=qgH 1073741824 1073741824 (rdQ a1 P Q g h).1 (rdQ a1 P Q g h).2 (tL P Q g h):=by
      have z:v 126=(qgV 1073741824 1073741824 (v 120) (v 121) (v 105)).getD 1 0:=e126;rw [z,a120,a121,z105,a98,f1];rfl
     have b130:v 130=qgL 1073741824 1073741824 (rdQ a1 P Q g h).1 (rdQ a1 P Q g h).2 (tN P Q g h):=by
      have z:v 130=(qgV 1073741824 1073741824 (v 120) (v 121) (v 106)).getD 0 0:=e130;rw [z,a120,a121,z106,a99,f2];rfl
     have b131:v 131=qgH 1073741824 1073741824 (rdQ a1 P Q g h).1 (rdQ a1 P Q g h).2 (tN P Q g h):=by
      have z:v 131=(qgV 1073741824 1073741824 (v 120) (v 121) (v 106)).getD 1 0:=e131;rw [z,a120,a121,z106,a99,f2];rfl
     have b135:v 135=qM a1 P Q g h:=by rw [kF e135,b125,b130];rfl
     have b136:v 136=rD a1 P Q g h:=by rw [kC e136,b126,b131];rfl
     have o1:=lK hk.2.1.1;have o2:=lK hk.2.1.2;have o3:=lK hk.2.2.1.1;have o4:=lK hk.2.2.1.2
     have rF:-1099511627776<=qM a1 P Q g h/\qM a1 P Q g h<=1099511627776/\-1099511627776<=rD a1 P Q g h/\rD a1 P Q g h<=1099511627776:=by
      unfold qM rD fqL fqH;omega
     have tail:v 229=iW a1 P Q g h->v 230=iY a1 P Q g h->-1099511627776<=iW a1 P Q g h->iY a1 P Q g h<=1099511627776->v 310=v 112->v 311=v 113->v 312=v 246->v 313=v 247->v 309=0->Value.tuple #[.agg #[.int .i64 (v 310),.int .i64 (v 311),.int .i64 (v 312),.int .i64 (v 313)],.int .i64 (v 309)]=.tuple #[.agg #[.int .i64 ((rdV a1 b1 P Q g h).getD 0 0),.int .i64 ((rdV a1 b1 P Q g h).getD 1 0),.int .i64 ((rdV a1 b1 P Q g h).getD 2 0),.int .i64 ((rdV a1 b1 P Q g h).getD 3 0)],.int .i64 ((rdV a1 b1 P Q g h).getD 4 0)]:=by
      intro t0 t1 t2 t3 x0 x1 x2 x3 x4;have le:=hk.2.2.2;have c231:v 231=b1+iW a1 P Q g h:=by rw [e231,e2,t0,Go.IntWalk.i64_in _ (by omega)]
      have c232:v 232=b1+iY a1 P Q g h:=by rw [e232,e3,t1,Go.IntWalk.i64_in _ (by omega)]
      have c240:v 240=v 231%21600000:=wM (x:=v 231) (by omega) e236 e237 e238 e240
      have c244:=Ce (x:=v 231) c240 e241 e242 e244;have c233:v 233=v 232-v 231:=by rw [e233,Go.IntWalk.i64_in _ (by omega)]
      have c245:v 244+v 233=v 245:=by rw [e245,Go.IntWalk.i64_in _ (by omega)]
      have c246:v 246=mW (b1+iW a1 P Q g h) (b1+iY a1 P Q g h):=by
       rw [e246,e234,c244.1,c233,c232,c231];unfold mW
       by_cases zz:b1+iY a1 P Q g h-(b1+iW a1 P Q g h)>=21600000
       . rw [decide_eq_true zz,if_pos zz];rfl
       . rw [decide_eq_false zz,if_neg zz];rfl
      have c247:v 247=qW (b1+iW a1 P Q g h) (b1+iY a1 P Q g h):=by
       rw [e247,e234,<-c245,c244.1,c233,c232,c231];unfold qW
       by_cases zz:b1+iY a1 P Q g h-(b1+iW a1 P Q g h)>=21600000
       . rw [decide_eq_true zz,if_pos zz];rfl
       . rw [decide_eq_false zz,if_neg zz];rfl
      rw [x0,x1,x2,x3,x4,a112,a113,c246,c247];unfold rdV;rw [if_pos k];rfl
     by_cases s:lF P Q
     . have n148:v 148=1:=by rw [a148,decide_eq_true s];rfl
       have c165:v 165=(qgV (uS P Q).1 (uS P Q).2 (uC P Q).1 (uC P Q).2 (tO a1 P Q g h)).getD 2 0:=by
        have z:v 165=(qgV (v 58) (v 59) (v 61) (v 62) (v 161)).getD 2 0:=e165;rw [z,a58,a59,a61,a62,m.1.1]
       have c170:v 170=(qgV (uS P Q).1 (uS P Q).2 (uC P Q).1 (uC P Q).2 (tQ a1 P Q g h)).getD 2 0:=by
        have z:v 170=(qgV (v 58) (v 59) (v 61) (v 62) (v 162)).getD 2 0:=e170;rw [z,a58,a59,a61,a62,m.1.2]
       by_cases s1:qgO (uS P Q).1 (uS P Q).2 (uC P Q).1 (uC P Q).2 (tO a1 P Q g h)
       . have n165:v 165=0:=by rw [c165,sQ s1];rfl
         by_cases s2:qgO (uS P Q).1 (uS P Q).2 (uC P Q).1 (uC P Q).2 (tQ a1 P Q g h)
         . have n170:v 170=0:=by rw [c170,sQ s2];rfl
           have ok:AJ a1 P Q g h:=⟨s,s1,s2⟩;have G0:iW a1 P Q g h=max (qM a1 P Q g h) (zI a1 P Q g h):=if_pos ok;have G1:iY a1 P Q g h=min (rD a1 P Q g h) (zh a1 P Q g h):=if_pos ok;have le:=hk.2.2.2;rw [G0,G1] at le;have o5:=lK s1.1;have o6:=lK s1.2;have o7:=lK s2.1;have o8:=lK s2.2
           have rS:-1099511627776<=zI a1 P Q g h/\zI a1 P Q g h<=1099511627776/\-1099511627776<=zh a1 P Q g h/\zh a1 P Q g h<=1099511627776:=by
            unfold zI zh fqL fqH;omega
           have b163:v 163=qgL (uS P Q).1 (uS P Q).2 (uC P Q).1 (uC P Q).2 (tO a1 P Q g h):=by
            have z:v 163=(qgV (v 58) (v 59) (v 61) (v 62) (v 161)).getD 0 0:=e163;rw [z,a58,a59,a61,a62,m.1.1,sQ s1];rfl
           have b164:v 164=qgH (uS P Q).1 (uS P Q).2 (uC P Q).1 (uC P Q).2 (tO a1 P Q g h):=by
            have z:v 164=(qgV (v 58) (v 59) (v 61) (v 62) (v 161)).getD 1 0:=e164;rw [z,a58,a59,a61,a62,m.1.1,sQ s1];rfl
           have b168:v 168=qgL (uS P Q).1 (uS P Q).2 (uC P Q).1 (uC P Q).2 (tQ a1 P Q g h):=by
            have z:v 168=(qgV (v 58) (v 59) (v 61) (v 62) (v 162)).getD 0 0:=e168;rw [z,a58,a59,a61,a62,m.1.2,sQ s2];rfl
           have b169:v 169=qgH (uS P Q).1 (uS P Q).2 (uC P Q).1 (uC P Q).2 (tQ a1 P Q g h):=by
            have z:v 169=(qgV (v 58) (v 59) (v 61) (v 62) (v 162)).getD 1 0:=e169;rw [z,a58,a59,a61,a62,m.1.2,sQ s2];rfl
           have b173:v 173=zI a1 P Q g h:=by rw [kF e173,b163,b168];rfl
           have b174:v 174=zh a1 P Q g h:=by rw [kC e174,b164,b169];rfl
           have z142:v 142=v 135:=aW (X:=dE [a1,a1,b1,b1,P,Q,g,h]) (v:=v) (l:=aP) (aK _) hs (k:=142) (j:=135) (ps:=[(52,.c 0),(56,.c 1),(60,.c 0),(63,.c 0),(71,.c 0),(76,.c 0),(90,.c 0),(95,.c 0),(116,.c 1),(122,.c 0),(127,.c 0),(132,.c 0),(148,.c 1),(165,.c 0),(170,.c 0)]) (ae z52 (ae z56 (ae B60 (ae B63 (ae B71 (ae B76 (ae B90 (ae B95 (ae n116 (ae B122 (ae b127 (ae b132 (ae n148 (ae n165 (ae n170 aS))))))))))))))) (by kernel_rfl)
           have z143:v 143=v 136:=aW (X:=dE [a1,a1,b1,b1,P,Q,g,h]) (v:=v) (l:=aP) (aK _) hs (k:=143) (j:=136) (ps:=[(52,.c 0),(56,.c 1),(60,.c 0),(63,.c 0),(71,.c 0),(76,.c 0),(90,.c 0),(95,.c 0),(116,.c 1),(122,.c 0),(127,.c 0),(132,.c 0),(148,.c 1),(165,.c 0),(170,.c 0)]) (ae z52 (ae z56 (ae B60 (ae B63 (ae B71 (ae B76 (ae B90 (ae B95 (ae n116 (ae B122 (ae b127 (ae b132 (ae n148 (ae n165 (ae n170 aS))))))))))))))) (by kernel_rfl)
           have z180:v 180=v 173:=aW (X:=dE [a1,a1,b1,b1,P,Q,g,h]) (v:=v) (l:=aP) (aK _) hs (k:=180) (j:=173) (ps:=[(52,.c 0),(56,.c 1),(60,.c 0),(63,.c 0),(71,.c 0),(76,.c 0),(90,.c 0),(95,.c 0),(116,.c 1),(122,.c 0),(127,.c 0),(132,.c 0),(148,.c 1),(165,.c 0),(170,.c 0)]) (ae z52 (ae z56 (ae B60 (ae B63 (ae B71 (ae B76 (ae B90 (ae B95 (ae n116 (ae B122 (ae b127 (ae b132 (ae n148 (ae n165 (ae n170 aS))))))))))))))) (by kernel_rfl)
           have z181:v 181=v 174:=aW (X:=dE [a1,a1,b1,b1,P,Q,g,h]) (v:=v) (l:=aP) (aK _) hs (k:=181) (j:=174) (ps:=[(52,.c 0),(56,.c 1),(60,.c 0),(63,.c 0),(71,.c 0),(76,.c 0),(90,.c 0),(95,.c 0),(116,.c 1),(122,.c 0),(127,.c 0),(132,.c 0),(148,.c 1),(165,.c 0),(170,.c 0)]) (ae z52 (ae z56 (ae B60 (ae B63 (ae B71 (ae B76 (ae B90 (ae B95 (ae n116 (ae B122 (ae b127 (ae b132 (ae n148 (ae n165 (ae n170 aS))))))))))))))) (by kernel_rfl)
           rw [b135] at z142;rw [b136] at z143;rw [b173] at z180;rw [b174] at z181;have y183:v 183=1:=by rw [e183,z142,z143,decide_eq_true (by omega)];rfl
           have y184:v 184=1:=by rw [e184,z142,decide_eq_true (by omega)];rfl
           have y185:v 185=1:=by rw [e185,z142,decide_eq_true (by omega)];rfl
           have y188:v 188=1:=by rw [e188,z143,decide_eq_true (by omega)];rfl
           have y189:v 189=1:=by rw [e189,z143,decide_eq_true (by omega)];rfl
           have y193:v 193=1:=by rw [e193,z180,z181,decide_eq_true (by omega)];rfl
           have y194:v 194=1:=by rw [e194,z180,decide_eq_true (by omega)];rfl
           have y195:v 195=1:=by rw [e195,z180,decide_eq_true (by omega)];rfl
           have y198:v 198=1:=by rw [e198,z181,decide_eq_true (by omega)];rfl
           have y199:v 199=1:=by rw [e199,z181,decide_eq_true (by omega)];rfl
           have y205:v 205=max (qM a1 P Q g h) (zI a1 P Q g h):=by rw [kC e205,z142,z180]
           have y206:v 206=min (rD a1 P Q g h) (zh a1 P Q g h):=by rw [kF e206,z143,z181]
           have y207:v 207=0:=by rw [e207,y205,y206,decide_eq_false (by omega)];rfl
           have z229:v 229=v 205:=aW (X:=dE [a1,a1,b1,b1,P,Q,g,h]) (v:=v) (l:=aP) (aK _) hs (k:=229) (j:=205) (ps:=[(52,.c 0),(56,.c 1),(60,.c 0),(63,.c 0),(71,.c 0),(76,.c 0),(90,.c 0),(95,.c 0),(116,.c 1),(122,.c 0),(127,.c 0),(132,.c 0),(148,.c 1),(165,.c 0),(170,.c 0),(183,.c 1),(184,.c 1),(185,.c 1),(188,.c 1),(189,.c 1),(193,.c 1),(194,.c 1),(195,.c 1),(198,.c 1),(199,.c 1),(207,.c 0)]) (ae z52 (ae z56 (ae B60 (ae B63 (ae B71 (ae B76 (ae B90 (ae B95 (ae n116 (ae B122 (ae b127 (ae b132 (ae n148 (ae n165 (ae n170 (ae y183 (ae y184 (ae y185 (ae y188 (ae y189 (ae y193 (ae y194 (ae y195 (ae y198 (ae y199 (ae y207 aS)))))))))))))))))))))))))) (by kernel_rfl)
           have z230:v 230=v 206:=aW (X:=dE [a1,a1,b1,b1,P,Q,g,h]) (v:=v) (l:=aP) (aK _) hs (k:=230) (j:=206) (ps:=[(52,.c 0),(56,.c 1),(60,.c 0),(63,.c 0),(71,.c 0),(76,.c 0),(90,.c 0),(95,.c 0),(116,.c 1),(122,.c 0),(127,.c 0),(132,.c 0),(148,.c 1),(165,.c 0),(170,.c 0),(183,.c 1),(184,.c 1),(185,.c 1),(188,.c 1),(189,.c 1),(193,.c 1),(194,.c 1),(195,.c 1),(198,.c 1),(199,.c 1),(207,.c 0)]) (ae z52 (ae z56 (ae B60 (ae B63 (ae B71 (ae B76 (ae B90 (ae B95 (ae n116 (ae B122 (ae b127 (ae b132 (ae n148 (ae n165 (ae n170 (ae y183 (ae y184 (ae y185 (ae y188 (ae y189 (ae y193 (ae y194 (ae y195 (ae y198 (ae y199 (ae y207 aS)))))))))))))))))))))))))) (by kernel_rfl)
           have z310:v 310=v 112:=aW (X:=dE [a1,a1,b1,b1,P,Q,g,h]) (v:=v) (l:=aP) (aK _) hs (k:=310) (j:=112) (ps:=[(52,.c 0),(56,.c 1),(60,.c 0),(63,.c 0),(71,.c 0),(76,.c 0),(90,.c 0),(95,.c 0),(116,.c 1),(122,.c 0),(127,.c 0),(132,.c 0),(148,.c 1),(165,.c 0),(170,.c 0),(183,.c 1),(184,.c 1),(185,.c 1),(188,.c 1),(189,.c 1),(193,.c 1),(194,.c 1),(195,.c 1),(198,.c 1),(199,.c 1),(207,.c 0)]) (ae z52 (ae z56 (ae B60 (ae B63 (ae B71 (ae B76 (ae B90 (ae B95 (ae n116 (ae B122 (ae b127 (ae b132 (ae n148 (ae n165 (ae n170 (ae y183 (ae y184 (ae y185 (ae y188 (ae y189 (ae y193 (ae y194 (ae y195 (ae y198 (ae y199 (ae y207 aS)))))))))))))))))))))))))) (by kernel_rfl)
           have z311:v 311=v 113:=aW (X:=dE [a1,a1,b1,b1,P,Q,g,h]) (v:=v) (l:=aP) (aK _) hs (k:=311) (j:=113) (ps:=[(52,.c 0),(56,.c 1),(60,.c 0),(63,.c 0),(71,.c 0),(76,.c 0),(90,.c 0),(95,.c 0),(116,.c 1),(122,.c 0),(127,.c 0),(132,.c 0),(148,.c 1),(165,.c 0),(170,.c 0),(183,.c 1),(184,.c 1),(185,.c 1),(188,.c 1),(189,.c 1),(193,.c 1),(194,.c 1),(195,.c 1),(198,.c 1),(199,.c 1),(207,.c 0)]) (ae z52 (ae z56 (ae B60 (ae B63 (ae B71 (ae B76 (ae B90 (ae B95 (ae n116 (ae B122 (ae b127 (ae b132 (ae n148 (ae n165 (ae n170 (ae y183 (ae y184 (ae y185 (ae y188 (ae y189 (ae y193 (ae y194 (ae y195 (ae y198 (ae y199 (ae y207 aS)))))))))))))))))))))))))) (by kernel_rfl)
           have z312:v 312=v 246:=aW (X:=dE [a1,a1,b1,b1,P,Q,g,h]) (v:=v) (l:=aP) (aK _) hs (k:=312) (j:=246) (ps:=[(52,.c 0),(56,.c 1),(60,.c 0),(63,.c 0),(71,.c 0),(76,.c 0),(90,.c 0),(95,.c 0),(116,.c 1),(122,.c 0),(127,.c 0),(132,.c 0),(148,.c 1),(165,.c 0),(170,.c 0),(183,.c 1),(184,.c 1),(185,.c 1),(188,.c 1),(189,.c 1),(193,.c 1),(194,.c 1),(195,.c 1),(198,.c 1),(199,.c 1),(207,.c 0)]) (ae z52 (ae z56 (ae B60 (ae B63 (ae B71 (ae B76 (ae B90 (ae B95 (ae n116 (ae B122 (ae b127 (ae b132 (ae n148 (ae n165 (ae n170 (ae y183 (ae y184 (ae y185 (ae y188 (ae y189 (ae y193 (ae y194 (ae y195 (ae y198 (ae y199 (ae y207 aS)))))))))))))))))))))))))) (by kernel_rfl)
           have z313:v 313=v 247:=aW (X:=dE [a1,a1,b1,b1,P,Q,g,h]) (v:=v) (l:=aP) (aK _) hs (k:=313) (j:=247) (ps:=[(52,.c 0),(56,.c 1),(60,.c 0),(63,.c 0),(71,.c 0),(76,.c 0),(90,.c 0),(95,.c 0),(116,.c 1),(122,.c 0),(127,.c 0),(132,.c 0),(148,.c 1),(165,.c 0),(170,.c 0),(183,.c 1),(184,.c 1),(185,.c 1),(188,.c 1),(189,.c 1),(193,.c 1),(194,.c 1),(195,.c 1),(198,.c 1),(199,.c 1),(207,.c 0)]) (ae z52 (ae z56 (ae B60 (ae B63 (ae B71 (ae B76 (ae B90 (ae B95 (ae n116 (ae B122 (ae b127 (ae b132 (ae n148 (ae n165 (ae n170 (ae y183 (ae y184 (ae y185 (ae y188 (ae y189 (ae y193 (ae y194 (ae y195 (ae y198 (ae y199 (ae y207 aS)))))))))))))))))))))))))) (by kernel_rfl)
           have z309:v 309=0:=bP (X:=dE [a1,a1,b1,b1,P,Q,g,h]) (v:=v) (l:=aP) (aK _) hs (k:=309) (r:=.c 0) (ps:=[(52,.c 0),(56,.c 1),(60,.c 0),(63,.c 0),(71,.c 0),(76,.c 0),(90,.c 0),(95,.c 0),(116,.c 1),(122,.c 0),(127,.c 0),(132,.c 0),(148,.c 1),(165,.c 0),(170,.c 0),(183,.c 1),(184,.c 1),(185,.c 1),(188,.c 1),(189,.c 1),(193,.c 1),(194,.c 1),(195,.c 1),(198,.c 1),(199,.c 1),(207,.c 0)]) (nz:=[]) (ae z52 (ae z56 (ae B60 (ae B63 (ae B71 (ae B76 (ae B90 (ae B95 (ae n116 (ae B122 (ae b127 (ae b132 (ae n148 (ae n165 (ae n170 (ae y183 (ae y184 (ae y185 (ae y188 (ae y189 (ae y193 (ae y194 (ae y195 (ae y198 (ae y199 (ae y207 aS)))))))))))))))))))))))))) dz (by kernel_rfl)
           exact tail (by rw [z229,y205,G0]) (by rw [z230,y206,G1]) (by rw [G0];omega) (by rw [G1];omega) z310 z311 z312 z313 z309
         . have n170:v 170=5:=by rw [c170,Rj s2];rfl
           have ok:¬ AJ a1 P Q g h:=fun z=>s2 z.2.2
           have G0:iW a1 P Q g h=qM a1 P Q g h:=if_neg ok;have G1:iY a1 P Q g h=rD a1 P Q g h:=if_neg ok;have z229:v 229=v 135:=aW (X:=dE [a1,a1,b1,b1,P,Q,g,h]) (v:=v) (l:=aP) (aK _) hs (k:=229) (j:=135) (ps:=[(52,.c 0),(56,.c 1),(60,.c 0),(63,.c 0),(71,.c 0),(76,.c 0),(90,.c 0),(95,.c 0),(116,.c 1),(122,.c 0),(127,.c 0),(132,.c 0),(148,.c 1),(165,.c 0),(170,.c 5)]) (ae z52 (ae z56 (ae B60 (ae B63 (ae B71 (ae B76 (ae B90 (ae B95 (ae n116 (ae B122 (ae b127 (ae b132 (ae n148 (ae n165 (ae n170 aS))))))))))))))) (by kernel_rfl)
           have z230:v 230=v 136:=aW (X:=dE [a1,a1,b1,b1,P,Q,g,h]) (v:=v) (l:=aP) (aK _) hs (k:=230) (j:=136) (ps:=[(52,.c 0),(56,.c 1),(60,.c 0),(63,.c 0),(71,.c 0),(76,.c 0),(90,.c 0),(95,.c 0),(116,.c 1),(122,.c 0),(127,.c 0),(132,.c 0),(148,.c 1),(165,.c 0),(170,.c 5)]) (ae z52 (ae z56 (ae B60 (ae B63 (ae B71 (ae B76 (ae B90 (ae B95 (ae n116 (ae B122 (ae b127 (ae b132 (ae n148 (ae n165 (ae n170 aS))))))))))))))) (by kernel_rfl)
           have z310:v 310=v 112:=aW (X:=dE [a1,a1,b1,b1,P,Q,g,h]) (v:=v) (l:=aP) (aK _) hs (k:=310) (j:=112) (ps:=[(52,.c 0),(56,.c 1),(60,.c 0),(63,.c 0),(71,.c 0),(76,.c 0),(90,.c 0),(95,.c 0),(116,.c 1),(122,.c 0),(127,.c 0),(132,.c 0),(148,.c 1),(165,.c 0),(170,.c 5)]) (ae z52 (ae z56 (ae B60 (ae B63 (ae B71 (ae B76 (ae B90 (ae B95 (ae n116 (ae B122 (ae b127 (ae b132 (ae n148 (ae n165 (ae n170 aS))))))))))))))) (by kernel_rfl)
           have z311:v 311=v 113:=aW (X:=dE [a1,a1,b1,b1,P,Q,g,h]) (v:=v) (l:=aP) (aK _) hs (k:=311) (j:=113) (ps:=[(52,.c 0),(56,.c 1),(60,.c 0),(63,.c 0),(71,.c 0),(76,.c 0),(90,.c 0),(95,.c 0),(116,.c 1),(122,.c 0),(127,.c 0),(132,.c 0),(148,.c 1),(165,.c 0),(170,.c 5)]) (ae z52 (ae z56 (ae B60 (ae B63 (ae B71 (ae B76 (ae B90 (ae B95 (ae n116 (ae B122 (ae b127 (ae b132 (ae n148 (ae n165 (ae n170 aS))))))))))))))) (by kernel_rfl)
           have z312:v 312=v 246:=aW (X:=dE [a1,a1,b1,b1,P,Q,g,h]) (v:=v) (l:=aP) (aK _) hs (k:=312) (j:=246) (ps:=[(52,.c 0),(56,.c 1),(60,.c 0),(63,.c 0),(71,.c 0),(76,.c 0),(90,.c 0),(95,.c 0),(116,.c 1),(122,.c 0),(127,.c 0),(132,.c 0),(148,.c 1),(165,.c 0),(170,.c 5)]) (ae z52 (ae z56 (ae B60 (ae B63 (ae B71 (ae B76 (ae B90 (ae B95 (ae n116 (ae B122 (ae b127 (ae b132 (ae n148 (ae n165 (ae n170 aS))))))))))))))) (by kernel_rfl)
           have z313:v 313=v 247:=aW (X:=dE [a1,a1,b1,b1,P,Q,g,h]) (v:=v) (l:=aP) (aK _) hs (k:=313) (j:=247) (ps:=[(52,.c 0),(56,.c 1),(60,.c 0),(63,.c 0),(71,.c 0),(76,.c 0),(90,.c 0),(95,.c 0),(116,.c 1),(122,.c 0),(127,.c 0),(132,.c 0),(148,.c 1),(165,.c 0),(170,.c 5)]) (ae z52 (ae z56 (ae B60 (ae B63 (ae B71 (ae B76 (ae B90 (ae B95 (ae n116 (ae B122 (ae b127 (ae b132 (ae n148 (ae n165 (ae n170 aS))))))))))))))) (by kernel_rfl)
           have z309:v 309=0:=bP (X:=dE [a1,a1,b1,b1,P,Q,g,h]) (v:=v) (l:=aP) (aK _) hs (k:=309) (r:=.c 0) (ps:=[(52,.c 0),(56,.c 1),(60,.c 0),(63,.c 0),(71,.c 0),(76,.c 0),(90,.c 0),(95,.c 0),(116,.c 1),(122,.c 0),(127,.c 0),(132,.c 0),(148,.c 1),(165,.c 0),(170,.c 5)]) (nz:=[]) (ae z52 (ae z56 (ae B60 (ae B63 (ae B71 (ae B76 (ae B90 (ae B95 (ae n116 (ae B122 (ae b127 (ae b132 (ae n148 (ae n165 (ae n170 aS))))))))))))))) dz (by kernel_rfl)
           exact tail (by rw [z229,b135,G0]) (by rw [z230,b136,G1]) (by rw [G0];omega) (by rw [G1];omega) z310 z311 z312 z313 z309
       . have n165:v 165=5:=by rw [c165,Rj s1];rfl
         have ok:¬ AJ a1 P Q g h:=fun z=>s1 z.2.1
         have G0:iW a1 P Q g h=qM a1 P Q g h:=if_neg ok;have G1:iY a1 P Q g h=rD a1 P Q g h:=if_neg ok;have z229:v 229=v 135:=aW (X:=dE [a1,a1,b1,b1,P,Q,g,h]) (v:=v) (l:=aP) (aK _) hs (k:=229) (j:=135) (ps:=[(52,.c 0),(56,.c 1),(60,.c 0),(63,.c 0),(71,.c 0),(76,.c 0),(90,.c 0),(95,.c 0),(116,.c 1),(122,.c 0),(127,.c 0),(132,.c 0),(148,.c 1),(165,.c 5)]) (ae z52 (ae z56 (ae B60 (ae B63 (ae B71 (ae B76 (ae B90 (ae B95 (ae n116 (ae B122 (ae b127 (ae b132 (ae n148 (ae n165 aS)))))))))))))) (by kernel_rfl)
         have z230:v 230=v 136:=aW (X:=dE [a1,a1,b1,b1,P,Q,g,h]) (v:=v) (l:=aP) (aK _) hs (k:=230) (j:=136) (ps:=[(52,.c 0),(56,.c 1),(60,.c 0),(63,.c 0),(71,.c 0),(76,.c 0),(90,.c 0),(95,.c 0),(116,.c 1),(122,.c 0),(127,.c 0),(132,.c 0),(148,.c 1),(165,.c 5)]) (ae z52 (ae z56 (ae B60 (ae B63 (ae B71 (ae B76 (ae B90 (ae B95 (ae n116 (ae B122 (ae b127 (ae b132 (ae n148 (ae n165 aS)))))))))))))) (by kernel_rfl)
         have z310:v 310=v 112:=aW (X:=dE [a1,a1,b1,b1,P,Q,g,h]) (v:=v) (l:=aP) (aK _) hs (k:=310) (j:=112) (ps:=[(52,.c 0),(56,.c 1),(60,.c 0),(63,.c 0),(71,.c 0),(76,.c 0),(90,.c 0),(95,.c 0),(116,.c 1),(122,.c 0),(127,.c 0),(132,.c 0),(148,.c 1),(165,.c 5)]) (ae z52 (ae z56 (ae B60 (ae B63 (ae B71 (ae B76 (ae B90 (ae B95 (ae n116 (ae B122 (ae b127 (ae b132 (ae n148 (ae n165 aS)))))))))))))) (by kernel_rfl)
         have z311:v 311=v 113:=aW (X:=dE [a1,a1,b1,b1,P,Q,g,h]) (v:=v) (l:=aP) (aK _) hs (k:=311) (j:=113) (ps:=[(52,.c 0),(56,.c 1),(60,.c 0),(63,.c 0),(71,.c 0),(76,.c 0),(90,.c 0),(95,.c 0),(116,.c 1),(122,.c 0),(127,.c 0),(132,.c 0),(148,.c 1),(165,.c 5)]) (ae z52 (ae z56 (ae B60 (ae B63 (ae B71 (ae B76 (ae B90 (ae B95 (ae n116 (ae B122 (ae b127 (ae b132 (ae n148 (ae n165 aS)))))))))))))) (by kernel_rfl)
         have z312:v 312=v 246:=aW (X:=dE [a1,a1,b1,b1,P,Q,g,h]) (v:=v) (l:=aP) (aK _) hs (k:=312) (j:=246) (ps:=[(52,.c 0),(56,.c 1),(60,.c 0),(63,.c 0),(71,.c 0),(76,.c 0),(90,.c 0),(95,.c 0),(116,.c 1),(122,.c 0),(127,.c 0),(132,.c 0),(148,.c 1),(165,.c 5)]) (ae z52 (ae z56 (ae B60 (ae B63 (ae B71 (ae B76 (ae B90 (ae B95 (ae n116 (ae B122 (ae b127 (ae b132 (ae n148 (ae n165 aS)))))))))))))) (by kernel_rfl)
         have z313:v 313=v 247:=aW (X:=dE [a1,a1,b1,b1,P,Q,g,h]) (v:=v) (l:=aP) (aK _) hs (k:=313) (j:=247) (ps:=[(52,.c 0),(56,.c 1),(60,.c 0),(63,.c 0),(71,.c 0),(76,.c 0),(90,.c 0),(95,.c 0),(116,.c 1),(122,.c 0),(127,.c 0),(132,.c 0),(148,.c 1),(165,.c 5)]) (ae z52 (ae z56 (ae B60 (ae B63 (ae B71 (ae B76 (ae B90 (ae B95 (ae n116 (ae B122 (ae b127 (ae b132 (ae n148 (ae n165 aS)))))))))))))) (by kernel_rfl)
         have z309:v 309=0:=bP (X:=dE [a1,a1,b1,b1,P,Q,g,h]) (v:=v) (l:=aP) (aK _) hs (k:=309) (r:=.c 0) (ps:=[(52,.c 0),(56,.c 1),(60,.c 0),(63,.c 0),(71,.c 0),(76,.c 0),(90,.c 0),(95,.c 0),(116,.c 1),(122,.c 0),(127,.c 0),(132,.c 0),(148,.c 1),(165,.c 5)]) (nz:=[]) (ae z52 (ae z56 (ae B60 (ae B63 (ae B71 (ae B76 (ae B90 (ae B95 (ae n116 (ae B122 (ae b127 (ae b132 (ae n148 (ae n165 aS)))))))))))))) dz (by kernel_rfl)
         exact tail (by rw [z229,b135,G0]) (by rw [z230,b136,G1]) (by rw [G0];omega) (by rw [G1];omega) z310 z311 z312 z313 z309
     . have n148:v 148=0:=by rw [a148,decide_eq_false s];rfl
       have ok:¬ AJ a1 P Q g h:=fun z=>s z.1
       have G0:iW a1 P Q g h=qM a1 P Q g h:=if_neg ok;have G1:iY a1 P Q g h=rD a1 P Q g h:=if_neg ok;have z229:v 229=v 135:=aW (X:=dE [a1,a1,b1,b1,P,Q,g,h]) (v:=v) (l:=aP) (aK _) hs (k:=229) (j:=135) (ps:=[(52,.c 0),(56,.c 1),(60,.c 0),(63,.c 0),(71,.c 0),(76,.c 0),(90,.c 0),(95,.c 0),(116,.c 1),(122,.c 0),(127,.c 0),(132,.c 0),(148,.c 0)]) (ae z52 (ae z56 (ae B60 (ae B63 (ae B71 (ae B76 (ae B90 (ae B95 (ae n116 (ae B122 (ae b127 (ae b132 (ae n148 aS))))))))))))) (by kernel_rfl)
       have z230:v 230=v 136:=aW (X:=dE [a1,a1,b1,b1,P,Q,g,h]) (v:=v) (l:=aP) (aK _) hs (k:=230) (j:=136) (ps:=[(52,.c 0),(56,.c 1),(60,.c 0),(63,.c 0),(71,.c 0),(76,.c 0),(90,.c 0),(95,.c 0),(116,.c 1),(122,.c 0),(127,.c 0),(132,.c 0),(148,.c 0)]) (ae z52 (ae z56 (ae B60 (ae B63 (ae B71 (ae B76 (ae B90 (ae B95 (ae n116 (ae B122 (ae b127 (ae b132 (ae n148 aS))))))))))))) (by kernel_rfl)
       have z310:v 310=v 112:=aW (X:=dE [a1,a1,b1,b1,P,Q,g,h]) (v:=v) (l:=aP) (aK _) hs (k:=310) (j:=112) (ps:=[(52,.c 0),(56,.c 1),(60,.c 0),(63,.c 0),(71,.c 0),(76,.c 0),(90,.c 0),(95,.c 0),(116,.c 1),(122,.c 0),(127,.c 0),(132,.c 0),(148,.c 0)]) (ae z52 (ae z56 (ae B60 (ae B63 (ae B71 (ae B76 (ae B90 (ae B95 (ae n116 (ae B122 (ae b127 (ae b132 (ae n148 aS))))))))))))) (by kernel_rfl)
       have z311:v 311=v 113:=aW (X:=dE [a1,a1,b1,b1,P,Q,g,h]) (v:=v) (l:=aP) (aK _) hs (k:=311) (j:=113) (ps:=[(52,.c 0),(56,.c 1),(60,.c 0),(63,.c 0),(71,.c 0),(76,.c 0),(90,.c 0),(95,.c 0),(116,.c 1),(122,.c 0),(127,.c 0),(132,.c 0),(148,.c 0)]) (ae z52 (ae z56 (ae B60 (ae B63 (ae B71 (ae B76 (ae B90 (ae B95 (ae n116 (ae B122 (ae b127 (ae b132 (ae n148 aS))))))))))))) (by kernel_rfl)
       have z312:v 312=v 246:=aW (X:=dE [a1,a1,b1,b1,P,Q,g,h]) (v:=v) (l:=aP) (aK _) hs (k:=312) (j:=246) (ps:=[(52,.c 0),(56,.c 1),(60,.c 0),(63,.c 0),(71,.c 0),(76,.c 0),(90,.c 0),(95,.c 0),(116,.c 1),(122,.c 0),(127,.c 0),(132,.c 0),(148,.c 0)]) (ae z52 (ae z56 (ae B60 (ae B63 (ae B71 (ae B76 (ae B90 (ae B95 (ae n116 (ae B122 (ae b127 (ae b132 (ae n148 aS))))))))))))) (by kernel_rfl)
       have z313:v 313=v 247:=aW (X:=dE [a1,a1,b1,b1,P,Q,g,h]) (v:=v) (l:=aP) (aK _) hs (k:=313) (j:=247) (ps:=[(52,.c 0),(56,.c 1),(60,.c 0),(63,.c 0),(71,.c 0),(76,.c 0),(90,.c 0),(95,.c 0),(116,.c 1),(122,.c 0),(127,.c 0),(132,.c 0),(148,.c 0)]) (ae z52 (ae z56 (ae B60 (ae B63 (ae B71 (ae B76 (ae B90 (ae B95 (ae n116 (ae B122 (ae b127 (ae b132 (ae n148 aS))))))))))))) (by kernel_rfl)
       have z309:v 309=0:=bP (X:=dE [a1,a1,b1,b1,P,Q,g,h]) (v:=v) (l:=aP) (aK _) hs (k:=309) (r:=.c 0) (ps:=[(52,.c 0),(56,.c 1),(60,.c 0),(63,.c 0),(71,.c 0),(76,.c 0),(90,.c 0),(95,.c 0),(116,.c 1),(122,.c 0),(127,.c 0),(132,.c 0),(148,.c 0)]) (nz:=[]) (ae z52 (ae z56 (ae B60 (ae B63 (ae B71 (ae B76 (ae B90 (ae B95 (ae n116 (ae B122 (ae b127 (ae b132 (ae n148 aS))))))))))))) dz (by kernel_rfl)
       exact tail (by rw [z229,b135,G0]) (by rw [z230,b136,G1]) (by rw [G0];omega) (by rw [G1];omega) z310 z311 z312 z313 z309
   . have n116:v 116=0:=by rw [N116,decide_eq_false k];rfl
     have z309:v 309=25:=bP (X:=dE [a1,a1,b1,b1,P,Q,g,h]) (v:=v) (l:=aP) (aK _) hs (k:=309) (r:=.c 25) (ps:=[(52,.c 0),(56,.c 1),(60,.c 0),(63,.c 0),(71,.c 0),(76,.c 0),(90,.c 0),(95,.c 0),(116,.c 0),(122,.c 0)]) (nz:=[]) (ae z52 (ae z56 (ae B60 (ae B63 (ae B71 (ae B76 (ae B90 (ae B95 (ae n116 (ae B122 aS)))))))))) dz (by kernel_rfl)
     have z310:v 310=0:=bP (X:=dE [a1,a1,b1,b1,P,Q,g,h]) (v:=v) (l:=aP) (aK _) hs (k:=310) (r:=.c 0) (ps:=[(52,.c 0),(56,.c 1),(60,.c 0),(63,.c 0),(71,.c 0),(76,.c 0),(90,.c 0),(95,.c 0),(116,.c 0),(122,.c 0)]) (nz:=[]) (ae z52 (ae z56 (ae B60 (ae B63 (ae B71 (ae B76 (ae B90 (ae B95 (ae n116 (ae B122 aS)))))))))) dz (by kernel_rfl)
     have z311:v 311=0:=bP (X:=dE [a1,a1,b1,b1,P,Q,g,h]) (v:=v) (l:=aP) (aK _) hs (k:=311) (r:=.c 0) (ps:=[(52,.c 0),(56,.c 1),(60,.c 0),(63,.c 0),(71,.c 0),(76,.c 0),(90,.c 0),(95,.c 0),(116,.c 0),(122,.c 0)]) (nz:=[]) (ae z52 (ae z56 (ae B60 (ae B63 (ae B71 (ae B76 (ae B90 (ae B95 (ae n116 (ae B122 aS)))))))))) dz (by kernel_rfl)
     have z312:v 312=0:=bP (X:=dE [a1,a1,b1,b1,P,Q,g,h]) (v:=v) (l:=aP) (aK _) hs (k:=312) (r:=.c 0) (ps:=[(52,.c 0),(56,.c 1),(60,.c 0),(63,.c 0),(71,.c 0),(76,.c 0),(90,.c 0),(95,.c 0),(116,.c 0),(122,.c 0)]) (nz:=[]) (ae z52 (ae z56 (ae B60 (ae B63 (ae B71 (ae B76 (ae B90 (ae B95 (ae n116 (ae B122 aS)))))))))) dz (by kernel_rfl)
     have z313:v 313=0:=bP (X:=dE [a1,a1,b1,b1,P,Q,g,h]) (v:=v) (l:=aP) (aK _) hs (k:=313) (r:=.c 0) (ps:=[(52,.c 0),(56,.c 1),(60,.c 0),(63,.c 0),(71,.c 0),(76,.c 0),(90,.c 0),(95,.c 0),(116,.c 0),(122,.c 0)]) (nz:=[]) (ae z52 (ae z56 (ae B60 (ae B63 (ae B71 (ae B76 (ae B90 (ae B95 (ae n116 (ae B122 aS)))))))))) dz (by kernel_rfl)
     rw [z309,z310,z311,z312,z313];unfold rdV;rw [if_neg k];rfl
