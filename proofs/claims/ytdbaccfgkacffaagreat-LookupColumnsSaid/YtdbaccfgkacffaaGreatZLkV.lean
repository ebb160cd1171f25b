/- Interpolation: values between two arcs, and the nodes that reckon them. -/
import Derived.Test.YtdbaccfgkacffaaGreatZSpE
import Derived.Test.YtdbaccfgkacffaaGreatZPlus
import Derived.Test.YtdbaccfgkacffaaGreatZLkA
set_option linter.unusedVariables false
set_option linter.unusedSimpArgs false
set_option maxRecDepth 100000
set_option maxHeartbeats 8000000
namespace Go.Proofs.YtdbaccfgkacffaaGreat
open Go.RowKit Alm Sx
theorem bW {x m q r c s z:Int} (hx:-1000000000000000<=x/\x<=1000000000000000) (hm:1<=m/\m<=1000000000000) (eq:q=IntKind.i64.wrap (Int.tdiv x m)) (er:r=Int.tmod x m) (ec:c=b2i (decide (r<0))) (es:s=IntKind.i64.wrap (q-1)) (ez:z=if c≠0 then s else q):z=x/m:=by
 have b1:(-1000000000000000:Int)<=x/m:=(Int.le_ediv_iff_mul_le (by omega)).2 (by omega)
 have b2:x/m<1000000000000001:=(Int.ediv_lt_iff_lt_mul (by omega)).2 (by omega)
 rw [Int.tdiv_eq_ediv] at eq;rw [Int.tmod_eq_emod] at er;have m1:=Int.emod_nonneg x (show m≠0 by omega)
 have m2:=Int.emod_lt_of_pos x (show 0<m by omega)
 have sm:Int.sign m=1:=Int.sign_eq_one_of_pos (by omega)
 have na:((Int.natAbs m:Nat):Int)=m:=Int.natAbs_of_nonneg (by omega)
 rw [ez,ec]
 by_cases P:0<=x∨m ∣ x
 . rw [if_pos P,Int.add_zero,Go.IntWalk.i64_in _ (by omega)] at eq
   rw [if_pos P] at er;rw [decide_eq_false (by omega),eq];rfl
 . rw [if_neg P,sm,Go.IntWalk.i64_in _ (by omega)] at eq
   rw [if_neg P] at er;rw [Go.IntWalk.i64_in _ (by omega)] at es
   rw [decide_eq_true (by omega),es,eq]
   show x/m+1-1=_;omega
theorem iI {x m y q r c s t z:Int} (hx:-1000000000000000<=x/\x<=1000000000000000) (hm:1<=m/\m<=1000000000000) (ey:y=IntKind.i64.wrap (0-x)) (eq:q=IntKind.i64.wrap (Int.tdiv y m)) (er:r=Int.tmod y m) (ec:c=b2i (decide (r<0))) (es:s=IntKind.i64.wrap (q-1)) (et:t=if c≠0 then s else q) (ez:z=IntKind.i64.wrap (0-t)):z=-(-x/m):=by
 rw [Go.IntWalk.i64_in _ (by omega),show (0:Int)-x=-x by omega] at ey
 have b1:(-1000000000000000:Int)<=-x/m:=(Int.le_ediv_iff_mul_le (by omega)).2 (by omega)
 have b2:-x/m<1000000000000001:=(Int.ediv_lt_iff_lt_mul (by omega)).2 (by omega)
 have:=bW (by omega) hm eq er ec es et
 rw [this,ey,Go.IntWalk.i64_in _ (by omega)] at ez
 omega
theorem jT {x m q r c s z:Int} (hx:-1000000000000000<=x/\x<=1000000000000000) (hm:1<=m/\m<=1000000000000) (eq:q=IntKind.i64.wrap (Int.tdiv x m)) (er:r=Int.tmod x m) (ec:c=b2i (decide (r>0))) (es:s=IntKind.i64.wrap (q+1)) (ez:z=if c≠0 then s else q):z=-(-x/m):=by
 have b1:(-1000000000000000:Int)<=x/m:=(Int.le_ediv_iff_mul_le (by omega)).2 (by omega)
 have b2:x/m<1000000000000001:=(Int.ediv_lt_iff_lt_mul (by omega)).2 (by omega)
 rw [Int.tdiv_eq_ediv] at eq;rw [Int.tmod_eq_emod] at er;have m1:=Int.emod_nonneg x (show m≠0 by omega)
 have m2:=Int.emod_lt_of_pos x (show 0<m by omega)
 have sm:Int.sign m=1:=Int.sign_eq_one_of_pos (by omega)
 have na:((Int.natAbs m:Nat):Int)=m:=Int.natAbs_of_nonneg (by omega)
 rw [Int.neg_ediv,sm,ez,ec]
 by_cases D:m ∣ x
 . have z0:=Int.emod_eq_zero_of_dvd D;rw [if_pos (.inr D),Int.add_zero,Go.IntWalk.i64_in _ (by omega)] at eq
   rw [if_pos (.inr D)] at er;rw [if_pos D,decide_eq_false (by omega),eq]
   show x/m=_;omega
 . have z0:x%m≠0:=fun h=>D (Int.dvd_of_emod_eq_zero h)
   rw [if_neg D]
   by_cases P:0<=x
   . rw [if_pos (.inl P),Int.add_zero,Go.IntWalk.i64_in _ (by omega)] at eq
     rw [if_pos (.inl P)] at er;rw [Go.IntWalk.i64_in _ (by omega)] at es
     rw [decide_eq_true (by omega),es,eq]
     show x/m+1=_;omega
   . have Q:¬ (0<=x∨m ∣ x):=fun h=>h.elim P D
     rw [if_neg Q,sm,Go.IntWalk.i64_in _ (by omega)] at eq
     rw [if_neg Q] at er;rw [decide_eq_false (by omega),eq]
     show x/m+1=_;omega
def sgt (x:Int):Int:=if x%21600000>=10800000 then x%21600000-21600000 else x%21600000
theorem dK {x r c s z:Int} (hx:-1000000000000000<=x/\x<=1000000000000000) (er:r=Int.tmod x 21600000) (ec:c=b2i (decide (r<0))) (es:s=IntKind.i64.wrap (r+21600000)) (ez:z=if c≠0 then s else r):z=x%21600000:=by
 rw [Int.tmod_eq_emod] at er
 by_cases P:0<=x∨(21600000:Int) ∣ x
 . rw [if_pos P] at er;rw [ez,ec,decide_eq_false (by omega),er]
   show x%21600000-((0:Nat):Int)=_;omega
 . rw [if_neg P] at er;have na:((Int.natAbs (21600000:Int):Nat):Int)=21600000:=rfl;rw [na] at er;rw [Go.IntWalk.i64_in _ (by omega)] at es
   rw [ez,ec,decide_eq_true (by omega),es,er]
   show x%21600000-21600000+21600000=_;omega
theorem De {x w g s z:Int} (ew:w=x%21600000) (eg:g=b2i (decide (w>=10800000))) (es:s=IntKind.i64.wrap (w-21600000)) (ez:z=if g≠0 then s else w):z=sgt x/\-10800000<=z/\z<=10800000:=by
 rw [Go.IntWalk.i64_in _ (by omega)] at es
 unfold sgt
 by_cases q:w>=10800000
 . rw [decide_eq_true q] at eg;rw [ez,eg,if_pos (by decide),es,if_pos (by omega)];omega
 . rw [decide_eq_false q] at eg;rw [ez,eg,if_neg (by decide),if_neg (by omega)];omega
def atF (a b u:Int):Int:=(a*(60000-u)+b*u)/60000
def atC (a b u:Int):Int:=-(-(a*(60000-u)+b*u)/60000)
def ovL (a b u v e:Int):Int:=min (atF a b u) (atF a b v)-e
def ovH (a b u v e:Int):Int:=max (atC a b u) (atC a b v)+e
def trL (l h:Int):Int:=if h-l>=21600000 then 0 else l%21600000
def trH (l h:Int):Int:=if h-l>=21600000 then 21600000 else l%21600000+(h-l)
theorem dw {a b u w p q s:Int} (ha:-1000000000<=a/\a<=1000000000) (hb:-1000000000<=b/\b<=1000000000) (hu:0<=u/\u<=60000) (ew:w=IntKind.i64.wrap (60000-u)) (ep:p=IntKind.i64.wrap (a*w)) (eq:q=IntKind.i64.wrap (b*u)) (es:s=IntKind.i64.wrap (p+q)):s=a*(60000-u)+b*u/\-60000000000000<=s/\s<=60000000000000:=by
 rw [Go.IntWalk.i64_in _ (by omega)] at ew
 rw [ew] at ep;have a1:=Int.mul_le_mul_of_nonneg_right ha.1 (show 0<=60000-u by omega)
 have a2:=Int.mul_le_mul_of_nonneg_right ha.2 (show 0<=60000-u by omega)
 have b1:=Int.mul_le_mul_of_nonneg_right hb.1 hu.1;have b2:=Int.mul_le_mul_of_nonneg_right hb.2 hu.1;generalize a*(60000-u)=A at *
 generalize b*u=B at *
 rw [Go.IntWalk.i64_in _ (by omega)] at ep
 rw [Go.IntWalk.i64_in _ (by omega)] at eq
 rw [ep,eq,Go.IntWalk.i64_in _ (by omega)] at es
 omega
theorem eU {a b u:Int} (ha:-1000000000<=a/\a<=1000000000) (hb:-1000000000<=b/\b<=1000000000) (hu:0<=u/\u<=60000):-1000000000<=atF a b u/\atF a b u<=1000000000/\-1000000000<=atC a b u/\atC a b u<=1000000000:=by
 unfold atF atC;have a1:=Int.mul_le_mul_of_nonneg_right ha.1 (show 0<=60000-u by omega)
 have a2:=Int.mul_le_mul_of_nonneg_right ha.2 (show 0<=60000-u by omega)
 have b1:=Int.mul_le_mul_of_nonneg_right hb.1 hu.1;have b2:=Int.mul_le_mul_of_nonneg_right hb.2 hu.1;generalize a*(60000-u)=A at *
 generalize b*u=B at *
 omega
theorem iK {x y z:Int} (h:z=if y<x then y else x):z=min x y:=by split at h<;>omega
theorem fG {x y z:Int} (h:z=if y>x then y else x):z=max x y:=by split at h<;>omega
theorem sV {x y c z:Int} (ec:c=b2i (decide (y<x))) (h:z=if c≠0 then y else x):z=min x y:=by
 by_cases q:y<x
 . rw [decide_eq_true q] at ec;rw [ec,if_pos (by decide)] at h;omega
 . rw [decide_eq_false q] at ec;rw [ec,if_neg (by decide)] at h;omega
theorem tF {x y c z:Int} (ec:c=b2i (decide (y>x))) (h:z=if c≠0 then y else x):z=max x y:=by
 by_cases q:y>x
 . rw [decide_eq_true q] at ec;rw [ec,if_pos (by decide)] at h;omega
 . rw [decide_eq_false q] at ec;rw [ec,if_neg (by decide)] at h;omega
def hrB (a2 a3 b2 b3:Int):Prop:=¬ a3-a2>=21600000/\¬ b3-b2>=21600000
instance (a2 a3 b2 b3:Int):Decidable (hrB a2 a3 b2 b3):=by unfold hrB;infer_instance
def hrL (a2 b2 u v g:Int):Int:=ovL a2 (a2+sgt (b2-a2)) u v g
def hrH (a2 a3 b2 b3 u v g:Int):Int:=ovH a3 (a2+sgt (b2-a2)+b3-b2) u v g
def hrV (a0 a1 a2 a3 b0 b1 b2 b3 f g u v:Int):List Int:=[ovL a0 b0 u v f,ovH a1 b1 u v f,if hrB a2 a3 b2 b3 then trL (hrL a2 b2 u v g) (hrH a2 a3 b2 b3 u v g) else 0,if hrB a2 a3 b2 b3 then trH (hrL a2 b2 u v g) (hrH a2 a3 b2 b3 u v g) else 21600000]
def hrQ (x:Int):Prop:=-100000000<=x/\x<=100000000
def hrP (a0 a1 a2 a3 b0 b1 b2 b3 f g u v:Int):Prop:=(hrQ a0/\hrQ a1/\hrQ a2/\hrQ a3)/\(hrQ b0/\hrQ b1/\hrQ b2/\hrQ b3)/\(hrQ f/\hrQ g)/\(0<=u/\u<=60000)/\(0<=v/\v<=60000)
end Go.Proofs.YtdbaccfgkacffaaGreat
namespace Go.Proofs.YtdbaccfgkacffaaGreat
open Go.RowKit Alm Sx
theorem O1 (n:Int) (h:0<=n/\n<=10800000):0<=bLo n:=by
 have b:=kg n;have s:=AJ _ b.1 b.2;unfold bLo dM;rw [if_neg (by unfold au;simp;omega)]
 exact s.1
theorem wg2 (f k:Nat) {x p q a b:Int} (hp:p=a) (hq:q=b) (e:x=(fZ f [p,q]).getD k 0):x=(fZ f [a,b]).getD k 0:=by rw [e,hp,hq]
theorem wg4 (f k:Nat) {x p q r s a b c d:Int} (hp:p=a) (hq:q=b) (hr:r=c) (hs:s=d) (e:x=(fZ f [p,q,r,s]).getD k 0):x=(fZ f [a,b,c,d]).getD k 0:=by rw [e,hp,hq,hr,hs]
theorem J6 (lo hi:Int) (h:-5400000<=lo/\lo<=hi/\hi<=5400000):0<=bI (lo+5400000) (hi+5400000):=by
 have a:=O1 (lo+5400000) (by omega)
 have b:=O1 (hi+5400000) (by omega)
 unfold bI;rw [if_neg (by unfold d9 au;simp;omega)]
 omega
def wR (a b z0 z1:Int) (j:Nat):Int:=(fZ 0 [bI (a+5400000) (b+5400000),bL (a+5400000) (b+5400000),bI z0 z1,bL z0 z1]).getD j 0
def wA (a b h0 h1:Int) (j:Nat):Int:=(fZ 0 [bI a b,bL a b,bI (h0+5400000) (h1+5400000),bL (h0+5400000) (h1+5400000)]).getD j 0
def wC (a b h0 h1:Int) (j:Nat):Int:=(fZ 0 [bI (a+5400000) (b+5400000),bL (a+5400000) (b+5400000),bI h0 h1,bL h0 h1]).getD j 0
def wB (a b h0 h1 z0 z1:Int) (j:Nat):Int:=(fZ 0 [wC a b h0 h1 0,wC a b h0 h1 1,bI (z0+5400000) (z1+5400000),bL (z0+5400000) (z1+5400000)]).getD j 0
def wD (a b h0 h1 z0 z1:Int) (j:Nat):Int:=(fZ 2 [wA a b h0 h1 0,wA a b h0 h1 1,wB a b h0 h1 z0 z1 0,wB a b h0 h1 z0 z1 1]).getD j 0
def wQ (a b h0 h1 z0 z1:Int) (j:Nat):Int:=(qoV (wD a b h0 h1 z0 z1 0) (wD a b h0 h1 z0 z1 1) (bI (h0+5400000) (h1+5400000)) (bL (h0+5400000) (h1+5400000)) 60000).getD j 0
def wrH (r0 r1 s0 s1:Int):Int:=-(-((max r1 s1-min r0 s0)*60000)/4294967296)
def wrT (q0 q1 p0 p1:Int):Int:=-(-(max q1 p1-min q0 p0)/4)
def wrZ (q0 q1 qe p0 p1 pe:Int):Int:=if qe≠0∨pe≠0 then 10800000 else if wrT q0 q1 p0 p1>10800000 then 10800000 else wrT q0 q1 p0 p1
def wS (a b c d n i:Int) (j:Nat):Int:=(slV a b c d (n*60000+i*30000) (n*60000+i*30000+30000)).getD j 0
def wrV (a b c d n:Int):List Int:=[wrH (wR a b (wS a b c d n 0 2) (wS a b c d n 0 3) 0) (wR a b (wS a b c d n 0 2) (wS a b c d n 0 3) 1) (wR a b (wS a b c d n 1 2) (wS a b c d n 1 3) 0) (wR a b (wS a b c d n 1 2) (wS a b c d n 1 3) 1),wrZ (wQ a b (wS a b c d n 0 0) (wS a b c d n 0 1) (wS a b c d n 0 2) (wS a b c d n 0 3) 0) (wQ a b (wS a b c d n 0 0) (wS a b c d n 0 1) (wS a b c d n 0 2) (wS a b c d n 0 3) 1) (wQ a b (wS a b c d n 0 0) (wS a b c d n 0 1) (wS a b c d n 0 2) (wS a b c d n 0 3) 2) (wQ a b (wS a b c d n 1 0) (wS a b c d n 1 1) (wS a b c d n 1 2) (wS a b c d n 1 3) 0) (wQ a b (wS a b c d n 1 0) (wS a b c d n 1 1) (wS a b c d n 1 2) (wS a b c d n 1 3) 1) (wQ a b (wS a b c d n 1 0) (wS a b c d n 1 1) (wS a b c d n 1 2) (wS a b c d n 1 3) 2)]
theorem Ir (a b z0 z1:Int):fxV (wR a b z0 z1 0) (wR a b z0 z1 1)=true:=(nW _ _).2.2
theorem Wz (a b h0 h1 z0 z1:Int):(-1099511627776<=wQ a b h0 h1 z0 z1 0/\wQ a b h0 h1 z0 z1 0<=1099511627776)/\(-1099511627776<=wQ a b h0 h1 z0 z1 1/\wQ a b h0 h1 z0 z1 1<=1099511627776):=by
 unfold wQ qoV;split
 . exact ⟨by decide,by decide⟩
 . split
   . rename_i h
     obtain ⟨h1,h2⟩:=h;unfold dQ at h1 h2;simp at h1 h2;exact ⟨h1,h2⟩
   . exact ⟨by decide,by decide⟩
theorem abk {r0 r1 s0 s1:Int} (h:fxV r0 r1=true) (h2:fxV s0 s1=true):0<=wrH r0 r1 s0 s1/\wrH r0 r1 s0 s1<=60000:=by
 have:=(cz _ _).1 h;have:=(cz _ _).1 h2;unfold wrH;omega
theorem aa0 {q0 q1 qe p0 p1 pe:Int}:wrZ q0 q1 qe p0 p1 pe<=10800000:=by unfold wrZ;split;omega;split<;>omega
def fP:List Nd:=[.arg 0,.arg 1,.arg 2,.arg 3,.arg 4,.app 5 0 [0,1],.app 5 1 [0,1],.app 5 2 [0,1],.app 6 0 [0,1],.app 6 1 [0,1],.app 6 2 [0,1],.bin .mul .i64 4 (.c 60000),.bin .add .i64 11 (.c 0),.bin .add .i64 12 (.c 30000),.app 53 0 [0,1,2,3,12,13],.app 53 1 [0,1,2,3,12,13],.app 53 2 [0,1,2,3,12,13],.app 53 3 [0,1,2,3,12,13],.app 53 4 [0,1,2,3,12,13],.bin .neq .i64 18 (.c 0),.ite 19 (.c 0) (.c 1),.app 5 0 [16,17],.app 5 1 [16,17],.app 5 2 [16,17],.app 6 0 [16,17],.app 6 1 [16,17],.app 6 2 [16,17],.app 5 0 [14,15],.app 5 1 [14,15],.app 5 2 [14,15],.app 6 0 [14,15],.app 6 1 [14,15],.app 6 2 [14,15],.app 0 0 [8,9,21,22],.app 0 1 [8,9,21,22],.app 0 2 [8,9,21,22],.app 0 0 [5,6,30,31],.app 0 1 [5,6,30,31],.app 0 2 [5,6,30,31],.app 0 0 [8,9,27,28],.app 0 1 [8,9,27,28],.app 0 2 [8,9,27,28],.app 0 0 [39,40,24,25],.app 0 1 [39,40,24,25],.app 0 2 [39,40,24,25],.app 2 0 [36,37,42,43],.app 2 1 [36,37,42,43],.app 2 2 [36,37,42,43],.app 12 0 [45,46,30,31,.c 60000],.app 12 1 [45,46,30,31,.c 60000],.app 12 2 [45,46,30,31,.c 60000],.bin .neq .i64 50 (.c 0),.ite 51 (.c 0) (.c 1),.ite 20 52 (.c 0),.ite 20 51 (.c 0),.ite 53 (.c 1) 54,.ite 53 (.c 0) (.c 1),.ite 53 48 (.c 0),.ite 53 49 (.c 0),.bin .add .i64 11 (.c 30000),.bin .add .i64 59 (.c 30000),.app 53 0 [0,1,2,3,59,60],.app 53 1 [0,1,2,3,59,60],.app 53 2 [0,1,2,3,59,60],.app 53 3 [0,1,2,3,59,60],.app 53 4 [0,1,2,3,59,60],.bin .neq .i64 65 (.c 0),.ite 66 (.c 0) (.c 1),.app 5 0 [63,64],.app 5 1 [63,64],.app 5 2 [63,64],.app 6 0 [63,64],.app 6 1 [63,64],.app 6 2 [63,64],.app 5 0 [61,62],.app 5 1 [61,62],.app 5 2 [61,62],.app 6 0 [61,62],.app 6 1 [61,62],.app 6 2 [61,62],.app 0 0 [8,9,68,69],.app 0 1 [8,9,68,69],.app 0 2 [8,9,68,69],.mn 33 80,.mx 34 81,.app 0 0 [5,6,77,78],.app 0 1 [5,6,77,78],.app 0 2 [5,6,77,78],.app 0 0 [8,9,74,75],.app 0 1 [8,9,74,75],.app 0 2 [8,9,74,75],.app 0 0 [88,89,71,72],.app 0 1 [88,89,71,72],.app 0 2 [88,89,71,72],.app 2 0 [85,86,91,92],.app 2 1 [85,86,91,92],.app 2 2 [85,86,91,92],.app 12 0 [94,95,77,78,.c 60000],.app 12 1 [94,95,77,78,.c 60000],.app 12 2 [94,95,77,78,.c 60000],.bin .neq .i64 99 (.c 0),.ite 100 (.c 0) (.c 1),.ite 56 97 57,.ite 56 98 58,.ite 56 (.c 1) 53,.mn 102 97,.mx 103 98,.ite 67 101 (.c 0),.ite 67 100 (.c 0),.ite 107 (.c 1) 108,.ite 107 56 (.c 1),.ite 107 105 57,.ite 107 106 58,.ite 107 104 53,.ite 55 66 (.c 0),.ite 55 109 (.c 0),.ite 19 (.c 1) 114,.ite 19 18 65,.ite 19 (.c 0) 56,.ite 19 12 59,.ite 19 (.c 0) (.c 30000),.ite 19 14 61,.ite 19 15 62,.ite 19 16 63,.ite 19 17 64,.ite 19 13 60,.ite 19 19 66,.ite 19 (.c 0) 57,.ite 19 (.c 0) 58,.ite 19 (.c 0) 53,.ite 19 (.c 0) 33,.ite 19 (.c 0) 34,.bin .sub .i64 84 83,.bin .mul .i64 132 (.c 60000),.bin .sub .i64 (.c 0) 133,.bin .quo .i64 134 (.c 4294967296),.bin .rem .i64 134 (.c 4294967296),.bin .lss .i64 136 (.c 0),.bin .sub .i64 135 (.c 1),.ite 137 (.c 0) (.c 1),.ite 137 138 135,.bin .sub .i64 (.c 0) 140,.bin .sub .i64 112 111,.bin .sub .i64 (.c 0) 142,.bin .quo .i64 143 (.c 4),.bin .rem .i64 143 (.c 4),.bin .lss .i64 145 (.c 0),
 .bin .sub .i64 144 (.c 1),.ite 146 (.c 0) (.c 1),.ite 146 147 144,.bin .sub .i64 (.c 0) 149,.bin .gtr .i64 150 (.c 10800000),.ite 110 (.c 1) 151,.ite 152 (.c 0) (.c 1),.ite 152 (.c 10800000) 150,.ite 116 (.c 1) 115,.ite 116 117 (.c 0),.ite 116 118 110,.ite 116 20 (.c 1),.ite 116 119 97,.ite 116 117 99,.ite 116 20 (.c 2),.ite 116 120 (.c 30000),.ite 116 119 59,.ite 116 121 61,.ite 116 122 62,.ite 116 123 63,.ite 116 124 64,.ite 116 117 65,.ite 116 125 60,.ite 116 126 66,.ite 116 127 111,.ite 116 128 112,.ite 116 129 113,.ite 116 130 83,.ite 116 131 84,.ite 116 (.c 0) 141,.ite 116 (.c 0) 154]
def Uj:List Vc:=[⟨[],.pre 5 [0,1]⟩,⟨[],.pre 6 [0,1]⟩,⟨[],.pre 53 [0,1,2,3,12,13]⟩,⟨[(20,true)],.pre 5 [16,17]⟩,⟨[(20,true)],.pre 6 [16,17]⟩,⟨[(20,true)],.pre 5 [14,15]⟩,⟨[(20,true)],.pre 6 [14,15]⟩,⟨[(20,true)],.pre 0 [8,9,21,22]⟩,⟨[(20,true)],.pre 0 [5,6,30,31]⟩,⟨[(20,true)],.pre 0 [8,9,27,28]⟩,⟨[(20,true)],.pre 0 [39,40,24,25]⟩,⟨[(20,true)],.pre 2 [36,37,42,43]⟩,⟨[(20,true)],.pre 12 [45,46,30,31,.c 60000]⟩,⟨[(55,true)],.pre 53 [0,1,2,3,59,60]⟩,⟨[(67,true),(55,true)],.pre 5 [63,64]⟩,⟨[(67,true),(55,true)],.pre 6 [63,64]⟩,⟨[(67,true),(55,true)],.pre 5 [61,62]⟩,⟨[(67,true),(55,true)],.pre 6 [61,62]⟩,⟨[(67,true),(55,true)],.pre 0 [8,9,68,69]⟩,⟨[(67,true),(55,true)],.pre 0 [5,6,77,78]⟩,⟨[(67,true),(55,true)],.pre 0 [8,9,74,75]⟩,⟨[(67,true),(55,true)],.pre 0 [88,89,71,72]⟩,⟨[(67,true),(55,true)],.pre 2 [85,86,91,92]⟩,⟨[(67,true),(55,true)],.pre 12 [94,95,77,78,.c 60000]⟩]
theorem Vj:whole Tryz.prog spS 20 40 48 [(true,[some .i64,some .i64]),(true,[some .i64,some .i64]),(false,[some .i64])]=some (.tup [.agg [.int .i64 (.n 176),.int .i64 (.n 177)],.c (.int .i64 (.n 156))],⟨fP.reverse,Uj.reverse⟩):=by kernel_rfl
theorem Sy:wfN fP.reverse=true:=by kernel_rfl
theorem Pq (a b c d n:Int) (w:World) (h1:-5400000<=a/\a<=b/\b<=5400000) (h2:-5400000<=c/\c<=d/\d<=5400000) (h3:0<=n/\n<=179):Calls Tryz.prog 48 #[.agg #[.int .i64 a,.int .i64 b],.agg #[.int .i64 c,.int .i64 d],.int .i64 n] w fun e w'=>e=.returned (.tuple #[.agg #[.int .i64 ((wrV a b c d n).getD 0 0),.int .i64 ((wrV a b c d n).getD 1 0)],.int .i64 0])/\Below w.heap.size w w':=by
 refine Sx.calls (X:=cxS [a,b,c,d,n]) dG (Yz _) Vj Sy (fun v hs=>?_) w
 have e0:v 0=a:=aa hs 0 rfl;have e1:v 1=b:=aa hs 1 rfl;have e2:v 2=c:=aa hs 2 rfl;have e3:v 3=d:=aa hs 3 rfl;have e4:v 4=n:=aa hs 4 rfl;have A1:bf a b=true:=(aV _ _).2 (by omega)
 have w11:v 11=n*60000:=by rw [show v 11=IntKind.i64.wrap (v 4*(60000:Int)) from aa hs 11 rfl,e4,Go.IntWalk.i64_in _ (by omega)]
 have w12:v 12=n*60000+0*30000:=by rw [show v 12=IntKind.i64.wrap (v 11+(0:Int)) from aa hs 12 rfl,w11,Go.IntWalk.i64_in _ (by omega)];omega
 have w13:v 13=n*60000+0*30000+30000:=by rw [show v 13=IntKind.i64.wrap (v 12+(30000:Int)) from aa hs 13 rfl,w12,Go.IntWalk.i64_in _ (by omega)]
 have T0:gy a b c d (n*60000+0*30000) (n*60000+0*30000+30000):=⟨h1,h2,by omega⟩
 have sb0:=PP a b c d (n*60000+0*30000) (n*60000+0*30000+30000);have w14:v 14=wS a b c d n 0 0:=by rw [show v 14=(iO 53 [v 0,v 1,v 2,v 3,v 12,v 13]).getD 0 0 from aa hs 14 rfl,e0,e1,e2,e3,w12,w13];rfl
 have w15:v 15=wS a b c d n 0 1:=by rw [show v 15=(iO 53 [v 0,v 1,v 2,v 3,v 12,v 13]).getD 1 0 from aa hs 15 rfl,e0,e1,e2,e3,w12,w13];rfl
 have w16:v 16=wS a b c d n 0 2:=by rw [show v 16=(iO 53 [v 0,v 1,v 2,v 3,v 12,v 13]).getD 2 0 from aa hs 16 rfl,e0,e1,e2,e3,w12,w13];rfl
 have w17:v 17=wS a b c d n 0 3:=by rw [show v 17=(iO 53 [v 0,v 1,v 2,v 3,v 12,v 13]).getD 3 0 from aa hs 17 rfl,e0,e1,e2,e3,w12,w13];rfl
 have bs0:(-5400000<=wS a b c d n 0 0/\wS a b c d n 0 0<=wS a b c d n 0 1/\wS a b c d n 0 1<=5400000)/\(0<=wS a b c d n 0 2/\wS a b c d n 0 2<=21599999/\wS a b c d n 0 2<=wS a b c d n 0 3/\wS a b c d n 0 3<=wS a b c d n 0 2+21600000):=sb0;clear sb0;have w59:v 59=n*60000+1*30000:=by rw [show v 59=IntKind.i64.wrap (v 11+(30000:Int)) from aa hs 59 rfl,w11,Go.IntWalk.i64_in _ (by omega)];omega
 have w60:v 60=n*60000+1*30000+30000:=by rw [show v 60=IntKind.i64.wrap (v 59+(30000:Int)) from aa hs 60 rfl,w59,Go.IntWalk.i64_in _ (by omega)]
 have T1:gy a b c d (n*60000+1*30000) (n*60000+1*30000+30000):=⟨h1,h2,by omega⟩
 have sb1:=PP a b c d (n*60000+1*30000) (n*60000+1*30000+30000);have w61:v 61=wS a b c d n 1 0:=by rw [show v 61=(iO 53 [v 0,v 1,v 2,v 3,v 59,v 60]).getD 0 0 from aa hs 61 rfl,e0,e1,e2,e3,w59,w60];rfl
 have w62:v 62=wS a b c d n 1 1:=by rw [show v 62=(iO 53 [v 0,v 1,v 2,v 3,v 59,v 60]).getD 1 0 from aa hs 62 rfl,e0,e1,e2,e3,w59,w60];rfl
 have w63:v 63=wS a b c d n 1 2:=by rw [show v 63=(iO 53 [v 0,v 1,v 2,v 3,v 59,v 60]).getD 2 0 from aa hs 63 rfl,e0,e1,e2,e3,w59,w60];rfl
 have w64:v 64=wS a b c d n 1 3:=by rw [show v 64=(iO 53 [v 0,v 1,v 2,v 3,v 59,v 60]).getD 3 0 from aa hs 64 rfl,e0,e1,e2,e3,w59,w60];rfl
 have bs1:(-5400000<=wS a b c d n 1 0/\wS a b c d n 1 0<=wS a b c d n 1 1/\wS a b c d n 1 1<=5400000)/\(0<=wS a b c d n 1 2/\wS a b c d n 1 2<=21599999/\wS a b c d n 1 2<=wS a b c d n 1 3/\wS a b c d n 1 3<=wS a b c d n 1 2+21600000):=sb1;clear sb1;generalize hS00:wS a b c d n 0 0=S00 at *
 generalize hS01:wS a b c d n 0 1=S01 at *
 generalize hS02:wS a b c d n 0 2=S02 at *
 generalize hS03:wS a b c d n 0 3=S03 at *
 generalize hS10:wS a b c d n 1 0=S10 at *
 generalize hS11:wS a b c d n 1 1=S11 at *
 generalize hS12:wS a b c d n 1 2=S12 at *
 generalize hS13:wS a b c d n 1 3=S13 at *
 have w5:v 5=bI a b:=wg2 5 0 e0 e1 (aa hs 5 rfl);have w6:v 6=bL a b:=wg2 5 1 e0 e1 (aa hs 6 rfl);have w8:v 8=bI (a+5400000) (b+5400000):=wg2 6 0 e0 e1 (aa hs 8 rfl);have w9:v 9=bL (a+5400000) (b+5400000):=wg2 6 1 e0 e1 (aa hs 9 rfl);have w21:v 21=bI S02 S03:=wg2 5 0 w16 w17 (aa hs 21 rfl);have w22:v 22=bL S02 S03:=wg2 5 1 w16 w17 (aa hs 22 rfl);have w24:v 24=bI (S02+5400000) (S03+5400000):=wg2 6 0 w16 w17 (aa hs 24 rfl);have w25:v 25=bL (S02+5400000) (S03+5400000):=wg2 6 1 w16 w17 (aa hs 25 rfl);have w27:v 27=bI S00 S01:=wg2 5 0 w14 w15 (aa hs 27 rfl);have w28:v 28=bL S00 S01:=wg2 5 1 w14 w15 (aa hs 28 rfl);have w30:v 30=bI (S00+5400000) (S01+5400000):=wg2 6 0 w14 w15 (aa hs 30 rfl);have w31:v 31=bL (S00+5400000) (S01+5400000):=wg2 6 1 w14 w15 (aa hs 31 rfl);have w68:v 68=bI S12 S13:=wg2 5 0 w63 w64 (aa hs 68 rfl);have w69:v 69=bL S12 S13:=wg2 5 1 w63 w64 (aa hs 69 rfl);have w71:v 71=bI (S12+5400000) (S13+5400000):=wg2 6 0 w63 w64 (aa hs 71 rfl);have w72:v 72=bL (S12+5400000) (S13+5400000):=wg2 6 1 w63 w64 (aa hs 72 rfl);have w74:v 74=bI S10 S11:=wg2 5 0 w61 w62 (aa hs 74 rfl);have w75:v 75=bL S10 S11:=wg2 5 1 w61 w62 (aa hs 75 rfl);have w77:v 77=bI (S10+5400000) (S11+5400000):=wg2 6 0 w61 w62 (aa hs 77 rfl);have w78:v 78=bL (S10+5400000) (S11+5400000):=wg2 6 1 w61 w62 (aa hs 78 rfl);have w33:v 33=wR a b S02 S03 0:=wg4 0 0 w8 w9 w21 w22 (aa hs 33 rfl);have w34:v 34=wR a b S02 S03 1:=wg4 0 1 w8 w9 w21 w22 (aa hs 34 rfl);have w36:v 36=wA a b S00 S01 0:=wg4 0 0 w5 w6 w30 w31 (aa hs 36 rfl);have w37:v 37=wA a b S00 S01 1:=wg4 0 1 w5 w6 w30 w31 (aa hs 37 rfl);have w39:v 39=wC a b S00 S01 0:=wg4 0 0 w8 w9 w27 w28 (aa hs 39 rfl);have w40:v 40=wC a b S00 S01 1:=wg4 0 1 w8 w9 w27 w28 (aa hs 40 rfl);have w42:v 42=wB a b S00 S01 S02 S03 0:=wg4 0 0 w39 w40 w24 w25 (aa hs 42 rfl);have w43:v 43=wB a b S00 S01 S02 S03 1:=wg4 0 1 w39 w40 w24 w25 (aa hs 43 rfl);have w45:v 45=wD a b S00 S01 S02 S03 0:=wg4 2 0 w36 w37 w42 w43 (aa hs 45 rfl);have w46:v 46=wD a b S00 S01 S02 S03 1:=wg4 2 1 w36 w37 w42 w43 (aa hs 46 rfl);have w80:v 80=wR a b S12 S13 0:=wg4 0 0 w8 w9 w68 w69 (aa hs 80 rfl);have w81:v 81=wR a b S12 S13 1:=wg4 0 1 w8 w9 w68 w69 (aa hs 81 rfl);have w85:v 85=wA a b S10 S11 0:=wg4 0 0 w5 w6 w77 w78 (aa hs 85 rfl);have w86:v 86=wA a b S10 S11 1:=wg4 0 1 w5 w6 w77 w78 (aa hs 86 rfl);have w88:v 88=wC a b S10 S11 0:=wg4 0 0 w8 w9 w74 w75 (aa hs 88 rfl);have w89:v 89=wC a b S10 S11 1:=wg4 0 1 w8 w9 w74 w75 (aa hs 89 rfl);have w91:v 91=wB a b S10 S11 S12 S13 0:=wg4 0 0 w88 w89 w71 w72 (aa hs 91 rfl);have w92:v 92=wB a b S10 S11 S12 S13 1:=wg4 0 1 w88 w89 w71 w72 (aa hs 92 rfl);have w94:v 94=wD a b S10 S11 S12 S13 0:=wg4 2 0 w85 w86 w91 w92 (aa hs 94 rfl);have w95:v 95=wD a b S10 S11 S12 S13 1:=wg4 2 1 w85 w86 w91 w92 (aa hs 95 rfl);have w48:v 48=wQ a b S00 S01 S02 S03 0:=by rw [show v 48=(FL 12 [v 45,v 46,v 30,v 31,60000]).getD 0 0 from aa hs 48 rfl,w45,w46,w30,w31];rfl
 have w49:v 49=wQ a b S00 S01 S02 S03 1:=by rw [show v 49=(FL 12 [v 45,v 46,v 30,v 31,60000]).getD 1 0 from aa hs 49 rfl,w45,w46,w30,w31];rfl
 have w50:v 50=wQ a b S00 S01 S02 S03 2:=by rw [show v 50=(FL 12 [v 45,v 46,v 30,v 31,60000]).getD 2 0 from aa hs 50 rfl,w45,w46,w30,w31];rfl
 have w97:v 97=wQ a b S10 S11 S12 S13 0:=by rw [show v 97=(FL 12 [v 94,v 95,v 77,v 78,60000]).getD 0 0 from aa hs 97 rfl,w94,w95,w77,w78];rfl
 have w98:v 98=wQ a b S10 S11 S12 S13 1:=by rw [show v 98=(FL 12 [v 94,v 95,v 77,v 78,60000]).getD 1 0 from aa hs 98 rfl,w94,w95,w77,w78];rfl
 have w99:v 99=wQ a b S10 S11 S12 S13 2:=by rw [show v 99=(FL 12 [v 94,v 95,v 77,v 78,60000]).getD 2 0 from aa hs 99 rfl,w94,w95,w77,w78];rfl
 have R0:=(cz _ _).1 (Ir a b S02 S03);have R1:=(cz _ _).1 (Ir a b S12 S13);have Q0:=Wz a b S00 S01 S02 S03;have Q1:=Wz a b S10 S11 S12 S13;have k19:v 19=0:=by rw [show v 19=b2i (v 18 != (0:Int)) from aa hs 19 rfl,show v 18=(0:Int) from aa hs 18 rfl];rfl
 have k66:v 66=0:=by rw [show v 66=b2i (v 65 != (0:Int)) from aa hs 66 rfl,show v 65=(0:Int) from aa hs 65 rfl];rfl
 have f51:v 51=b2i (v 50 != (0:Int)):=aa hs 51 rfl;have f100:v 100=b2i (v 99 != (0:Int)):=aa hs 100 rfl;have z156:v 156=0:=ax (X:=cxS [a,b,c,d,n]) (v:=v) (l:=fP) (il _) hs (k:=156) (r:=.c 0) (ps:=[(19,.c 0),(66,.c 0)]) (nz:=[]) (ae k19 (ae k66 av)) aA (by kernel_rfl)
 have z176:v 176=v 141:=dE (X:=cxS [a,b,c,d,n]) (v:=v) (l:=fP) (il _) hs (k:=176) (j:=141) (ps:=[(19,.c 0),(66,.c 0)]) (ae k19 (ae k66 av)) (by kernel_rfl)
 have z177:v 177=v 154:=dE (X:=cxS [a,b,c,d,n]) (v:=v) (l:=fP) (il _) hs (k:=177) (j:=154) (ps:=[(19,.c 0),(66,.c 0)]) (ae k19 (ae k66 av)) (by kernel_rfl)
 have m83:v 83=min (v 33) (v 80):=iK (aa hs 83 rfl);have m84:v 84=max (v 34) (v 81):=fG (aa hs 84 rfl);rw [w33,w80] at m83;rw [w34,w81] at m84;have y132:v 132=v 84-v 83:=by rw [show v 132=IntKind.i64.wrap (v 84-v 83) from aa hs 132 rfl,Go.IntWalk.i64_in _ (by omega)]
 have y133:v 133=(v 84-v 83)*60000:=by rw [show v 133=IntKind.i64.wrap (v 132*(60000:Int)) from aa hs 133 rfl,y132,Go.IntWalk.i64_in _ (by omega)]
 have y141:v 141=wrH (wR a b S02 S03 0) (wR a b S02 S03 1) (wR a b S12 S13 0) (wR a b S12 S13 1):=by
  rw [iI (x:=v 133) (m:=4294967296) (y:=v 134) (q:=v 135) (r:=v 136) (c:=v 137) (s:=v 138) (t:=v 140) (z:=v 141) (by omega) (by omega) (aa hs 134 rfl) (aa hs 135 rfl) (aa hs 136 rfl) (aa hs 137 rfl) (aa hs 138 rfl) (aa hs 140 rfl) (aa hs 141 rfl),y133,m83,m84];rfl
 have f154:v 154=if v 152≠0 then (10800000:Int) else v 150:=aa hs 154 rfl
 have f152:v 152=if v 110≠0 then (1:Int) else v 151:=aa hs 152 rfl
 have y154:v 154=wrZ (wQ a b S00 S01 S02 S03 0) (wQ a b S00 S01 S02 S03 1) (wQ a b S00 S01 S02 S03 2) (wQ a b S10 S11 S12 S13 0) (wQ a b S10 S11 S12 S13 1) (wQ a b S10 S11 S12 S13 2):=by
  unfold wrZ
  by_cases q0:wQ a b S00 S01 S02 S03 2=0
  . have k51:v 51=0:=by rw [f51,w50,q0];rfl
    by_cases q1:wQ a b S10 S11 S12 S13 2=0
    . have k100:v 100=0:=by rw [f100,w99,q1];rfl
      rw [if_neg (by omega)]
      have z110:v 110=0:=ax (X:=cxS [a,b,c,d,n]) (v:=v) (l:=fP) (il _) hs (k:=110) (r:=.c 0) (ps:=[(19,.c 0),(51,.c 0),(66,.c 0),(100,.c 0)]) (nz:=[]) (ae k19 (ae k51 (ae k66 (ae k100 av)))) aA (by kernel_rfl)
      have z111:v 111=v 105:=dE (X:=cxS [a,b,c,d,n]) (v:=v) (l:=fP) (il _) hs (k:=111) (j:=105) (ps:=[(19,.c 0),(51,.c 0),(66,.c 0),(100,.c 0)]) (ae k19 (ae k51 (ae k66 (ae k100 av)))) (by kernel_rfl)
      have z112:v 112=v 106:=dE (X:=cxS [a,b,c,d,n]) (v:=v) (l:=fP) (il _) hs (k:=112) (j:=106) (ps:=[(19,.c 0),(51,.c 0),(66,.c 0),(100,.c 0)]) (ae k19 (ae k51 (ae k66 (ae k100 av)))) (by kernel_rfl)
      have z102:v 102=v 48:=dE (X:=cxS [a,b,c,d,n]) (v:=v) (l:=fP) (il _) hs (k:=102) (j:=48) (ps:=[(19,.c 0),(51,.c 0),(66,.c 0),(100,.c 0)]) (ae k19 (ae k51 (ae k66 (ae k100 av)))) (by kernel_rfl)
      have z103:v 103=v 49:=dE (X:=cxS [a,b,c,d,n]) (v:=v) (l:=fP) (il _) hs (k:=103) (j:=49) (ps:=[(19,.c 0),(51,.c 0),(66,.c 0),(100,.c 0)]) (ae k19 (ae k51 (ae k66 (ae k100 av)))) (by kernel_rfl)
      have m105:v 105=min (v 102) (v 97):=iK (aa hs 105 rfl);have m106:v 106=max (v 103) (v 98):=fG (aa hs 106 rfl);rw [z102,w48,w97] at m105;rw [z103,w49,w98] at m106;have y142:v 142=v 106-v 105:=by rw [show v 142=IntKind.i64.wrap (v 112-v 111) from aa hs 142 rfl,z111,z112,Go.IntWalk.i64_in _ (by omega)]
      have y150:v 150=wrT (wQ a b S00 S01 S02 S03 0) (wQ a b S00 S01 S02 S03 1) (wQ a b S10 S11 S12 S13 0) (wQ a b S10 S11 S12 S13 1):=by
       rw [iI (x:=v 142) (m:=4) (y:=v 143) (q:=v 144) (r:=v 145) (c:=v 146) (s:=v 147) (t:=v 149) (z:=v 150) (by omega) (by omega) (aa hs 143 rfl) (aa hs 144 rfl) (aa hs 145 rfl) (aa hs 146 rfl) (aa hs 147 rfl) (aa hs 149 rfl) (aa hs 150 rfl),y142,m105,m106];rfl
      have k152:v 152=v 151:=by rw [f152,if_neg (by omega)]
      rw [f154,k152,show v 151=b2i (decide (v 150>(10800000:Int))) from aa hs 151 rfl,y150]
      by_cases q:wrT (wQ a b S00 S01 S02 S03 0) (wQ a b S00 S01 S02 S03 1) (wQ a b S10 S11 S12 S13 0) (wQ a b S10 S11 S12 S13 1)>10800000<;>simp [q,b2i]
    . have k100:v 100=1:=by rw [f100,w99,show (wQ a b S10 S11 S12 S13 2 != (0:Int))=true from by simp [q1]];rfl
      rw [if_pos (.inr q1)];have z110:v 110=1:=ax (X:=cxS [a,b,c,d,n]) (v:=v) (l:=fP) (il _) hs (k:=110) (r:=.c 1) (ps:=[(19,.c 0),(66,.c 0),(100,.c 1)]) (nz:=[]) (ae k19 (ae k66 (ae k100 av))) aA (by kernel_rfl)
      rw [f154,f152,z110];rfl
  . have k51:v 51=1:=by rw [f51,w50,show (wQ a b S00 S01 S02 S03 2 != (0:Int))=true from by simp [q0]];rfl
    rw [if_pos (.inl q0)];have z110:v 110=1:=ax (X:=cxS [a,b,c,d,n]) (v:=v) (l:=fP) (il _) hs (k:=110) (r:=.c 1) (ps:=[(19,.c 0),(51,.c 1),(66,.c 0)]) (nz:=[]) (ae k19 (ae k51 (ae k66 av))) aA (by kernel_rfl)
    rw [f154,f152,z110];rfl
 refine ⟨aS ?_,?_⟩
 . exact ag (fun _=>(show bf (v 0) (v 1)=true by rw [e0,e1];exact A1)) (ag (fun _=>(show bf (v 0) (v 1)=true by rw [e0,e1];exact A1)) (ag (fun _=>(show gy (v 0) (v 1) (v 2) (v 3) (v 12) (v 13) by rw [e0,e1,e2,e3,w12,w13];exact T0)) (ag (fun _=>(show bf (v 16) (v 17)=true by rw [w16,w17,aV];omega)) (ag (fun _=>(show bf (v 16) (v 17)=true by rw [w16,w17,aV];omega)) (ag (fun _=>(show bf (v 14) (v 15)=true by rw [w14,w15,aV];omega)) (ag (fun _=>(show bf (v 14) (v 15)=true by rw [w14,w15,aV];omega)) (ag (fun _=>(show fxV (v 8) (v 9)=true/\fxV (v 21) (v 22)=true by rw [w8,w9,w21,w22];exact ⟨iX _ _,iX _ _⟩)) (ag (fun _=>(show fxV (v 5) (v 6)=true/\fxV (v 30) (v 31)=true by rw [w5,w6,w30,w31];exact ⟨iX _ _,iX _ _⟩)) (ag (fun _=>(show fxV (v 8) (v 9)=true/\fxV (v 27) (v 28)=true by rw [w8,w9,w27,w28];exact ⟨iX _ _,iX _ _⟩)) (ag (fun _=>(show fxV (v 39) (v 40)=true/\fxV (v 24) (v 25)=true by rw [w39,w40,w24,w25];exact ⟨(nW _ _).2.2,iX _ _⟩)) (ag (fun _=>(show fxV (v 36) (v 37)=true/\fxV (v 42) (v 43)=true by rw [w36,w37,w42,w43];exact ⟨(nW _ _).2.2,(nW _ _).2.2⟩)) (ag (fun _=>(show qoP (v 45) (v 46) (v 30) (v 31) 60000 by rw [w45,w46,w30,w31];exact ⟨(nW _ _).2.2,iX _ _,J6 _ _ (by omega),by decide,by decide⟩)) (ag (fun _=>(show gy (v 0) (v 1) (v 2) (v 3) (v 59) (v 60) by rw [e0,e1,e2,e3,w59,w60];exact T1)) (ag (fun _=>(show bf (v 63) (v 64)=true by rw [w63,w64,aV];omega)) (ag (fun _=>(show bf (v 63) (v 64)=true by rw [w63,w64,aV];omega)) (ag (fun _=>(show bf (v 61) (v 62)=true by rw [w61,w62,aV];omega)) (ag (fun _=>(show bf (v 61) (v 62)=true by rw [w61,w62,aV];omega)) (ag (fun _=>(show fxV (v 8) (v 9)=true/\fxV (v 68) (v 69)=true by rw [w8,w9,w68,w69];exact ⟨iX _ _,iX _ _⟩)) (ag (fun _=>(show fxV (v 5) (v 6)=true/\fxV (v 77) (v 78)=true by rw [w5,w6,w77,w78];exact ⟨iX _ _,iX _ _⟩)) (ag (fun _=>(show fxV (v 8) (v 9)=true/\fxV (v 74) (v 75)=true by rw [w8,w9,w74,w75];exact ⟨iX _ _,iX _ _⟩)) (ag (fun _=>(show fxV (v 88) (v 89)=true/\fxV (v 71) (v 72)=true by rw [w88,w89,w71,w72];exact ⟨(nW _ _).2.2,iX _ _⟩)) (ag (fun _=>(show fxV (v 85) (v 86)=true/\fxV (v 91) (v 92)=true by rw [w85,w86,w91,w92];exact ⟨(nW _ _).2.2,(nW _ _).2.2⟩)) (ag (fun _=>(show qoP (v 94) (v 95) (v 77) (v 78) 60000 by rw [w94,w95,w77,w78];exact ⟨(nW _ _).2.2,iX _ _,J6 _ _ (by omega),by decide,by decide⟩)) (aR))))))))))))))))))))))))
 . intro x hx0;have hx':=bE (v:=v) (by rfl) hx0
   rw [hx'];show Value.tuple #[.agg #[.int .i64 (v 176),.int .i64 (v 177)],.int .i64 (v 156)]=_;rw [z176,z177,z156,y141,y154];unfold wrV;rw [hS00,hS01,hS02,hS03,hS10,hS11,hS12,hS13];rfl
end Go.Proofs.YtdbaccfgkacffaaGreat
namespace Go.Proofs.YtdbaccfgkacffaaGreat
open Go.RowKit Alm Sx
def Il:List Nd:=[.arg 0,.arg 1,.arg 2,.arg 3,.arg 4,.arg 5,.arg 6,.arg 7,.arg 8,.arg 9,.arg 10,.arg 11,.bin .sub .i64 (.c 60000) 10,.bin .mul .i64 0 12,.bin .mul .i64 4 10,.bin .add .i64 13 14,.bin .quo .i64 15 (.c 60000),.bin .rem .i64 15 (.c 60000),.bin .lss .i64 17 (.c 0),.bin .sub .i64 16 (.c 1),.ite 18 (.c 0) (.c 1),.ite 18 19 16,.bin .mul .i64 1 12,.bin .mul .i64 5 10,.bin .add .i64 22 23,.bin .sub .i64 (.c 0) 24,.bin .quo .i64 25 (.c 60000),.bin .rem .i64 25 (.c 60000),.bin .lss .i64 27 (.c 0),.bin .sub .i64 26 (.c 1),.ite 28 (.c 0) (.c 1),.ite 28 29 26,.bin .sub .i64 (.c 0) 31,.bin .sub .i64 (.c 60000) 11,.bin .mul .i64 0 33,.bin .mul .i64 4 11,.bin .add .i64 34 35,.bin .quo .i64 36 (.c 60000),.bin .rem .i64 36 (.c 60000),.bin .lss .i64 38 (.c 0),.bin .sub .i64 37 (.c 1),.ite 39 (.c 0) (.c 1),.ite 39 40 37,.bin .mul .i64 1 33,.bin .mul .i64 5 11,.bin .add .i64 43 44,.bin .sub .i64 (.c 0) 45,.bin .quo .i64 46 (.c 60000),.bin .rem .i64 46 (.c 60000),.bin .lss .i64 48 (.c 0),.bin .sub .i64 47 (.c 1),.ite 49 (.c 0) (.c 1),.ite 49 50 47,.bin .sub .i64 (.c 0) 52,.mn 21 42,.bin .sub .i64 54 8,.mx 32 53,.bin .add .i64 56 8,.bin .sub .i64 3 2,.bin .geq .i64 58 (.c 21600000),.ite 59 (.c 0) (.c 1),.bin .sub .i64 7 6,.bin .geq .i64 61 (.c 21600000),.ite 62 (.c 0) (.c 1),.ite 60 63 (.c 0),.bin .sub .i64 6 2,.bin .rem .i64 65 (.c 21600000),.bin .lss .i64 66 (.c 0),.bin .add .i64 66 (.c 21600000),.ite 67 (.c 0) (.c 1),.ite 67 68 66,.bin .geq .i64 70 (.c 10800000),.bin .sub .i64 70 (.c 21600000),.ite 71 (.c 0) (.c 1),.ite 71 72 70,.bin .add .i64 2 74,.bin .add .i64 75 7,.bin .sub .i64 76 6,.bin .mul .i64 2 12,.bin .mul .i64 75 10,.bin .add .i64 78 79,.bin .quo .i64 80 (.c 60000),.bin .rem .i64 80 (.c 60000),.bin .lss .i64 82 (.c 0),.bin .sub .i64 81 (.c 1),.ite 83 (.c 0) (.c 1),.ite 83 84 81,.bin .mul .i64 3 12,.bin .mul .i64 77 10,.bin .add .i64 87 88,.bin .sub .i64 (.c 0) 89,.bin .quo .i64 90 (.c 60000),.bin .rem .i64 90 (.c 60000),.bin .lss .i64 92 (.c 0),.bin .sub .i64 91 (.c 1),.ite 93 (.c 0) (.c 1),.ite 93 94 91,.bin .sub .i64 (.c 0) 96,.bin .mul .i64 2 33,.bin .mul .i64 75 11,.bin .add .i64 98 99,.bin .quo .i64 100 (.c 60000),.bin .rem .i64 100 (.c 60000),.bin .lss .i64 102 (.c 0),.bin .sub .i64 101 (.c 1),.ite 103 (.c 0) (.c 1),.ite 103 104 101,.bin .mul .i64 3 33,.bin .mul .i64 77 11,.bin .add .i64 107 108,.bin .sub .i64 (.c 0) 109,.bin .quo .i64 110 (.c 60000),.bin .rem .i64 110 (.c 60000),.bin .lss .i64 112 (.c 0),.bin .sub .i64 111 (.c 1),.ite 113 (.c 0) (.c 1),.ite 113 114 111,.bin .sub .i64 (.c 0) 116,.mn 86 106,.bin .sub .i64 118 9,.mx 97 117,.bin .add .i64 120 9,.bin .sub .i64 121 119,.bin .geq .i64 122 (.c 21600000),.ite 123 (.c 0) (.c 1),.bin .rem .i64 119 (.c 21600000),.bin .lss .i64 125 (.c 0),.bin .add .i64 125 (.c 21600000),.ite 126 (.c 0) (.c 1),.ite 126 127 125,.bin .add .i64 129 121,.bin .sub .i64 130 119,.ite 123 (.c 0) 129,.ite 123 (.c 21600000) 131,.ite 64 (.c 0) (.c 1),.ite 64 132 (.c 0),.ite 64 133 (.c 21600000)]
def Vb:List Vc:=[]
theorem Uy:whole Tryz.prog [] 20 40 49 [(true,[some .i64,some .i64,some .i64,some .i64]),(true,[some .i64,some .i64,some .i64,some .i64]),(true,[some .i64,some .i64]),(true,[some .i64,some .i64])]=some (.p (.agg [.int .i64 (.n 55),.int .i64 (.n 57),.int .i64 (.n 135),.int .i64 (.n 136)]),⟨Il.reverse,Vb.reverse⟩):=by kernel_rfl
theorem Ua:wfN Il.reverse=true:=by kernel_rfl
theorem zM (a0 a1 a2 a3 b0 b1 b2 b3 f g u v1:Int) (w:World) (h:hrP a0 a1 a2 a3 b0 b1 b2 b3 f g u v1):Calls Tryz.prog 49 #[.agg #[.int .i64 a0,.int .i64 a1,.int .i64 a2,.int .i64 a3],.agg #[.int .i64 b0,.int .i64 b1,.int .i64 b2,.int .i64 b3],.agg #[.int .i64 f,.int .i64 g],.agg #[.int .i64 u,.int .i64 v1]] w fun e w'=>e=.returned (.agg #[.int .i64 ((hrV a0 a1 a2 a3 b0 b1 b2 b3 f g u v1).getD 0 0),.int .i64 ((hrV a0 a1 a2 a3 b0 b1 b2 b3 f g u v1).getD 1 0),.int .i64 ((hrV a0 a1 a2 a3 b0 b1 b2 b3 f g u v1).getD 2 0),.int .i64 ((hrV a0 a1 a2 a3 b0 b1 b2 b3 f g u v1).getD 3 0)])/\Below w.heap.size w w':=by
 refine Sx.calls (X:=cxE [a0,a1,a2,a3,b0,b1,b2,b3,f,g,u,v1]) dG (fun s hs=>by cases hs) Uy Ua (fun v hs=>?_) w
 have e0:v 0=a0:=aa hs 0 rfl;have e1:v 1=a1:=aa hs 1 rfl;have e2:v 2=a2:=aa hs 2 rfl;have e3:v 3=a3:=aa hs 3 rfl;have e4:v 4=b0:=aa hs 4 rfl;have e5:v 5=b1:=aa hs 5 rfl;have e6:v 6=b2:=aa hs 6 rfl;have e7:v 7=b3:=aa hs 7 rfl;have e8:v 8=f:=aa hs 8 rfl;have e9:v 9=g:=aa hs 9 rfl;have e10:v 10=u:=aa hs 10 rfl;have e11:v 11=v1:=aa hs 11 rfl;have hv:hrP (v 0) (v 1) (v 2) (v 3) (v 4) (v 5) (v 6) (v 7) (v 8) (v 9) (v 10) (v 11):=by rw [e0,e1,e2,e3,e4,e5,e6,e7,e8,e9,e10,e11];exact h
 obtain ⟨⟨ha0,ha1,ha2,ha3⟩,⟨hb0,hb1,hb2,hb3⟩,⟨hf,hg⟩,hu,hw⟩:=hv;unfold hrQ at ha0 ha1 ha2 ha3 hb0 hb1 hb2 hb3 hf hg;clear e0 e1 e2 e3 e4 e5 e6 e7 e8 e9 e10 e11 h;have s15:=dw (a:=v 0) (b:=v 4) (u:=v 10) (w:=v 12) (p:=v 13) (q:=v 14) (s:=v 15) (by omega) (by omega) (by omega) (aa hs 12 rfl) (aa hs 13 rfl) (aa hs 14 rfl) (aa hs 15 rfl)
 have f21:v 21=atF (v 0) (v 4) (v 10):=by rw [bW (x:=v 15) (m:=60000) (q:=v 16) (r:=v 17) (c:=v 18) (s:=v 19) (z:=v 21) (by omega) (by omega) (aa hs 16 rfl) (aa hs 17 rfl) (aa hs 18 rfl) (aa hs 19 rfl) (aa hs 21 rfl),s15.1];rfl
 have s24:=dw (a:=v 1) (b:=v 5) (u:=v 10) (w:=v 12) (p:=v 22) (q:=v 23) (s:=v 24) (by omega) (by omega) (by omega) (aa hs 12 rfl) (aa hs 22 rfl) (aa hs 23 rfl) (aa hs 24 rfl)
 have f32:v 32=atC (v 1) (v 5) (v 10):=by rw [iI (x:=v 24) (m:=60000) (y:=v 25) (q:=v 26) (r:=v 27) (c:=v 28) (s:=v 29) (t:=v 31) (z:=v 32) (by omega) (by omega) (aa hs 25 rfl) (aa hs 26 rfl) (aa hs 27 rfl) (aa hs 28 rfl) (aa hs 29 rfl) (aa hs 31 rfl) (aa hs 32 rfl),s24.1];rfl
 have s36:=dw (a:=v 0) (b:=v 4) (u:=v 11) (w:=v 33) (p:=v 34) (q:=v 35) (s:=v 36) (by omega) (by omega) (by omega) (aa hs 33 rfl) (aa hs 34 rfl) (aa hs 35 rfl) (aa hs 36 rfl)
 have f42:v 42=atF (v 0) (v 4) (v 11):=by rw [bW (x:=v 36) (m:=60000) (q:=v 37) (r:=v 38) (c:=v 39) (s:=v 40) (z:=v 42) (by omega) (by omega) (aa hs 37 rfl) (aa hs 38 rfl) (aa hs 39 rfl) (aa hs 40 rfl) (aa hs 42 rfl),s36.1];rfl
 have s45:=dw (a:=v 1) (b:=v 5) (u:=v 11) (w:=v 33) (p:=v 43) (q:=v 44) (s:=v 45) (by omega) (by omega) (by omega) (aa hs 33 rfl) (aa hs 43 rfl) (aa hs 44 rfl) (aa hs 45 rfl)
 have f53:v 53=atC (v 1) (v 5) (v 11):=by rw [iI (x:=v 45) (m:=60000) (y:=v 46) (q:=v 47) (r:=v 48) (c:=v 49) (s:=v 50) (t:=v 52) (z:=v 53) (by omega) (by omega) (aa hs 46 rfl) (aa hs 47 rfl) (aa hs 48 rfl) (aa hs 49 rfl) (aa hs 50 rfl) (aa hs 52 rfl) (aa hs 53 rfl),s45.1];rfl
 have w58:v 58=v 3-v 2:=by rw [show v 58=IntKind.i64.wrap (v 3-v 2) from aa hs 58 rfl,Go.IntWalk.i64_in _ (by omega)]
 have w61:v 61=v 7-v 6:=by rw [show v 61=IntKind.i64.wrap (v 7-v 6) from aa hs 61 rfl,Go.IntWalk.i64_in _ (by omega)]
 have w64:v 64=b2i (decide (hrB (v 2) (v 3) (v 6) (v 7))):=by
  rw [show v 64=if v 60≠0 then v 63 else (0:Int) from aa hs 64 rfl,show v 60=if v 59≠0 then (0:Int) else (1:Int) from aa hs 60 rfl,show v 63=if v 62≠0 then (0:Int) else (1:Int) from aa hs 63 rfl,show v 59=b2i (decide (v 58>=(21600000:Int))) from aa hs 59 rfl,show v 62=b2i (decide (v 61>=(21600000:Int))) from aa hs 62 rfl,w58,w61]
  unfold hrB
  by_cases q1:v 3-v 2>=21600000<;>by_cases q2:v 7-v 6>=21600000<;>simp [q1,q2,b2i]
 have w65:v 65=v 6-v 2:=by rw [show v 65=IntKind.i64.wrap (v 6-v 2) from aa hs 65 rfl,Go.IntWalk.i64_in _ (by omega)]
 have w70:v 70=v 65%21600000:=dK (r:=v 66) (c:=v 67) (s:=v 68) (by omega) (aa hs 66 rfl) (aa hs 67 rfl) (aa hs 68 rfl) (aa hs 70 rfl)
 have w74:=De (x:=v 65) (w:=v 70) (g:=v 71) (s:=v 72) (z:=v 74) w70 (aa hs 71 rfl) (aa hs 72 rfl) (aa hs 74 rfl)
 have w75:v 75=v 2+sgt (v 6-v 2)/\-200000000<=v 75/\v 75<=200000000:=by
  have q:v 75=v 2+v 74:=by rw [show v 75=IntKind.i64.wrap (v 2+v 74) from aa hs 75 rfl,Go.IntWalk.i64_in _ (by omega)]
  refine ⟨?_,by omega,by omega⟩
  rw [q,w74.1,w65]
 have w77:v 77=v 2+sgt (v 6-v 2)+v 7-v 6/\-500000000<=v 77/\v 77<=500000000:=by
  have q:v 76=v 75+v 7:=by rw [show v 76=IntKind.i64.wrap (v 75+v 7) from aa hs 76 rfl,Go.IntWalk.i64_in _ (by omega)]
  have q2:v 77=v 76-v 6:=by rw [show v 77=IntKind.i64.wrap (v 76-v 6) from aa hs 77 rfl,Go.IntWalk.i64_in _ (by omega)]
  refine ⟨?_,by omega,by omega⟩
  rw [q2,q,w75.1]
 have s80:=dw (a:=v 2) (b:=v 75) (u:=v 10) (w:=v 12) (p:=v 78) (q:=v 79) (s:=v 80) (by omega) (by omega) (by omega) (aa hs 12 rfl) (aa hs 78 rfl) (aa hs 79 rfl) (aa hs 80 rfl)
 have f86:v 86=atF (v 2) (v 75) (v 10):=by rw [bW (x:=v 80) (m:=60000) (q:=v 81) (r:=v 82) (c:=v 83) (s:=v 84) (z:=v 86) (by omega) (by omega) (aa hs 81 rfl) (aa hs 82 rfl) (aa hs 83 rfl) (aa hs 84 rfl) (aa hs 86 rfl),s80.1];rfl
 have s89:=dw (a:=v 3) (b:=v 77) (u:=v 10) (w:=v 12) (p:=v 87) (q:=v 88) (s:=v 89) (by omega) (by omega) (by omega) (aa hs 12 rfl) (aa hs 87 rfl) (aa hs 88 rfl) (aa hs 89 rfl)
 have f97:v 97=atC (v 3) (v 77) (v 10):=by rw [iI (x:=v 89) (m:=60000) (y:=v 90) (q:=v 91) (r:=v 92) (c:=v 93) (s:=v 94) (t:=v 96) (z:=v 97) (by omega) (by omega) (aa hs 90 rfl) (aa hs 91 rfl) (aa hs 92 rfl) (aa hs 93 rfl) (aa hs 94 rfl) (aa hs 96 rfl) (aa hs 97 rfl),s89.1];rfl
 have s100:=dw (a:=v 2) (b:=v 75) (u:=v 11) (w:=v 33) (p:=v 98) (q:=v 99) (s:=v 100) (by omega) (by omega) (by omega) (aa hs 33 rfl) (aa hs 98 rfl) (aa hs 99 rfl) (aa hs 100 rfl)
 have f106:v 106=atF (v 2) (v 75) (v 11):=by rw [bW (x:=v 100) (m:=60000) (q:=v 101) (r:=v 102) (c:=v 103) (s:=v 104) (z:=v 106) (by omega) (by omega) (aa hs 101 rfl) (aa hs 102 rfl) (aa hs 103 rfl) (aa hs 104 rfl) (aa hs 106 rfl),s100.1];rfl
 have s109:=dw (a:=v 3) (b:=v 77) (u:=v 11) (w:=v 33) (p:=v 107) (q:=v 108) (s:=v 109) (by omega) (by omega) (by omega) (aa hs 33 rfl) (aa hs 107 rfl) (aa hs 108 rfl) (aa hs 109 rfl)
 have f117:v 117=atC (v 3) (v 77) (v 11):=by rw [iI (x:=v 109) (m:=60000) (y:=v 110) (q:=v 111) (r:=v 112) (c:=v 113) (s:=v 114) (t:=v 116) (z:=v 117) (by omega) (by omega) (aa hs 110 rfl) (aa hs 111 rfl) (aa hs 112 rfl) (aa hs 113 rfl) (aa hs 114 rfl) (aa hs 116 rfl) (aa hs 117 rfl),s109.1];rfl
 have d0_4_10:=eU (a:=v 0) (b:=v 4) (u:=v 10) (by omega) (by omega) (by omega)
 have d0_4_11:=eU (a:=v 0) (b:=v 4) (u:=v 11) (by omega) (by omega) (by omega)
 have d1_5_10:=eU (a:=v 1) (b:=v 5) (u:=v 10) (by omega) (by omega) (by omega)
 have d1_5_11:=eU (a:=v 1) (b:=v 5) (u:=v 11) (by omega) (by omega) (by omega)
 have d2_75_10:=eU (a:=v 2) (b:=v 75) (u:=v 10) (by omega) (by omega) (by omega)
 have d2_75_11:=eU (a:=v 2) (b:=v 75) (u:=v 11) (by omega) (by omega) (by omega)
 have d3_77_10:=eU (a:=v 3) (b:=v 77) (u:=v 10) (by omega) (by omega) (by omega)
 have d3_77_11:=eU (a:=v 3) (b:=v 77) (u:=v 11) (by omega) (by omega) (by omega)
 have m54:v 54=min (v 21) (v 42):=iK (aa hs 54 rfl);have m118:v 118=min (v 86) (v 106):=iK (aa hs 118 rfl);have m56:v 56=max (v 32) (v 53):=fG (aa hs 56 rfl);have m120:v 120=max (v 97) (v 117):=fG (aa hs 120 rfl);rw [f21,f42] at m54;rw [f32,f53] at m56;rw [f86,f106] at m118;rw [f97,f117] at m120;have z55:v 55=ovL (v 0) (v 4) (v 10) (v 11) (v 8):=by rw [show v 55=IntKind.i64.wrap (v 54-v 8) from aa hs 55 rfl,m54,Go.IntWalk.i64_in _ (by omega)];rfl
 have z57:v 57=ovH (v 1) (v 5) (v 10) (v 11) (v 8):=by rw [show v 57=IntKind.i64.wrap (v 56+v 8) from aa hs 57 rfl,m56,Go.IntWalk.i64_in _ (by omega)];rfl
 have z119:v 119=hrL (v 2) (v 6) (v 10) (v 11) (v 9)/\-2000000000<=v 119/\v 119<=2000000000:=by
  have q:v 119=v 118-v 9:=by rw [show v 119=IntKind.i64.wrap (v 118-v 9) from aa hs 119 rfl,Go.IntWalk.i64_in _ (by omega)]
  refine ⟨?_,by omega,by omega⟩
  rw [q,m118,w75.1];rfl
 have z121:v 121=hrH (v 2) (v 3) (v 6) (v 7) (v 10) (v 11) (v 9)/\-2000000000<=v 121/\v 121<=2000000000:=by
  have q:v 121=v 120+v 9:=by rw [show v 121=IntKind.i64.wrap (v 120+v 9) from aa hs 121 rfl,Go.IntWalk.i64_in _ (by omega)]
  refine ⟨?_,by omega,by omega⟩
  rw [q,m120,w77.1];rfl
 have w122:v 122=v 121-v 119:=by rw [show v 122=IntKind.i64.wrap (v 121-v 119) from aa hs 122 rfl,Go.IntWalk.i64_in _ (by omega)]
 have w123:v 123=b2i (decide (v 121-v 119>=(21600000:Int))):=by rw [show v 123=b2i (decide (v 122>=(21600000:Int))) from aa hs 123 rfl,w122]
 have w129:v 129=v 119%21600000:=dK (r:=v 125) (c:=v 126) (s:=v 127) (by omega) (aa hs 125 rfl) (aa hs 126 rfl) (aa hs 127 rfl) (aa hs 129 rfl)
 have w131:v 131=v 119%21600000+(v 121-v 119):=by
  have q:v 130=v 129+v 121:=by rw [show v 130=IntKind.i64.wrap (v 129+v 121) from aa hs 130 rfl,Go.IntWalk.i64_in _ (by omega)]
  rw [show v 131=IntKind.i64.wrap (v 130-v 119) from aa hs 131 rfl,Go.IntWalk.i64_in _ (by omega)];omega
 have x133:v 133=trH (v 119) (v 121):=by
  rw [show v 133=if v 123≠0 then (21600000:Int) else v 131 from aa hs 133 rfl,w123,w131]
  unfold trH
  by_cases q:v 121-v 119>=21600000<;>simp [q,b2i]
 have x132:v 132=trL (v 119) (v 121):=by
  rw [show v 132=if v 123≠0 then (0:Int) else v 129 from aa hs 132 rfl,w123,w129]
  unfold trL
  by_cases q:v 121-v 119>=21600000<;>simp [q,b2i]
 have x135:v 135=if hrB (v 2) (v 3) (v 6) (v 7) then trL (hrL (v 2) (v 6) (v 10) (v 11) (v 9)) (hrH (v 2) (v 3) (v 6) (v 7) (v 10) (v 11) (v 9)) else 0:=by
  rw [show v 135=if v 64≠0 then v 132 else (0:Int) from aa hs 135 rfl,w64,x132,z119.1,z121.1]
  by_cases q:hrB (v 2) (v 3) (v 6) (v 7)<;>simp [q,b2i]
 have x136:v 136=if hrB (v 2) (v 3) (v 6) (v 7) then trH (hrL (v 2) (v 6) (v 10) (v 11) (v 9)) (hrH (v 2) (v 3) (v 6) (v 7) (v 10) (v 11) (v 9)) else 21600000:=by
  rw [show v 136=if v 64≠0 then v 133 else (21600000:Int) from aa hs 136 rfl,w64,x133,z119.1,z121.1]
  by_cases q:hrB (v 2) (v 3) (v 6) (v 7)<;>simp [q,b2i]
 refine ⟨aS ?_,?_⟩
 . exact aR
 . intro x hx0;have hx':=bE (v:=v) (by rfl) hx0
   rw [hx'];show Value.agg #[.int .i64 (v 55),.int .i64 (v 57),.int .i64 (v 135),.int .i64 (v 136)]=_;rw [z55,z57,x135,x136];have E:hrV (v 0) (v 1) (v 2) (v 3) (v 4) (v 5) (v 6) (v 7) (v 8) (v 9) (v 10) (v 11)=hrV a0 a1 a2 a3 b0 b1 b2 b3 f g u v1:=by rw [show v 0=a0 from aa hs 0 rfl,show v 1=a1 from aa hs 1 rfl,show v 2=a2 from aa hs 2 rfl,show v 3=a3 from aa hs 3 rfl,show v 4=b0 from aa hs 4 rfl,show v 5=b1 from aa hs 5 rfl,show v 6=b2 from aa hs 6 rfl,show v 7=b3 from aa hs 7 rfl,show v 8=f from aa hs 8 rfl,show v 9=g from aa hs 9 rfl,show v 10=u from aa hs 10 rfl,show v 11=v1 from aa hs 11 rfl]
   rw [<-E];rfl
def Iz:List Nd:=[.arg 0,.arg 1,.arg 2,.arg 3,.arg 4,.arg 5,.arg 6,.arg 7,.arg 8,.arg 9,.arg 10,.arg 11,.bin .sub .i64 (.c 60000) 8,.bin .mul .i64 0 12,.bin .mul .i64 4 8,.bin .add .i64 13 14,.bin .mul .i64 1 12,.bin .mul .i64 5 8,.bin .add .i64 16 17,.bin .quo .i64 15 (.c 60000),.bin .rem .i64 15 (.c 60000),.bin .lss .i64 20 (.c 0),.bin .sub .i64 19 (.c 1),.ite 21 (.c 0) (.c 1),.ite 21 22 19,.bin .quo .i64 18 (.c 60000),.bin .rem .i64 18 (.c 60000),.bin .gtr .i64 26 (.c 0),.bin .add .i64 25 (.c 1),.ite 27 (.c 0) (.c 1),.ite 27 28 25,.bin .sub .i64 (.c 60000) 9,.bin .mul .i64 0 31,.bin .mul .i64 4 9,.bin .add .i64 32 33,.bin .mul .i64 1 31,.bin .mul .i64 5 9,.bin .add .i64 35 36,.bin .quo .i64 34 (.c 60000),.bin .rem .i64 34 (.c 60000),.bin .lss .i64 39 (.c 0),.bin .sub .i64 38 (.c 1),.ite 40 (.c 0) (.c 1),.ite 40 41 38,.bin .quo .i64 37 (.c 60000),.bin .rem .i64 37 (.c 60000),.bin .gtr .i64 45 (.c 0),.bin .add .i64 44 (.c 1),.ite 46 (.c 0) (.c 1),.ite 46 47 44,.bin .lss .i64 43 24,.ite 50 (.c 0) (.c 1),.ite 50 43 24,.bin .gtr .i64 49 30,.ite 53 (.c 0) (.c 1),.ite 53 49 30,.bin .sub .i64 52 10,.bin .add .i64 55 10,.bin .sub .i64 3 2,.bin .geq .i64 58 (.c 21600000),.ite 59 (.c 0) (.c 1),.bin .sub .i64 7 6,.bin .geq .i64 61 (.c 21600000),.ite 62 (.c 0) (.c 1),.ite 60 63 (.c 0),.bin .sub .i64 6 2,.bin .rem .i64 65 (.c 21600000),.bin .lss .i64 66 (.c 0),.bin .add .i64 66 (.c 21600000),.ite 67 (.c 0) (.c 1),.ite 67 68 66,.bin .geq .i64 70 (.c 10800000),.bin .sub .i64 70 (.c 21600000),.ite 71 (.c 0) (.c 1),.ite 71 72 70,.bin .add .i64 2 74,.bin .add .i64 75 7,.bin .sub .i64 76 6,.bin .mul .i64 2 12,.bin .mul .i64 75 8,.bin .add .i64 78 79,.bin .mul .i64 3 12,.bin .mul .i64 77 8,.bin .add .i64 81 82,.bin .quo .i64 80 (.c 60000),.bin .rem .i64 80 (.c 60000),.bin .lss .i64 85 (.c 0),.bin .sub .i64 84 (.c 1),.ite 86 (.c 0) (.c 1),.ite 86 87 84,.bin .quo .i64 83 (.c 60000),.bin .rem .i64 83 (.c 60000),.bin .gtr .i64 91 (.c 0),.bin .add .i64 90 (.c 1),.ite 92 (.c 0) (.c 1),.ite 92 93 90,.bin .mul .i64 2 31,.bin .mul .i64 75 9,.bin .add .i64 96 97,.bin .mul .i64 3 31,.bin .mul .i64 77 9,.bin .add .i64 99 100,.bin .quo .i64 98 (.c 60000),.bin .rem .i64 98 (.c 60000),.bin .lss .i64 103 (.c 0),.bin .sub .i64 102 (.c 1),.ite 104 (.c 0) (.c 1),.ite 104 105 102,.bin .quo .i64 101 (.c 60000),.bin .rem .i64 101 (.c 60000),.bin .gtr .i64 109 (.c 0),.bin .add .i64 108 (.c 1),.ite 110 (.c 0) (.c 1),.ite 110 111 108,.bin .lss .i64 107 89,.ite 114 (.c 0) (.c 1),.ite 114 107 89,.bin .gtr .i64 113 95,.ite 117 (.c 0) (.c 1),.ite 117 113 95,.bin .sub .i64 116 11,.bin .add .i64 119 11,.bin .sub .i64 121 120,.bin .geq .i64 122 (.c 21600000),.ite 123 (.c 0) (.c 1),.bin .rem .i64 120 (.c 21600000),.bin .lss .i64 125 (.c 0),.bin .add .i64 125 (.c 21600000),.ite 126 (.c 0) (.c 1),.ite 126 127 125,.bin .add .i64 129 122,.ite 123 (.c 0) 129,.ite 123 (.c 21600000) 130,.ite 64 (.c 0) (.c 1),.ite 64 131 (.c 0),.ite 64 132 (.c 21600000)]
def Vv:List Vc:=[]
theorem Sn:whole Tryz.prog [] 20 40 57 [(true,[some .i64,some .i64,some .i64,some .i64]),(true,[some .i64,some .i64,some .i64,some .i64]),(true,[some .i64,some .i64]),(false,[some .i64]),(false,[some .i64])]=some (.p (.agg [.int .i64 (.n 56),.int .i64 (.n 57),.int .i64 (.n 134),.int .i64 (.n 135)]),⟨Iz.reverse,Vv.reverse⟩):=by kernel_rfl
theorem VK:wfN Iz.reverse=true:=by kernel_rfl
theorem JM (a0 a1 a2 a3 b0 b1 b2 b3 u v1 f g:Int) (w:World) (h:hrP a0 a1 a2 a3 b0 b1 b2 b3 f g u v1):Calls Tryz.prog 57 #[.agg #[.int .i64 a0,.int .i64 a1,.int .i64 a2,.int .i64 a3],.agg #[.int .i64 b0,.int .i64 b1,.int .i64 b2,.int .i64 b3],.agg #[.int .i64 u,.int .i64 v1],.int .i64 f,.int .i64 g] w fun e w'=>e=.returned (.agg #[.int .i64 ((hrV a0 a1 a2 a3 b0 b1 b2 b3 f g u v1).getD 0 0),.int .i64 ((hrV a0 a1 a2 a3 b0 b1 b2 b3 f g u v1).getD 1 0),.int .i64 ((hrV a0 a1 a2 a3 b0 b1 b2 b3 f g u v1).getD 2 0),.int .i64 ((hrV a0 a1 a2 a3 b0 b1 b2 b3 f g u v1).getD 3 0)])/\Below w.heap.size w w':=by
 refine Sx.calls (X:=cxE [a0,a1,a2,a3,b0,b1,b2,b3,u,v1,f,g]) dG (fun s hs=>by cases hs) Sn VK (fun v hs=>?_) w
 have e0:v 0=a0:=aa hs 0 rfl;have e1:v 1=a1:=aa hs 1 rfl;have e2:v 2=a2:=aa hs 2 rfl;have e3:v 3=a3:=aa hs 3 rfl;have e4:v 4=b0:=aa hs 4 rfl;have e5:v 5=b1:=aa hs 5 rfl;have e6:v 6=b2:=aa hs 6 rfl;have e7:v 7=b3:=aa hs 7 rfl;have e8:v 8=u:=aa hs 8 rfl;have e9:v 9=v1:=aa hs 9 rfl;have e10:v 10=f:=aa hs 10 rfl;have e11:v 11=g:=aa hs 11 rfl;have hv:hrP (v 0) (v 1) (v 2) (v 3) (v 4) (v 5) (v 6) (v 7) (v 10) (v 11) (v 8) (v 9):=by rw [e0,e1,e2,e3,e4,e5,e6,e7,e8,e9,e10,e11];exact h
 obtain ⟨⟨ha0,ha1,ha2,ha3⟩,⟨hb0,hb1,hb2,hb3⟩,⟨hf,hg⟩,hu,hw⟩:=hv;unfold hrQ at ha0 ha1 ha2 ha3 hb0 hb1 hb2 hb3 hf hg;clear e0 e1 e2 e3 e4 e5 e6 e7 e8 e9 e10 e11 h;have s15:=dw (a:=v 0) (b:=v 4) (u:=v 8) (w:=v 12) (p:=v 13) (q:=v 14) (s:=v 15) (by omega) (by omega) (by omega) (aa hs 12 rfl) (aa hs 13 rfl) (aa hs 14 rfl) (aa hs 15 rfl)
 have f24:v 24=atF (v 0) (v 4) (v 8):=by rw [bW (x:=v 15) (m:=60000) (q:=v 19) (r:=v 20) (c:=v 21) (s:=v 22) (z:=v 24) (by omega) (by omega) (aa hs 19 rfl) (aa hs 20 rfl) (aa hs 21 rfl) (aa hs 22 rfl) (aa hs 24 rfl),s15.1];rfl
 have s18:=dw (a:=v 1) (b:=v 5) (u:=v 8) (w:=v 12) (p:=v 16) (q:=v 17) (s:=v 18) (by omega) (by omega) (by omega) (aa hs 12 rfl) (aa hs 16 rfl) (aa hs 17 rfl) (aa hs 18 rfl)
 have f30:v 30=atC (v 1) (v 5) (v 8):=by rw [jT (x:=v 18) (m:=60000) (q:=v 25) (r:=v 26) (c:=v 27) (s:=v 28) (z:=v 30) (by omega) (by omega) (aa hs 25 rfl) (aa hs 26 rfl) (aa hs 27 rfl) (aa hs 28 rfl) (aa hs 30 rfl),s18.1];rfl
 have s34:=dw (a:=v 0) (b:=v 4) (u:=v 9) (w:=v 31) (p:=v 32) (q:=v 33) (s:=v 34) (by omega) (by omega) (by omega) (aa hs 31 rfl) (aa hs 32 rfl) (aa hs 33 rfl) (aa hs 34 rfl)
 have f43:v 43=atF (v 0) (v 4) (v 9):=by rw [bW (x:=v 34) (m:=60000) (q:=v 38) (r:=v 39) (c:=v 40) (s:=v 41) (z:=v 43) (by omega) (by omega) (aa hs 38 rfl) (aa hs 39 rfl) (aa hs 40 rfl) (aa hs 41 rfl) (aa hs 43 rfl),s34.1];rfl
 have s37:=dw (a:=v 1) (b:=v 5) (u:=v 9) (w:=v 31) (p:=v 35) (q:=v 36) (s:=v 37) (by omega) (by omega) (by omega) (aa hs 31 rfl) (aa hs 35 rfl) (aa hs 36 rfl) (aa hs 37 rfl)
 have f49:v 49=atC (v 1) (v 5) (v 9):=by rw [jT (x:=v 37) (m:=60000) (q:=v 44) (r:=v 45) (c:=v 46) (s:=v 47) (z:=v 49) (by omega) (by omega) (aa hs 44 rfl) (aa hs 45 rfl) (aa hs 46 rfl) (aa hs 47 rfl) (aa hs 49 rfl),s37.1];rfl
 have w58:v 58=v 3-v 2:=by rw [show v 58=IntKind.i64.wrap (v 3-v 2) from aa hs 58 rfl,Go.IntWalk.i64_in _ (by omega)]
 have w61:v 61=v 7-v 6:=by rw [show v 61=IntKind.i64.wrap (v 7-v 6) from aa hs 61 rfl,Go.IntWalk.i64_in _ (by omega)]
 have w64:v 64=b2i (decide (hrB (v 2) (v 3) (v 6) (v 7))):=by
  rw [show v 64=if v 60≠0 then v 63 else (0:Int) from aa hs 64 rfl,show v 60=if v 59≠0 then (0:Int) else (1:Int) from aa hs 60 rfl,show v 63=if v 62≠0 then (0:Int) else (1:Int) from aa hs 63 rfl,show v 59=b2i (decide (v 58>=(21600000:Int))) from aa hs 59 rfl,show v 62=b2i (decide (v 61>=(21600000:Int))) from aa hs 62 rfl,w58,w61]
  unfold hrB
  by_cases q1:v 3-v 2>=21600000<;>by_cases q2:v 7-v 6>=21600000<;>simp [q1,q2,b2i]
 have w65:v 65=v 6-v 2:=by rw [show v 65=IntKind.i64.wrap (v 6-v 2) from aa hs 65 rfl,Go.IntWalk.i64_in _ (by omega)]
 have w70:v 70=v 65%21600000:=dK (r:=v 66) (c:=v 67) (s:=v 68) (by omega) (aa hs 66 rfl) (aa hs 67 rfl) (aa hs 68 rfl) (aa hs 70 rfl)
 have w74:=De (x:=v 65) (w:=v 70) (g:=v 71) (s:=v 72) (z:=v 74) w70 (aa hs 71 rfl) (aa hs 72 rfl) (aa hs 74 rfl)
 have w75:v 75=v 2+sgt (v 6-v 2)/\-200000000<=v 75/\v 75<=200000000:=by
  have q:v 75=v 2+v 74:=by rw [show v 75=IntKind.i64.wrap (v 2+v 74) from aa hs 75 rfl,Go.IntWalk.i64_in _ (by omega)]
  refine ⟨?_,by omega,by omega⟩
  rw [q,w74.1,w65]
 have w77:v 77=v 2+sgt (v 6-v 2)+v 7-v 6/\-500000000<=v 77/\v 77<=500000000:=by
  have q:v 76=v 75+v 7:=by rw [show v 76=IntKind.i64.wrap (v 75+v 7) from aa hs 76 rfl,Go.IntWalk.i64_in _ (by omega)]
  have q2:v 77=v 76-v 6:=by rw [show v 77=IntKind.i64.wrap (v 76-v 6) from aa hs 77 rfl,Go.IntWalk.i64_in _ (by omega)]
  refine ⟨?_,by omega,by omega⟩
  rw [q2,q,w75.1]
 have s80:=dw (a:=v 2) (b:=v 75) (u:=v 8) (w:=v 12) (p:=v 78) (q:=v 79) (s:=v 80) (by omega) (by omega) (by omega) (aa hs 12 rfl) (aa hs 78 rfl) (aa hs 79 rfl) (aa hs 80 rfl)
 have f89:v 89=atF (v 2) (v 75) (v 8):=by rw [bW (x:=v 80) (m:=60000) (q:=v 84) (r:=v 85) (c:=v 86) (s:=v 87) (z:=v 89) (by omega) (by omega) (aa hs 84 rfl) (aa hs 85 rfl) (aa hs 86 rfl) (aa hs 87 rfl) (aa hs 89 rfl),s80.1];rfl
 have s83:=dw (a:=v 3) (b:=v 77) (u:=v 8) (w:=v 12) (p:=v 81) (q:=v 82) (s:=v 83) (by omega) (by omega) (by omega) (aa hs 12 rfl) (aa hs 81 rfl) (aa hs 82 rfl) (aa hs 83 rfl)
 have f95:v 95=atC (v 3) (v 77) (v 8):=by rw [jT (x:=v 83) (m:=60000) (q:=v 90) (r:=v 91) (c:=v 92) (s:=v 93) (z:=v 95) (by omega) (by omega) (aa hs 90 rfl) (aa hs 91 rfl) (aa hs 92 rfl) (aa hs 93 rfl) (aa hs 95 rfl),s83.1];rfl
 have s98:=dw (a:=v 2) (b:=v 75) (u:=v 9) (w:=v 31) (p:=v 96) (q:=v 97) (s:=v 98) (by omega) (by omega) (by omega) (aa hs 31 rfl) (aa hs 96 rfl) (aa hs 97 rfl) (aa hs 98 rfl)
 have f107:v 107=atF (v 2) (v 75) (v 9):=by rw [bW (x:=v 98) (m:=60000) (q:=v 102) (r:=v 103) (c:=v 104) (s:=v 105) (z:=v 107) (by omega) (by omega) (aa hs 102 rfl) (aa hs 103 rfl) (aa hs 104 rfl) (aa hs 105 rfl) (aa hs 107 rfl),s98.1];rfl
 have s101:=dw (a:=v 3) (b:=v 77) (u:=v 9) (w:=v 31) (p:=v 99) (q:=v 100) (s:=v 101) (by omega) (by omega) (by omega) (aa hs 31 rfl) (aa hs 99 rfl) (aa hs 100 rfl) (aa hs 101 rfl)
 have f113:v 113=atC (v 3) (v 77) (v 9):=by rw [jT (x:=v 101) (m:=60000) (q:=v 108) (r:=v 109) (c:=v 110) (s:=v 111) (z:=v 113) (by omega) (by omega) (aa hs 108 rfl) (aa hs 109 rfl) (aa hs 110 rfl) (aa hs 111 rfl) (aa hs 113 rfl),s101.1];rfl
 have d0_4_8:=eU (a:=v 0) (b:=v 4) (u:=v 8) (by omega) (by omega) (by omega)
 have d0_4_9:=eU (a:=v 0) (b:=v 4) (u:=v 9) (by omega) (by omega) (by omega)
 have d1_5_8:=eU (a:=v 1) (b:=v 5) (u:=v 8) (by omega) (by omega) (by omega)
 have d1_5_9:=eU (a:=v 1) (b:=v 5) (u:=v 9) (by omega) (by omega) (by omega)
 have d2_75_8:=eU (a:=v 2) (b:=v 75) (u:=v 8) (by omega) (by omega) (by omega)
 have d2_75_9:=eU (a:=v 2) (b:=v 75) (u:=v 9) (by omega) (by omega) (by omega)
 have d3_77_8:=eU (a:=v 3) (b:=v 77) (u:=v 8) (by omega) (by omega) (by omega)
 have d3_77_9:=eU (a:=v 3) (b:=v 77) (u:=v 9) (by omega) (by omega) (by omega)
 have m52:v 52=min (v 24) (v 43):=sV (aa hs 50 rfl) (aa hs 52 rfl);have m116:v 116=min (v 89) (v 107):=sV (aa hs 114 rfl) (aa hs 116 rfl);have m55:v 55=max (v 30) (v 49):=tF (aa hs 53 rfl) (aa hs 55 rfl);have m119:v 119=max (v 95) (v 113):=tF (aa hs 117 rfl) (aa hs 119 rfl);rw [f24,f43] at m52;rw [f30,f49] at m55;rw [f89,f107] at m116;rw [f95,f113] at m119;have z56:v 56=ovL (v 0) (v 4) (v 8) (v 9) (v 10):=by rw [show v 56=IntKind.i64.wrap (v 52-v 10) from aa hs 56 rfl,m52,Go.IntWalk.i64_in _ (by omega)];rfl
 have z57:v 57=ovH (v 1) (v 5) (v 8) (v 9) (v 10):=by rw [show v 57=IntKind.i64.wrap (v 55+v 10) from aa hs 57 rfl,m55,Go.IntWalk.i64_in _ (by omega)];rfl
 have z120:v 120=hrL (v 2) (v 6) (v 8) (v 9) (v 11)/\-2000000000<=v 120/\v 120<=2000000000:=by
  have q:v 120=v 116-v 11:=by rw [show v 120=IntKind.i64.wrap (v 116-v 11) from aa hs 120 rfl,Go.IntWalk.i64_in _ (by omega)]
  refine ⟨?_,by omega,by omega⟩
  rw [q,m116,w75.1];rfl
 have z121:v 121=hrH (v 2) (v 3) (v 6) (v 7) (v 8) (v 9) (v 11)/\-2000000000<=v 121/\v 121<=2000000000:=by
  have q:v 121=v 119+v 11:=by rw [show v 121=IntKind.i64.wrap (v 119+v 11) from aa hs 121 rfl,Go.IntWalk.i64_in _ (by omega)]
  refine ⟨?_,by omega,by omega⟩
  rw [q,m119,w77.1];rfl
 have w122:v 122=v 121-v 120:=by rw [show v 122=IntKind.i64.wrap (v 121-v 120) from aa hs 122 rfl,Go.IntWalk.i64_in _ (by omega)]
 have w123:v 123=b2i (decide (v 121-v 120>=(21600000:Int))):=by rw [show v 123=b2i (decide (v 122>=(21600000:Int))) from aa hs 123 rfl,w122]
 have w129:v 129=v 120%21600000:=dK (r:=v 125) (c:=v 126) (s:=v 127) (by omega) (aa hs 125 rfl) (aa hs 126 rfl) (aa hs 127 rfl) (aa hs 129 rfl)
 have w130:v 130=v 120%21600000+(v 121-v 120):=by rw [show v 130=IntKind.i64.wrap (v 129+v 122) from aa hs 130 rfl,w129,w122,Go.IntWalk.i64_in _ (by omega)]
 have x132:v 132=trH (v 120) (v 121):=by
  rw [show v 132=if v 123≠0 then (21600000:Int) else v 130 from aa hs 132 rfl,w123,w130]
  unfold trH
  by_cases q:v 121-v 120>=21600000<;>simp [q,b2i]
 have x131:v 131=trL (v 120) (v 121):=by
  rw [show v 131=if v 123≠0 then (0:Int) else v 129 from aa hs 131 rfl,w123,w129]
  unfold trL
  by_cases q:v 121-v 120>=21600000<;>simp [q,b2i]
 have x134:v 134=if hrB (v 2) (v 3) (v 6) (v 7) then trL (hrL (v 2) (v 6) (v 8) (v 9) (v 11)) (hrH (v 2) (v 3) (v 6) (v 7) (v 8) (v 9) (v 11)) else 0:=by
  rw [show v 134=if v 64≠0 then v 131 else (0:Int) from aa hs 134 rfl,w64,x131,z120.1,z121.1]
  by_cases q:hrB (v 2) (v 3) (v 6) (v 7)<;>simp [q,b2i]
 have x135:v 135=if hrB (v 2) (v 3) (v 6) (v 7) then trH (hrL (v 2) (v 6) (v 8) (v 9) (v 11)) (hrH (v 2) (v 3) (v 6) (v 7) (v 8) (v 9) (v 11)) else 21600000:=by
  rw [show v 135=if v 64≠0 then v 132 else (21600000:Int) from aa hs 135 rfl,w64,x132,z120.1,z121.1]
  by_cases q:hrB (v 2) (v 3) (v 6) (v 7)<;>simp [q,b2i]
 refine ⟨aS ?_,?_⟩
 . exact aR
 . intro x hx0;have hx':=bE (v:=v) (by rfl) hx0
   rw [hx'];show Value.agg #[.int .i64 (v 56),.int .i64 (v 57),.int .i64 (v 134),.int .i64 (v 135)]=_;rw [z56,z57,x134,x135];have E:hrV (v 0) (v 1) (v 2) (v 3) (v 4) (v 5) (v 6) (v 7) (v 10) (v 11) (v 8) (v 9)=hrV a0 a1 a2 a3 b0 b1 b2 b3 f g u v1:=by rw [show v 0=a0 from aa hs 0 rfl,show v 1=a1 from aa hs 1 rfl,show v 2=a2 from aa hs 2 rfl,show v 3=a3 from aa hs 3 rfl,show v 4=b0 from aa hs 4 rfl,show v 5=b1 from aa hs 5 rfl,show v 6=b2 from aa hs 6 rfl,show v 7=b3 from aa hs 7 rfl,show v 8=u from aa hs 8 rfl,show v 9=v1 from aa hs 9 rfl,show v 10=f from aa hs 10 rfl,show v 11=g from aa hs 11 rfl]
   rw [<-E];rfl
end Go.Proofs.YtdbaccfgkacffaaGreat
namespace Go.Proofs.YtdbaccfgkacffaaGreat
open Go.RowKit Alm Sx
theorem Qp:∀ n:Nat,n<=2700000->(n:Rat)*(1/10000000)<=zs n
 | 0,_=>by rw [gN];grind
 | n+1,h=>by
  have a:=Qp n (by omega)
  have b:=zs_up n (by omega)
  have c:((n+1:Nat):Rat)=(n:Rat)+1:=by norm_cast
  rw [c];clear h c;grind
theorem Zb (n:Nat) (h:n=300000):3/100<=zs n:=by
 have a:=Qp n (by omega)
 have c:(n:Rat)=300000:=by rw [h];rfl
 rw [c] at a;clear c h;grind
theorem OP (k:Int) (h:300000<=k/\k<=5400000):1<=cK k:=by
 have b:=(nN k.toNat (by omega)).2
 rw [Int.toNat_of_nonneg (by omega)] at b
 have z0:=Zb 300000 rfl;have e0:sS 300000=zs 300000:=by unfold sS;rw [if_neg (by omega),if_pos (by omega)]
 have m:zs 300000<=sS k.toNat:=by
  rw [<-e0]
  by_cases q:k=300000
  . rw [q];exact Rat.le_refl
  . exact Rat.le_of_lt (nk 300000 k.toNat (by omega) (by omega))
 generalize zs 300000=Z at *
 generalize sS k.toNat=T at *
 rw [fw] at b;refine Int.not_lt.1 fun hh=>?_
 have hs:cK k+(if dO k then 0 else 1)<=1:=by split<;>omega
 have hr:((cK k+(if dO k then 0 else 1):Int):Rat)<=((1:Int):Rat):=Rat.intCast_le_intCast.2 hs
 generalize ((cK k+(if dO k then 0 else 1):Int):Rat)=X at *
 have one:((1:Int):Rat)=1:=rfl;rw [one] at hr;clear hh hs h e0 one;grind
theorem Oz (m:Int) (h:60000<=m/\m<=5100000):1<=bI (m+5400000) (m+5400000):=by
 unfold bI
 have e1:d9 (m+5400000) (m+5400000) 16200000=false:=by
  unfold d9 au;simp;omega
 rw [e1,if_neg (by decide)]
 have e2:bLo (m+5400000)=cK (5400000-m):=by
  unfold bLo;have e3:dM (m+5400000)=false:=by unfold dM au;simp;omega
  have e4:aJ (m+5400000)=5400000-m:=by unfold aJ au;simp only [];split<;>split<;>omega
  rw [e3,e4];rfl
 rw [e2];have:=OP (5400000-m) (by omega)
 omega
theorem NM (m:Int):-1073741824<=bI m m/\bI m m<=bL m m/\bL m m<=1073741824:=by
 have:=U_S m m;unfold U uS at this;exact this
def dcQ (m:Int):List Int:=qoV (bI m m) (bL m m) (bI (m+5400000) (m+5400000)) (bL (m+5400000) (m+5400000)) 131
theorem H5 {x d:Int} (hx:-1073741824<=x/\x<=1073741824) (hd:1<=d):(-140660178944<=qFl x 131 d/\qFl x 131 d<=140660178944)/\(-140660178944<=qCe x 131 d/\qCe x 131 d<=140660178944):=by
 unfold qFl qCe
 have g:∀ y:Int,-140660178944<=y->y<=140660178944->-140660178944<=y/d/\y/d<=140660178944:=by
  intro y h1 h2;refine ⟨(Int.le_ediv_iff_mul_le (by omega)).2 ?_,?_⟩
  . have:=Int.mul_le_mul_of_nonneg_left hd (show (0:Int)<=140660178944 by omega);omega
  . have:y/d<140660178945:=(Int.ediv_lt_iff_lt_mul (by omega)).2 (by have:=Int.mul_le_mul_of_nonneg_left hd (show (0:Int)<=140660178945 by omega);omega)
    omega
 have a:=g (x*131) (by omega) (by omega)
 have b:=g (-(x*131)) (by omega) (by omega)
 omega
theorem Rx (m:Int) (h:60000<=m/\m<=5100000):(dcQ m).getD 2 0=0/\(-140660178944<=(dcQ m).getD 1 0/\(dcQ m).getD 1 0<=140660178944)/\qoP (bI m m) (bL m m) (bI (m+5400000) (m+5400000)) (bL (m+5400000) (m+5400000)) 131:=by
 have a:=NM m;have b:=NM (m+5400000);have c:=Oz m h;generalize hA:bI m m=A at *
 generalize hB:bL m m=B at *
 generalize hC:bI (m+5400000) (m+5400000)=C at *
 generalize hD:bL (m+5400000) (m+5400000)=D at *
 have q1:=H5 (x:=A) (d:=C) (by omega) (by omega)
 have q2:=H5 (x:=A) (d:=D) (by omega) (by omega)
 have q3:=H5 (x:=B) (d:=C) (by omega) (by omega)
 have q4:=H5 (x:=B) (d:=D) (by omega) (by omega)
 have L:-140660178944<=qoL A B C D 131/\qoL A B C D 131<=140660178944:=by unfold qoL;omega
 have Hh:-140660178944<=qoH A B C D 131/\qoH A B C D 131<=140660178944:=by unfold qoH;omega
 have f1:dQ (qoL A B C D 131)=true:=by unfold dQ;simp;omega
 have f2:dQ (qoH A B C D 131)=true:=by unfold dQ;simp;omega
 have e:dcQ m=[qoL A B C D 131,qoH A B C D 131,0]:=by
  unfold dcQ qoV;rw [hA,hB,hC,hD,if_neg (by omega),if_pos ⟨f1,f2⟩]
 rw [e];exact ⟨rfl,Hh,(cz _ _).2 (by omega),(cz _ _).2 (by omega),by omega,by omega,by omega⟩
def dcM (a0 a1 b0 b1:Int):Int:=max (max (max a1 (-a0)) b1) (-b0)+60000
def dcB (a2 a3 b2 b3:Int):Prop:=a3-a2>=21600000∨b3-b2>=21600000
instance (a2 a3 b2 b3:Int):Decidable (dcB a2 a3 b2 b3):=by unfold dcB;infer_instance
def cvW (a2 a3 b2 b3:Int):Int:=max (a3-a2) ((b2-a2)%21600000+b3-b2)
def dcF (a2 a3 b2 b3:Int):Int:=if cvW b2 b3 a2 a3<cvW a2 a3 b2 b3 then b2 else a2
def dcW (a2 a3 b2 b3:Int):Int:=if cvW b2 b3 a2 a3<cvW a2 a3 b2 b3 then cvW b2 b3 a2 a3 else cvW a2 a3 b2 b3
def dcL (a2 a3 b2 b3:Int):Int:=if dcB a2 a3 b2 b3 then 0 else if dcW a2 a3 b2 b3<10800000 then trL (dcF a2 a3 b2 b3) (dcF a2 a3 b2 b3+dcW a2 a3 b2 b3) else 0
def dcH (a2 a3 b2 b3:Int):Int:=if dcB a2 a3 b2 b3 then 21600000 else if dcW a2 a3 b2 b3<10800000 then trH (dcF a2 a3 b2 b3) (dcF a2 a3 b2 b3+dcW a2 a3 b2 b3) else 21600000
def dcV (a0 a1 a2 a3 b0 b1 b2 b3 u v:Int):List Int:=if dcM a0 a1 b0 b1>5100000 then [0,0,0,0,24] else [ovL a0 b0 u v ((dcQ (dcM a0 a1 b0 b1)).getD 1 0),ovH a1 b1 u v ((dcQ (dcM a0 a1 b0 b1)).getD 1 0),dcL a2 a3 b2 b3,dcH a2 a3 b2 b3,0]
def dcP (a0 a1 a2 a3 b0 b1 b2 b3 u v:Int):Prop:=(hrQ a0/\hrQ a1/\hrQ a2/\hrQ a3)/\(hrQ b0/\hrQ b1/\hrQ b2/\hrQ b3)/\a0<=a1/\b0<=b1/\(0<=u/\u<=60000)/\(0<=v/\v<=60000)
theorem kif {c x y z:Int} {P:Prop} [Decidable P] (ec:c=b2i (decide P)) (ez:z=if c≠0 then x else y):z=if P then x else y:=by
 rw [ez,ec];by_cases q:P<;>simp [q,b2i]
theorem qg {c x y z:Int} (hx:-1000000000<=x/\x<=1000000000) (ec:c=b2i (decide (x<0))) (ey:y=IntKind.i64.wrap (0-x)) (ez:z=if c≠0 then y else x):z=max x (-x):=by
 rw [Go.IntWalk.i64_in _ (by omega)] at ey
 by_cases q:x<0
 . rw [decide_eq_true q] at ec;rw [ez,ec,if_pos (by decide)];omega
 . rw [decide_eq_false q] at ec;rw [ez,ec,if_neg (by decide)];omega
theorem mf {c x y z:Int} (ec:c=b2i (decide (x<y))) (ez:z=if c≠0 then y else x):z=max x y:=by
 by_cases q:x<y
 . rw [decide_eq_true q] at ec;rw [ez,ec,if_pos (by decide)];omega
 . rw [decide_eq_false q] at ec;rw [ez,ec,if_neg (by decide)];omega
def II:List Nd:=[.arg 0,.arg 1,.arg 2,.arg 3,.arg 4,.arg 5,.arg 6,.arg 7,.arg 8,.arg 9,.bin .sub .i64 (.c 0) 0,.bin .sub .i64 (.c 0) 4,.mx 1 10,.mx 12 5,.mx 13 11,.bin .add .i64 14 (.c 60000),.bin .gtr .i64 15 (.c 5100000),.ite 16 (.c 0) (.c 1),.app 5 0 [15,15],.app 5 1 [15,15],.app 5 2 [15,15],.app 6 0 [15,15],.app 6 1 [15,15],.app 6 2 [15,15],.app 12 0 [18,19,21,22,.c 131],.app 12 1 [18,19,21,22,.c 131],.app 12 2 [18,19,21,22,.c 131],.bin .neq .i64 26 (.c 0),.ite 27 (.c 0) (.c 1),.bin .sub .i64 (.c 60000) 8,.bin .mul .i64 0 29,.bin .mul .i64 4 8,.bin .add .i64 30 31,.bin .quo .i64 32 (.c 60000),.bin .rem .i64 32 (.c 60000),.bin .lss .i64 34 (.c 0),.bin .sub .i64 33 (.c 1),.ite 35 (.c 0) (.c 1),.ite 35 36 33,.bin .mul .i64 1 29,.bin .mul .i64 5 8,.bin .add .i64 39 40,.bin .sub .i64 (.c 0) 41,.bin .quo .i64 42 (.c 60000),.bin .rem .i64 42 (.c 60000),.bin .lss .i64 44 (.c 0),.bin .sub .i64 43 (.c 1),.ite 45 (.c 0) (.c 1),.ite 45 46 43,.bin .sub .i64 (.c 0) 48,.bin .sub .i64 (.c 60000) 9,.bin .mul .i64 0 50,.bin .mul .i64 4 9,.bin .add .i64 51 52,.bin .quo .i64 53 (.c 60000),.bin .rem .i64 53 (.c 60000),.bin .lss .i64 55 (.c 0),.bin .sub .i64 54 (.c 1),.ite 56 (.c 0) (.c 1),.ite 56 57 54,.bin .mul .i64 1 50,.bin .mul .i64 5 9,.bin .add .i64 60 61,.bin .sub .i64 (.c 0) 62,.bin .quo .i64 63 (.c 60000),.bin .rem .i64 63 (.c 60000),.bin .lss .i64 65 (.c 0),.bin .sub .i64 64 (.c 1),.ite 66 (.c 0) (.c 1),.ite 66 67 64,.bin .sub .i64 (.c 0) 69,.mn 38 59,.bin .sub .i64 71 25,.mx 49 70,.bin .add .i64 73 25,.bin .sub .i64 3 2,.bin .geq .i64 75 (.c 21600000),.bin .sub .i64 7 6,.bin .geq .i64 77 (.c 21600000),.ite 76 (.c 1) 78,.ite 79 (.c 0) (.c 1),.bin .sub .i64 6 2,.bin .rem .i64 81 (.c 21600000),.bin .lss .i64 82 (.c 0),.bin .add .i64 82 (.c 21600000),.ite 83 (.c 0) (.c 1),.ite 83 84 82,.bin .add .i64 86 7,.bin .sub .i64 87 6,.mx 75 88,.bin .sub .i64 2 6,.bin .rem .i64 90 (.c 21600000),.bin .lss .i64 91 (.c 0),.bin .add .i64 91 (.c 21600000),.ite 92 (.c 0) (.c 1),.ite 92 93 91,.bin .add .i64 95 3,.bin .sub .i64 96 2,.mx 77 97,.bin .lss .i64 98 89,.ite 99 (.c 0) (.c 1),.ite 99 6 2,.ite 99 98 89,.bin .lss .i64 102 (.c 10800000),.bin .add .i64 101 102,.bin .sub .i64 104 101,.bin .geq .i64 105 (.c 21600000),.ite 106 (.c 0) (.c 1),.bin .rem .i64 101 (.c 21600000),.bin .lss .i64 108 (.c 0),.bin .add .i64 108 (.c 21600000),.ite 109 (.c 0) (.c 1),.ite 109 110 108,.bin .add .i64 112 104,.bin .sub .i64 113 101,.ite 106 (.c 0) 112,.ite 106 (.c 21600000) 114,.ite 103 (.c 0) (.c 1),.ite 103 115 (.c 0),.ite 103 116 (.c 21600000),.ite 79 (.c 0) 118,.ite 79 (.c 21600000) 119,.ite 27 26 (.c 0),.ite 27 (.c 0) 72,.ite 27 (.c 0) 74,.ite 27 (.c 0) 120,.ite 27 (.c 0) 121,.ite 16 (.c 24) 122,.ite 16 (.c 0) 123,.ite 16 (.c 0) 124,.ite 16 (.c 0) 125,.ite 16 (.c 0) 126]
def VC:List Vc:=[⟨[(17,true)],.pre 5 [15,15]⟩,⟨[(17,true)],.pre 6 [15,15]⟩,⟨[(17,true)],.pre 12 [18,19,21,22,.c 131]⟩]
theorem VD:whole Tryz.prog spQ 20 40 50 [(true,[some .i64,some .i64,some .i64,some .i64]),(true,[some .i64,some .i64,some .i64,some .i64]),(true,[some .i64,some .i64])]=some (.tup [.agg [.int .i64 (.n 128),.int .i64 (.n 129),.int .i64 (.n 130),.int .i64 (.n 131)],.c (.int .i64 (.n 127))],⟨II.reverse,VC.reverse⟩):=by kernel_rfl
theorem Vo:wfN II.reverse=true:=by kernel_rfl
theorem QD (a0 a1 a2 a3 b0 b1 b2 b3 u v1:Int) (w:World) (h:dcP a0 a1 a2 a3 b0 b1 b2 b3 u v1):Calls Tryz.prog 50 #[.agg #[.int .i64 a0,.int .i64 a1,.int .i64 a2,.int .i64 a3],.agg #[.int .i64 b0,.int .i64 b1,.int .i64 b2,.int .i64 b3],.agg #[.int .i64 u,.int .i64 v1]] w fun e w'=>e=.returned (.tuple #[.agg #[.int .i64 ((dcV a0 a1 a2 a3 b0 b1 b2 b3 u v1).getD 0 0),.int .i64 ((dcV a0 a1 a2 a3 b0 b1 b2 b3 u v1).getD 1 0),.int .i64 ((dcV a0 a1 a2 a3 b0 b1 b2 b3 u v1).getD 2 0),.int .i64 ((dcV a0 a1 a2 a3 b0 b1 b2 b3 u v1).getD 3 0)],.int .i64 ((dcV a0 a1 a2 a3 b0 b1 b2 b3 u v1).getD 4 0)])/\Below w.heap.size w w':=by
 refine Sx.calls (X:=cxF [a0,a1,a2,a3,b0,b1,b2,b3,u,v1]) dG (vE _) VD Vo (fun v hs=>?_) w
 have e0:v 0=a0:=aa hs 0 rfl;have e1:v 1=a1:=aa hs 1 rfl;have e2:v 2=a2:=aa hs 2 rfl;have e3:v 3=a3:=aa hs 3 rfl;have e4:v 4=b0:=aa hs 4 rfl;have e5:v 5=b1:=aa hs 5 rfl;have e6:v 6=b2:=aa hs 6 rfl;have e7:v 7=b3:=aa hs 7 rfl;have e8:v 8=u:=aa hs 8 rfl;have e9:v 9=v1:=aa hs 9 rfl;have hv:dcP (v 0) (v 1) (v 2) (v 3) (v 4) (v 5) (v 6) (v 7) (v 8) (v 9):=by rw [e0,e1,e2,e3,e4,e5,e6,e7,e8,e9];exact h
 obtain ⟨⟨ha0,ha1,ha2,ha3⟩,⟨hb0,hb1,hb2,hb3⟩,hA,hB,hu,hw⟩:=hv;unfold hrQ at ha0 ha1 ha2 ha3 hb0 hb1 hb2 hb3;clear e0 e1 e2 e3 e4 e5 e6 e7 e8 e9 h;have w10:v 10=-v 0:=by rw [show v 10=IntKind.i64.wrap ((0:Int)-v 0) from aa hs 10 rfl,Go.IntWalk.i64_in _ (by omega)];omega
 have w11:v 11=-v 4:=by rw [show v 11=IntKind.i64.wrap ((0:Int)-v 4) from aa hs 11 rfl,Go.IntWalk.i64_in _ (by omega)];omega
 have w15:v 15=dcM (v 0) (v 1) (v 4) (v 5):=by
  have q12:v 12=max (v 1) (v 10):=fG (aa hs 12 rfl);have q13:v 13=max (v 12) (v 5):=fG (aa hs 13 rfl);have q14:v 14=max (v 13) (v 11):=fG (aa hs 14 rfl);rw [show v 15=IntKind.i64.wrap (v 14+(60000:Int)) from aa hs 15 rfl,Go.IntWalk.i64_in _ (by omega),q14,q13,q12,w10,w11];rfl
 have s32:=dw (a:=v 0) (b:=v 4) (u:=v 8) (w:=v 29) (p:=v 30) (q:=v 31) (s:=v 32) (by omega) (by omega) (by omega) (aa hs 29 rfl) (aa hs 30 rfl) (aa hs 31 rfl) (aa hs 32 rfl)
 have f38:v 38=atF (v 0) (v 4) (v 8):=by rw [bW (x:=v 32) (m:=60000) (q:=v 33) (r:=v 34) (c:=v 35) (s:=v 36) (z:=v 38) (by omega) (by omega) (aa hs 33 rfl) (aa hs 34 rfl) (aa hs 35 rfl) (aa hs 36 rfl) (aa hs 38 rfl),s32.1];rfl
 have s41:=dw (a:=v 1) (b:=v 5) (u:=v 8) (w:=v 29) (p:=v 39) (q:=v 40) (s:=v 41) (by omega) (by omega) (by omega) (aa hs 29 rfl) (aa hs 39 rfl) (aa hs 40 rfl) (aa hs 41 rfl)
 have f49:v 49=atC (v 1) (v 5) (v 8):=by rw [iI (x:=v 41) (m:=60000) (y:=v 42) (q:=v 43) (r:=v 44) (c:=v 45) (s:=v 46) (t:=v 48) (z:=v 49) (by omega) (by omega) (aa hs 42 rfl) (aa hs 43 rfl) (aa hs 44 rfl) (aa hs 45 rfl) (aa hs 46 rfl) (aa hs 48 rfl) (aa hs 49 rfl),s41.1];rfl
 have s53:=dw (a:=v 0) (b:=v 4) (u:=v 9) (w:=v 50) (p:=v 51) (q:=v 52) (s:=v 53) (by omega) (by omega) (by omega) (aa hs 50 rfl) (aa hs 51 rfl) (aa hs 52 rfl) (aa hs 53 rfl)
 have f59:v 59=atF (v 0) (v 4) (v 9):=by rw [bW (x:=v 53) (m:=60000) (q:=v 54) (r:=v 55) (c:=v 56) (s:=v 57) (z:=v 59) (by omega) (by omega) (aa hs 54 rfl) (aa hs 55 rfl) (aa hs 56 rfl) (aa hs 57 rfl) (aa hs 59 rfl),s53.1];rfl
 have s62:=dw (a:=v 1) (b:=v 5) (u:=v 9) (w:=v 50) (p:=v 60) (q:=v 61) (s:=v 62) (by omega) (by omega) (by omega) (aa hs 50 rfl) (aa hs 60 rfl) (aa hs 61 rfl) (aa hs 62 rfl)
 have f70:v 70=atC (v 1) (v 5) (v 9):=by rw [iI (x:=v 62) (m:=60000) (y:=v 63) (q:=v 64) (r:=v 65) (c:=v 66) (s:=v 67) (t:=v 69) (z:=v 70) (by omega) (by omega) (aa hs 63 rfl) (aa hs 64 rfl) (aa hs 65 rfl) (aa hs 66 rfl) (aa hs 67 rfl) (aa hs 69 rfl) (aa hs 70 rfl),s62.1];rfl
 have d0_4_8:=eU (a:=v 0) (b:=v 4) (u:=v 8) (by omega) (by omega) (by omega)
 have d0_4_9:=eU (a:=v 0) (b:=v 4) (u:=v 9) (by omega) (by omega) (by omega)
 have d1_5_8:=eU (a:=v 1) (b:=v 5) (u:=v 8) (by omega) (by omega) (by omega)
 have d1_5_9:=eU (a:=v 1) (b:=v 5) (u:=v 9) (by omega) (by omega) (by omega)
 clear s32 s41 s53 s62;have w75:v 75=v 3-v 2:=by rw [show v 75=IntKind.i64.wrap (v 3-v 2) from aa hs 75 rfl,Go.IntWalk.i64_in _ (by omega)]
 have w77:v 77=v 7-v 6:=by rw [show v 77=IntKind.i64.wrap (v 7-v 6) from aa hs 77 rfl,Go.IntWalk.i64_in _ (by omega)]
 have w79:v 79=b2i (decide (dcB (v 2) (v 3) (v 6) (v 7))):=by
  rw [show v 79=if v 76≠0 then (1:Int) else v 78 from aa hs 79 rfl,show v 76=b2i (decide (v 75>=(21600000:Int))) from aa hs 76 rfl,show v 78=b2i (decide (v 77>=(21600000:Int))) from aa hs 78 rfl,w75,w77]
  unfold dcB
  by_cases q1:v 3-v 2>=21600000<;>by_cases q2:v 7-v 6>=21600000<;>simp [q1,q2,b2i]
 have w81:v 81=v 6-v 2:=by rw [show v 81=IntKind.i64.wrap (v 6-v 2) from aa hs 81 rfl,Go.IntWalk.i64_in _ (by omega)]
 have w86:v 86=v 81%21600000:=dK (r:=v 82) (c:=v 83) (s:=v 84) (by omega) (aa hs 82 rfl) (aa hs 83 rfl) (aa hs 84 rfl) (aa hs 86 rfl)
 have w87:v 87=v 86+v 7:=by rw [show v 87=IntKind.i64.wrap (v 86+v 7) from aa hs 87 rfl,Go.IntWalk.i64_in _ (by omega)]
 have w88:v 88=v 87-v 6:=by rw [show v 88=IntKind.i64.wrap (v 87-v 6) from aa hs 88 rfl,Go.IntWalk.i64_in _ (by omega)]
 have w90:v 90=v 2-v 6:=by rw [show v 90=IntKind.i64.wrap (v 2-v 6) from aa hs 90 rfl,Go.IntWalk.i64_in _ (by omega)]
 have w95:v 95=v 90%21600000:=dK (r:=v 91) (c:=v 92) (s:=v 93) (by omega) (aa hs 91 rfl) (aa hs 92 rfl) (aa hs 93 rfl) (aa hs 95 rfl)
 have w96:v 96=v 95+v 3:=by rw [show v 96=IntKind.i64.wrap (v 95+v 3) from aa hs 96 rfl,Go.IntWalk.i64_in _ (by omega)]
 have w97:v 97=v 96-v 2:=by rw [show v 97=IntKind.i64.wrap (v 96-v 2) from aa hs 97 rfl,Go.IntWalk.i64_in _ (by omega)]
 have c89:v 89=cvW (v 2) (v 3) (v 6) (v 7)/\-1000000000<=v 89/\v 89<=1000000000:=by
  have q:v 89=max (v 75) (v 88):=fG (aa hs 89 rfl);refine ⟨?_,by omega,by omega⟩
  rw [q];unfold cvW;omega
 have c98:v 98=cvW (v 6) (v 7) (v 2) (v 3)/\-1000000000<=v 98/\v 98<=1000000000:=by
  have q:v 98=max (v 77) (v 97):=fG (aa hs 98 rfl);refine ⟨?_,by omega,by omega⟩
  rw [q];unfold cvW;omega
 have w99:v 99=b2i (decide (cvW (v 6) (v 7) (v 2) (v 3)<cvW (v 2) (v 3) (v 6) (v 7))):=by rw [show v 99=b2i (decide (v 98<v 89)) from aa hs 99 rfl,c98.1,c89.1]
 have w101:v 101=dcF (v 2) (v 3) (v 6) (v 7):=kif (x:=v 6) (y:=v 2) w99 (aa hs 101 rfl);have F2:v 101=v 6∨v 101=v 2:=by rw [w101];unfold dcF;split;exact .inl rfl;exact .inr rfl
 have w102:v 102=dcW (v 2) (v 3) (v 6) (v 7):=by
  have q:v 102=if cvW (v 6) (v 7) (v 2) (v 3)<cvW (v 2) (v 3) (v 6) (v 7) then v 98 else v 89:=kif w99 (aa hs 102 rfl)
  rw [q,c98.1,c89.1];rfl
 have W2:v 102=v 98∨v 102=v 89:=by rw [show v 102=if v 99≠0 then v 98 else v 89 from aa hs 102 rfl];split;exact .inl rfl;exact .inr rfl
 have bc1:=c89.2;have bc2:=c98.2;have w104:v 104=v 101+v 102:=by rw [show v 104=IntKind.i64.wrap (v 101+v 102) from aa hs 104 rfl,Go.IntWalk.i64_in _ (by omega)]
 have w105:v 105=v 102:=by rw [show v 105=IntKind.i64.wrap (v 104-v 101) from aa hs 105 rfl,w104,Go.IntWalk.i64_in _ (by omega)];omega
 have w106:v 106=b2i (decide (v 101+v 102-v 101>=(21600000:Int))):=by rw [show v 106=b2i (decide (v 105>=(21600000:Int))) from aa hs 106 rfl,w105,show v 101+v 102-v 101=v 102 by omega]
 have w112:v 112=v 101%21600000:=dK (r:=v 108) (c:=v 109) (s:=v 110) (by omega) (aa hs 108 rfl) (aa hs 109 rfl) (aa hs 110 rfl) (aa hs 112 rfl)
 have w113:v 113=v 112+v 104:=by rw [show v 113=IntKind.i64.wrap (v 112+v 104) from aa hs 113 rfl,Go.IntWalk.i64_in _ (by omega)]
 have w114:v 114=v 101%21600000+(v 101+v 102-v 101):=by rw [show v 114=IntKind.i64.wrap (v 113-v 101) from aa hs 114 rfl,Go.IntWalk.i64_in _ (by omega)];omega
 have x115:v 115=trL (v 101) (v 101+v 102):=by
  have q:v 115=if v 101+v 102-v 101>=21600000 then 0 else v 112:=kif w106 (aa hs 115 rfl)
  rw [q,w112];rfl
 have x116:v 116=trH (v 101) (v 101+v 102):=by
  have q:v 116=if v 101+v 102-v 101>=21600000 then 21600000 else v 114:=kif w106 (aa hs 116 rfl)
  rw [q,w114];rfl
 have w103:v 103=b2i (decide (dcW (v 2) (v 3) (v 6) (v 7)<10800000)):=by rw [show v 103=b2i (decide (v 102<(10800000:Int))) from aa hs 103 rfl,w102]
 have y118:v 118=if dcW (v 2) (v 3) (v 6) (v 7)<10800000 then v 115 else 0:=kif w103 (aa hs 118 rfl)
 have y119:v 119=if dcW (v 2) (v 3) (v 6) (v 7)<10800000 then v 116 else 21600000:=kif w103 (aa hs 119 rfl)
 have x120:v 120=dcL (v 2) (v 3) (v 6) (v 7):=by
  have q:v 120=if dcB (v 2) (v 3) (v 6) (v 7) then 0 else v 118:=kif w79 (aa hs 120 rfl)
  rw [q,y118,x115,w101,w102];rfl
 have x121:v 121=dcH (v 2) (v 3) (v 6) (v 7):=by
  have q:v 121=if dcB (v 2) (v 3) (v 6) (v 7) then 21600000 else v 119:=kif w79 (aa hs 121 rfl)
  rw [q,y119,x116,w101,w102];rfl
 have wb:v 16=b2i (decide (dcM (v 0) (v 1) (v 4) (v 5)>5100000)):=by rw [show v 16=b2i (decide (v 15>(5100000:Int))) from aa hs 16 rfl,w15]
 have mlo:60000<=dcM (v 0) (v 1) (v 4) (v 5):=by unfold dcM;omega
 have fq:∀ i,i<3->v (24+i)=(dcQ (dcM (v 0) (v 1) (v 4) (v 5))).getD i 0:=by
  intro i hi
  match i,hi with
  | 0,_ =>
   show v 24=_;rw [show v 24=(qoV (v 18) (v 19) (v 21) (v 22) 131).getD 0 0 from aa hs 24 rfl,show v 18=bI (v 15) (v 15) from aa hs 18 rfl,show v 19=bL (v 15) (v 15) from aa hs 19 rfl,show v 21=bI (v 15+5400000) (v 15+5400000) from aa hs 21 rfl,show v 22=bL (v 15+5400000) (v 15+5400000) from aa hs 22 rfl,w15];rfl
  | 1,_ =>
   show v 25=_;rw [show v 25=(qoV (v 18) (v 19) (v 21) (v 22) 131).getD 1 0 from aa hs 25 rfl,show v 18=bI (v 15) (v 15) from aa hs 18 rfl,show v 19=bL (v 15) (v 15) from aa hs 19 rfl,show v 21=bI (v 15+5400000) (v 15+5400000) from aa hs 21 rfl,show v 22=bL (v 15+5400000) (v 15+5400000) from aa hs 22 rfl,w15];rfl
  | 2,_ =>
   show v 26=_;rw [show v 26=(qoV (v 18) (v 19) (v 21) (v 22) 131).getD 2 0 from aa hs 26 rfl,show v 18=bI (v 15) (v 15) from aa hs 18 rfl,show v 19=bL (v 15) (v 15) from aa hs 19 rfl,show v 21=bI (v 15+5400000) (v 15+5400000) from aa hs 21 rfl,show v 22=bL (v 15+5400000) (v 15+5400000) from aa hs 22 rfl,w15];rfl
 have f1:v 25=(dcQ (dcM (v 0) (v 1) (v 4) (v 5))).getD 1 0:=fq 1 (by decide)
 have f2:v 26=(dcQ (dcM (v 0) (v 1) (v 4) (v 5))).getD 2 0:=fq 2 (by decide)
 clear fq;have m71:v 71=min (v 38) (v 59):=iK (aa hs 71 rfl);have m73:v 73=max (v 49) (v 70):=fG (aa hs 73 rfl);rw [f38,f59] at m71;rw [f49,f70] at m73
 have Z:v 128=(dcV (v 0) (v 1) (v 2) (v 3) (v 4) (v 5) (v 6) (v 7) (v 8) (v 9)).getD 0 0/\v 129=(dcV (v 0) (v 1) (v 2) (v 3) (v 4) (v 5) (v 6) (v 7) (v 8) (v 9)).getD 1 0/\v 130=(dcV (v 0) (v 1) (v 2) (v 3) (v 4) (v 5) (v 6) (v 7) (v 8) (v 9)).getD 2 0/\v 131=(dcV (v 0) (v 1) (v 2) (v 3) (v 4) (v 5) (v 6) (v 7) (v 8) (v 9)).getD 3 0/\v 127=(dcV (v 0) (v 1) (v 2) (v 3) (v 4) (v 5) (v 6) (v 7) (v 8) (v 9)).getD 4 0:=by
  unfold dcV
  by_cases hb:dcM (v 0) (v 1) (v 4) (v 5)>5100000
  . rw [if_pos hb];have k:v 16=1:=by rw [wb,decide_eq_true hb];rfl
    refine ⟨?_,?_,?_,?_,?_⟩
    . rw [show v 128=if v 16≠0 then (0:Int) else v 123 from aa hs 128 rfl,if_pos (by omega)];rfl
    . rw [show v 129=if v 16≠0 then (0:Int) else v 124 from aa hs 129 rfl,if_pos (by omega)];rfl
    . rw [show v 130=if v 16≠0 then (0:Int) else v 125 from aa hs 130 rfl,if_pos (by omega)];rfl
    . rw [show v 131=if v 16≠0 then (0:Int) else v 126 from aa hs 131 rfl,if_pos (by omega)];rfl
    . rw [show v 127=if v 16≠0 then (24:Int) else v 122 from aa hs 127 rfl,if_pos (by omega)];rfl
  . rw [if_neg hb];have k:v 16=0:=by rw [wb,decide_eq_false hb];rfl
    have Q:=Rx _ ⟨mlo,by omega⟩
    rw [<-f1,<-f2] at Q;have zL:v 72=ovL (v 0) (v 4) (v 8) (v 9) (v 25):=by rw [show v 72=IntKind.i64.wrap (v 71-v 25) from aa hs 72 rfl,m71,Go.IntWalk.i64_in _ (by omega)];rfl
    have zH:v 74=ovH (v 1) (v 5) (v 8) (v 9) (v 25):=by rw [show v 74=IntKind.i64.wrap (v 73+v 25) from aa hs 74 rfl,m73,Go.IntWalk.i64_in _ (by omega)];rfl
    rw [f1] at zL zH;have ke:v 27=0:=by rw [show v 27=b2i (v 26 != (0:Int)) from aa hs 27 rfl,Q.1];rfl
    refine ⟨?_,?_,?_,?_,?_⟩
    . rw [show v 128=if v 16≠0 then (0:Int) else v 123 from aa hs 128 rfl,if_neg (by omega),show v 123=if v 27≠0 then (0:Int) else v 72 from aa hs 123 rfl,if_neg (by omega),zL];rfl
    . rw [show v 129=if v 16≠0 then (0:Int) else v 124 from aa hs 129 rfl,if_neg (by omega),show v 124=if v 27≠0 then (0:Int) else v 74 from aa hs 124 rfl,if_neg (by omega),zH];rfl
    . rw [show v 130=if v 16≠0 then (0:Int) else v 125 from aa hs 130 rfl,if_neg (by omega),show v 125=if v 27≠0 then (0:Int) else v 120 from aa hs 125 rfl,if_neg (by omega),x120];rfl
    . rw [show v 131=if v 16≠0 then (0:Int) else v 126 from aa hs 131 rfl,if_neg (by omega),show v 126=if v 27≠0 then (0:Int) else v 121 from aa hs 126 rfl,if_neg (by omega),x121];rfl
    . rw [show v 127=if v 16≠0 then (24:Int) else v 122 from aa hs 127 rfl,if_neg (by omega),show v 122=if v 27≠0 then v 26 else (0:Int) from aa hs 122 rfl,if_neg (by omega)];rfl
 have HB:v 17≠0->dcM (v 0) (v 1) (v 4) (v 5)<=5100000:=by
  intro q2;rw [show v 17=if v 16≠0 then (0:Int) else (1:Int) from aa hs 17 rfl,wb] at q2
  by_cases hb:dcM (v 0) (v 1) (v 4) (v 5)>5100000
  . simp [hb,b2i] at q2
  . omega
 refine ⟨aS ?_,?_⟩
 . exact ag (fun hp=>(show bf (v 15) (v 15)=true by
    have hm:dcM (v 0) (v 1) (v 4) (v 5)<=5100000:=HB (aj hp).1;rw [w15,aV];omega)) (ag (fun hp=>(show bf (v 15) (v 15)=true by
    have hm:dcM (v 0) (v 1) (v 4) (v 5)<=5100000:=HB (aj hp).1;rw [w15,aV];omega)) (ag (fun hp=>(show qoP (v 18) (v 19) (v 21) (v 22) 131 by
    have hm:dcM (v 0) (v 1) (v 4) (v 5)<=5100000:=HB (aj hp).1;rw [show v 18=bI (v 15) (v 15) from aa hs 18 rfl,show v 19=bL (v 15) (v 15) from aa hs 19 rfl,show v 21=bI (v 15+5400000) (v 15+5400000) from aa hs 21 rfl,show v 22=bL (v 15+5400000) (v 15+5400000) from aa hs 22 rfl,w15]
    exact (Rx _ ⟨mlo,hm⟩).2.2)) (aR)))
 . intro x hx0;have hx':=bE (v:=v) (by rfl) hx0
   rw [hx'];show Value.tuple #[.agg #[.int .i64 (v 128),.int .i64 (v 129),.int .i64 (v 130),.int .i64 (v 131)],.int .i64 (v 127)]=_;rw [Z.1,Z.2.1,Z.2.2.1,Z.2.2.2.1,Z.2.2.2.2];have E:dcV (v 0) (v 1) (v 2) (v 3) (v 4) (v 5) (v 6) (v 7) (v 8) (v 9)=dcV a0 a1 a2 a3 b0 b1 b2 b3 u v1:=by rw [show v 0=a0 from aa hs 0 rfl,show v 1=a1 from aa hs 1 rfl,show v 2=a2 from aa hs 2 rfl,show v 3=a3 from aa hs 3 rfl,show v 4=b0 from aa hs 4 rfl,show v 5=b1 from aa hs 5 rfl,show v 6=b2 from aa hs 6 rfl,show v 7=b3 from aa hs 7 rfl,show v 8=u from aa hs 8 rfl,show v 9=v1 from aa hs 9 rfl]
   rw [E]
def I4:List Nd:=[.arg 0,.arg 1,.arg 2,.arg 3,.arg 4,.arg 5,.arg 6,.arg 7,.arg 8,.arg 9,.bin .lss .i64 0 (.c 0),.bin .sub .i64 (.c 0) 0,.ite 10 (.c 0) (.c 1),.ite 10 11 0,.bin .lss .i64 1 (.c 0),.bin .sub .i64 (.c 0) 1,.ite 14 (.c 0) (.c 1),.ite 14 15 1,.bin .lss .i64 13 17,.ite 18 (.c 0) (.c 1),.ite 18 17 13,.bin .lss .i64 4 (.c 0),.bin .sub .i64 (.c 0) 4,.ite 21 (.c 0) (.c 1),.ite 21 22 4,.bin .lss .i64 5 (.c 0),.bin .sub .i64 (.c 0) 5,.ite 25 (.c 0) (.c 1),.ite 25 26 5,.bin .lss .i64 24 28,.ite 29 (.c 0) (.c 1),.ite 29 28 24,.bin .lss .i64 20 31,.ite 32 (.c 0) (.c 1),.ite 32 31 20,.bin .add .i64 34 (.c 60000),.bin .gtr .i64 35 (.c 5100000),.ite 36 (.c 0) (.c 1),.app 5 0 [35,35],.app 5 1 [35,35],.app 6 0 [35,35],.app 6 1 [35,35],.app 12 0 [38,39,40,41,.c 131],.app 12 1 [38,39,40,41,.c 131],.app 12 2 [38,39,40,41,.c 131],.bin .sub .i64 (.c 60000) 8,.bin .mul .i64 0 45,.bin .mul .i64 4 8,.bin .add .i64 46 47,.bin .mul .i64 1 45,.bin .mul .i64 5 8,.bin .add .i64 49 50,.bin .quo .i64 48 (.c 60000),.bin .rem .i64 48 (.c 60000),.bin .lss .i64 53 (.c 0),.bin .sub .i64 52 (.c 1),.ite 54 (.c 0) (.c 1),.ite 54 55 52,.bin .quo .i64 51 (.c 60000),.bin .rem .i64 51 (.c 60000),.bin .gtr .i64 59 (.c 0),.bin .add .i64 58 (.c 1),.ite 60 (.c 0) (.c 1),.ite 60 61 58,.bin .sub .i64 (.c 60000) 9,.bin .mul .i64 0 64,.bin .mul .i64 4 9,.bin .add .i64 65 66,.bin .mul .i64 1 64,.bin .mul .i64 5 9,.bin .add .i64 68 69,.bin .quo .i64 67 (.c 60000),.bin .rem .i64 67 (.c 60000),.bin .lss .i64 72 (.c 0),.bin .sub .i64 71 (.c 1),.ite 73 (.c 0) (.c 1),.ite 73 74 71,.bin .quo .i64 70 (.c 60000),.bin .rem .i64 70 (.c 60000),.bin .gtr .i64 78 (.c 0),.bin .add .i64 77 (.c 1),.ite 79 (.c 0) (.c 1),.ite 79 80 77,.bin .lss .i64 76 57,.ite 83 (.c 0) (.c 1),.ite 83 76 57,.bin .gtr .i64 82 63,.ite 86 (.c 0) (.c 1),.ite 86 82 63,.bin .sub .i64 85 43,.bin .add .i64 88 43,.bin .sub .i64 3 2,.bin .geq .i64 91 (.c 21600000),.bin .sub .i64 7 6,.bin .geq .i64 93 (.c 21600000),.ite 92 (.c 1) 94,.ite 95 (.c 0) (.c 1),.bin .sub .i64 6 2,.bin .rem .i64 97 (.c 21600000),.bin .lss .i64 98 (.c 0),.bin .add .i64 98 (.c 21600000),.ite 99 (.c 0) (.c 1),.ite 99 100 98,.bin .add .i64 102 7,.bin .sub .i64 103 6,.bin .lss .i64 91 104,.ite 105 (.c 0) (.c 1),.ite 105 104 91,.bin .sub .i64 2 6,.bin .rem .i64 108 (.c 21600000),.bin .lss .i64 109 (.c 0),.bin .add .i64 109 (.c 21600000),.ite 110 (.c 0) (.c 1),.ite 110 111 109,.bin .add .i64 113 3,.bin .sub .i64 114 2,.bin .lss .i64 93 115,.ite 116 (.c 0) (.c 1),.ite 116 115 93,.bin .lss .i64 118 107,.ite 119 (.c 0) (.c 1),.ite 119 118 107,.ite 119 6 2,.ite 119 7 3,.bin .geq .i64 121 (.c 10800000),.ite 124 (.c 0) (.c 1),.bin .add .i64 122 121,.bin .sub .i64 126 122,.bin .geq .i64 127 (.c 21600000),.ite 128 (.c 0) (.c 1),.bin .rem .i64 122 (.c 21600000),.bin .lss .i64 130 (.c 0),.bin .add .i64 130 (.c 21600000),.ite 131 (.c 0) (.c 1),.ite 131 132 130,.bin .add .i64 134 127,.ite 128 (.c 0) 134,.ite 128 (.c 21600000) 135,.ite 124 (.c 0) 136,.ite 124 (.c 21600000) 137,
 .ite 95 (.c 0) 138,.ite 95 (.c 21600000) 139,.ite 95 2 122,.ite 95 3 123,.ite 36 (.c 24) (.c 0),.ite 36 (.c 0) 89,.ite 36 (.c 0) 90,.ite 36 (.c 0) 140,.ite 36 (.c 0) 141]
def UK:List Vc:=[⟨[(37,true)],.pre 5 [35,35]⟩,⟨[(37,true)],.pre 6 [35,35]⟩,⟨[(37,true)],.pre 12 [38,39,40,41,.c 131]⟩]
theorem VB:whole Tryz.prog spQ 20 40 59 [(true,[some .i64,some .i64,some .i64,some .i64]),(true,[some .i64,some .i64,some .i64,some .i64]),(true,[some .i64,some .i64])]=some (.tup [.agg [.int .i64 (.n 145),.int .i64 (.n 146),.int .i64 (.n 147),.int .i64 (.n 148)],.c (.int .i64 (.n 144))],⟨I4.reverse,UK.reverse⟩):=by kernel_rfl
theorem Ux:wfN I4.reverse=true:=by kernel_rfl
theorem ZF (a0 a1 a2 a3 b0 b1 b2 b3 u v1:Int) (w:World) (h:dcP a0 a1 a2 a3 b0 b1 b2 b3 u v1):Calls Tryz.prog 59 #[.agg #[.int .i64 a0,.int .i64 a1,.int .i64 a2,.int .i64 a3],.agg #[.int .i64 b0,.int .i64 b1,.int .i64 b2,.int .i64 b3],.agg #[.int .i64 u,.int .i64 v1]] w fun e w'=>e=.returned (.tuple #[.agg #[.int .i64 ((dcV a0 a1 a2 a3 b0 b1 b2 b3 u v1).getD 0 0),.int .i64 ((dcV a0 a1 a2 a3 b0 b1 b2 b3 u v1).getD 1 0),.int .i64 ((dcV a0 a1 a2 a3 b0 b1 b2 b3 u v1).getD 2 0),.int .i64 ((dcV a0 a1 a2 a3 b0 b1 b2 b3 u v1).getD 3 0)],.int .i64 ((dcV a0 a1 a2 a3 b0 b1 b2 b3 u v1).getD 4 0)])/\Below w.heap.size w w':=by
 refine Sx.calls (X:=cxF [a0,a1,a2,a3,b0,b1,b2,b3,u,v1]) dG (vE _) VB Ux (fun v hs=>?_) w
 have e0:v 0=a0:=aa hs 0 rfl;have e1:v 1=a1:=aa hs 1 rfl;have e2:v 2=a2:=aa hs 2 rfl;have e3:v 3=a3:=aa hs 3 rfl;have e4:v 4=b0:=aa hs 4 rfl;have e5:v 5=b1:=aa hs 5 rfl;have e6:v 6=b2:=aa hs 6 rfl;have e7:v 7=b3:=aa hs 7 rfl;have e8:v 8=u:=aa hs 8 rfl;have e9:v 9=v1:=aa hs 9 rfl;have hv:dcP (v 0) (v 1) (v 2) (v 3) (v 4) (v 5) (v 6) (v 7) (v 8) (v 9):=by rw [e0,e1,e2,e3,e4,e5,e6,e7,e8,e9];exact h
 obtain ⟨⟨ha0,ha1,ha2,ha3⟩,⟨hb0,hb1,hb2,hb3⟩,hA,hB,hu,hw⟩:=hv;unfold hrQ at ha0 ha1 ha2 ha3 hb0 hb1 hb2 hb3;clear e0 e1 e2 e3 e4 e5 e6 e7 e8 e9 h;have w13:v 13=max (v 0) (-v 0):=qg (c:=v 10) (y:=v 11) (by omega) (aa hs 10 rfl) (aa hs 11 rfl) (aa hs 13 rfl)
 have w17:v 17=max (v 1) (-v 1):=qg (c:=v 14) (y:=v 15) (by omega) (aa hs 14 rfl) (aa hs 15 rfl) (aa hs 17 rfl)
 have w24:v 24=max (v 4) (-v 4):=qg (c:=v 21) (y:=v 22) (by omega) (aa hs 21 rfl) (aa hs 22 rfl) (aa hs 24 rfl)
 have w28:v 28=max (v 5) (-v 5):=qg (c:=v 25) (y:=v 26) (by omega) (aa hs 25 rfl) (aa hs 26 rfl) (aa hs 28 rfl)
 have w35:v 35=dcM (v 0) (v 1) (v 4) (v 5):=by
  have q20:v 20=max (v 13) (v 17):=mf (aa hs 18 rfl) (aa hs 20 rfl);have q31:v 31=max (v 24) (v 28):=mf (aa hs 29 rfl) (aa hs 31 rfl);have q34:v 34=max (v 20) (v 31):=mf (aa hs 32 rfl) (aa hs 34 rfl);rw [show v 35=IntKind.i64.wrap (v 34+(60000:Int)) from aa hs 35 rfl,Go.IntWalk.i64_in _ (by omega),q34,q31,q20,w13,w17,w24,w28]
  unfold dcM;omega
 have s48:=dw (a:=v 0) (b:=v 4) (u:=v 8) (w:=v 45) (p:=v 46) (q:=v 47) (s:=v 48) (by omega) (by omega) (by omega) (aa hs 45 rfl) (aa hs 46 rfl) (aa hs 47 rfl) (aa hs 48 rfl)
 have f57:v 57=atF (v 0) (v 4) (v 8):=by rw [bW (x:=v 48) (m:=60000) (q:=v 52) (r:=v 53) (c:=v 54) (s:=v 55) (z:=v 57) (by omega) (by omega) (aa hs 52 rfl) (aa hs 53 rfl) (aa hs 54 rfl) (aa hs 55 rfl) (aa hs 57 rfl),s48.1];rfl
 have s51:=dw (a:=v 1) (b:=v 5) (u:=v 8) (w:=v 45) (p:=v 49) (q:=v 50) (s:=v 51) (by omega) (by omega) (by omega) (aa hs 45 rfl) (aa hs 49 rfl) (aa hs 50 rfl) (aa hs 51 rfl)
 have f63:v 63=atC (v 1) (v 5) (v 8):=by rw [jT (x:=v 51) (m:=60000) (q:=v 58) (r:=v 59) (c:=v 60) (s:=v 61) (z:=v 63) (by omega) (by omega) (aa hs 58 rfl) (aa hs 59 rfl) (aa hs 60 rfl) (aa hs 61 rfl) (aa hs 63 rfl),s51.1];rfl
 have s67:=dw (a:=v 0) (b:=v 4) (u:=v 9) (w:=v 64) (p:=v 65) (q:=v 66) (s:=v 67) (by omega) (by omega) (by omega) (aa hs 64 rfl) (aa hs 65 rfl) (aa hs 66 rfl) (aa hs 67 rfl)
 have f76:v 76=atF (v 0) (v 4) (v 9):=by rw [bW (x:=v 67) (m:=60000) (q:=v 71) (r:=v 72) (c:=v 73) (s:=v 74) (z:=v 76) (by omega) (by omega) (aa hs 71 rfl) (aa hs 72 rfl) (aa hs 73 rfl) (aa hs 74 rfl) (aa hs 76 rfl),s67.1];rfl
 have s70:=dw (a:=v 1) (b:=v 5) (u:=v 9) (w:=v 64) (p:=v 68) (q:=v 69) (s:=v 70) (by omega) (by omega) (by omega) (aa hs 64 rfl) (aa hs 68 rfl) (aa hs 69 rfl) (aa hs 70 rfl)
 have f82:v 82=atC (v 1) (v 5) (v 9):=by rw [jT (x:=v 70) (m:=60000) (q:=v 77) (r:=v 78) (c:=v 79) (s:=v 80) (z:=v 82) (by omega) (by omega) (aa hs 77 rfl) (aa hs 78 rfl) (aa hs 79 rfl) (aa hs 80 rfl) (aa hs 82 rfl),s70.1];rfl
 have d0_4_8:=eU (a:=v 0) (b:=v 4) (u:=v 8) (by omega) (by omega) (by omega)
 have d0_4_9:=eU (a:=v 0) (b:=v 4) (u:=v 9) (by omega) (by omega) (by omega)
 have d1_5_8:=eU (a:=v 1) (b:=v 5) (u:=v 8) (by omega) (by omega) (by omega)
 have d1_5_9:=eU (a:=v 1) (b:=v 5) (u:=v 9) (by omega) (by omega) (by omega)
 clear s48 s51 s67 s70;have w91:v 91=v 3-v 2:=by rw [show v 91=IntKind.i64.wrap (v 3-v 2) from aa hs 91 rfl,Go.IntWalk.i64_in _ (by omega)]
 have w93:v 93=v 7-v 6:=by rw [show v 93=IntKind.i64.wrap (v 7-v 6) from aa hs 93 rfl,Go.IntWalk.i64_in _ (by omega)]
 have w95:v 95=b2i (decide (dcB (v 2) (v 3) (v 6) (v 7))):=by
  rw [show v 95=if v 92≠0 then (1:Int) else v 94 from aa hs 95 rfl,show v 92=b2i (decide (v 91>=(21600000:Int))) from aa hs 92 rfl,show v 94=b2i (decide (v 93>=(21600000:Int))) from aa hs 94 rfl,w91,w93]
  unfold dcB
  by_cases q1:v 3-v 2>=21600000<;>by_cases q2:v 7-v 6>=21600000<;>simp [q1,q2,b2i]
 have w97:v 97=v 6-v 2:=by rw [show v 97=IntKind.i64.wrap (v 6-v 2) from aa hs 97 rfl,Go.IntWalk.i64_in _ (by omega)]
 have w102:v 102=v 97%21600000:=dK (r:=v 98) (c:=v 99) (s:=v 100) (by omega) (aa hs 98 rfl) (aa hs 99 rfl) (aa hs 100 rfl) (aa hs 102 rfl)
 have w103:v 103=v 102+v 7:=by rw [show v 103=IntKind.i64.wrap (v 102+v 7) from aa hs 103 rfl,Go.IntWalk.i64_in _ (by omega)]
 have w104:v 104=v 103-v 6:=by rw [show v 104=IntKind.i64.wrap (v 103-v 6) from aa hs 104 rfl,Go.IntWalk.i64_in _ (by omega)]
 have w108:v 108=v 2-v 6:=by rw [show v 108=IntKind.i64.wrap (v 2-v 6) from aa hs 108 rfl,Go.IntWalk.i64_in _ (by omega)]
 have w113:v 113=v 108%21600000:=dK (r:=v 109) (c:=v 110) (s:=v 111) (by omega) (aa hs 109 rfl) (aa hs 110 rfl) (aa hs 111 rfl) (aa hs 113 rfl)
 have w114:v 114=v 113+v 3:=by rw [show v 114=IntKind.i64.wrap (v 113+v 3) from aa hs 114 rfl,Go.IntWalk.i64_in _ (by omega)]
 have w115:v 115=v 114-v 2:=by rw [show v 115=IntKind.i64.wrap (v 114-v 2) from aa hs 115 rfl,Go.IntWalk.i64_in _ (by omega)]
 have c107:v 107=cvW (v 2) (v 3) (v 6) (v 7)/\-1000000000<=v 107/\v 107<=1000000000:=by
  have q:v 107=max (v 91) (v 104):=mf (aa hs 105 rfl) (aa hs 107 rfl);refine ⟨?_,by omega,by omega⟩
  rw [q];unfold cvW;omega
 have c118:v 118=cvW (v 6) (v 7) (v 2) (v 3)/\-1000000000<=v 118/\v 118<=1000000000:=by
  have q:v 118=max (v 93) (v 115):=mf (aa hs 116 rfl) (aa hs 118 rfl);refine ⟨?_,by omega,by omega⟩
  rw [q];unfold cvW;omega
 have w119:v 119=b2i (decide (cvW (v 6) (v 7) (v 2) (v 3)<cvW (v 2) (v 3) (v 6) (v 7))):=by rw [show v 119=b2i (decide (v 118<v 107)) from aa hs 119 rfl,c118.1,c107.1]
 have w122:v 122=dcF (v 2) (v 3) (v 6) (v 7):=kif (x:=v 6) (y:=v 2) w119 (aa hs 122 rfl);have F2:v 122=v 6∨v 122=v 2:=by rw [w122];unfold dcF;split;exact .inl rfl;exact .inr rfl
 have w121:v 121=dcW (v 2) (v 3) (v 6) (v 7):=by
  have q:v 121=if cvW (v 6) (v 7) (v 2) (v 3)<cvW (v 2) (v 3) (v 6) (v 7) then v 118 else v 107:=kif w119 (aa hs 121 rfl)
  rw [q,c118.1,c107.1];rfl
 have W2:v 121=v 118∨v 121=v 107:=by rw [show v 121=if v 119≠0 then v 118 else v 107 from aa hs 121 rfl];split;exact .inl rfl;exact .inr rfl
 have bc1:=c107.2;have bc2:=c118.2;have w126:v 126=v 122+v 121:=by rw [show v 126=IntKind.i64.wrap (v 122+v 121) from aa hs 126 rfl,Go.IntWalk.i64_in _ (by omega)]
 have w127:v 127=v 121:=by rw [show v 127=IntKind.i64.wrap (v 126-v 122) from aa hs 127 rfl,w126,Go.IntWalk.i64_in _ (by omega)];omega
 have w128:v 128=b2i (decide (v 122+v 121-v 122>=(21600000:Int))):=by rw [show v 128=b2i (decide (v 127>=(21600000:Int))) from aa hs 128 rfl,w127,show v 122+v 121-v 122=v 121 by omega]
 have w134:v 134=v 122%21600000:=dK (r:=v 130) (c:=v 131) (s:=v 132) (by omega) (aa hs 130 rfl) (aa hs 131 rfl) (aa hs 132 rfl) (aa hs 134 rfl)
 have w135:v 135=v 122%21600000+(v 122+v 121-v 122):=by rw [show v 135=IntKind.i64.wrap (v 134+v 127) from aa hs 135 rfl,Go.IntWalk.i64_in _ (by omega)];omega
 have x136:v 136=trL (v 122) (v 122+v 121):=by
  have q:v 136=if v 122+v 121-v 122>=21600000 then 0 else v 134:=kif w128 (aa hs 136 rfl)
  rw [q,w134];rfl
 have x137:v 137=trH (v 122) (v 122+v 121):=by
  have q:v 137=if v 122+v 121-v 122>=21600000 then 21600000 else v 135:=kif w128 (aa hs 137 rfl)
  rw [q,w135];rfl
 have w124:v 124=b2i (decide (dcW (v 2) (v 3) (v 6) (v 7)>=10800000)):=by rw [show v 124=b2i (decide (v 121>=(10800000:Int))) from aa hs 124 rfl,w121]
 have y138:v 138=if dcW (v 2) (v 3) (v 6) (v 7)<10800000 then v 136 else 0:=by
  have q:v 138=if dcW (v 2) (v 3) (v 6) (v 7)>=10800000 then 0 else v 136:=kif w124 (aa hs 138 rfl)
  rw [q];split<;>split<;>first|rfl|omega
 have y139:v 139=if dcW (v 2) (v 3) (v 6) (v 7)<10800000 then v 137 else 21600000:=by
  have q:v 139=if dcW (v 2) (v 3) (v 6) (v 7)>=10800000 then 21600000 else v 137:=kif w124 (aa hs 139 rfl)
  rw [q];split<;>split<;>first|rfl|omega
 have x140:v 140=dcL (v 2) (v 3) (v 6) (v 7):=by
  have q:v 140=if dcB (v 2) (v 3) (v 6) (v 7) then 0 else v 138:=kif w95 (aa hs 140 rfl)
  rw [q,y138,x136,w122,w121];rfl
 have x141:v 141=dcH (v 2) (v 3) (v 6) (v 7):=by
  have q:v 141=if dcB (v 2) (v 3) (v 6) (v 7) then 21600000 else v 139:=kif w95 (aa hs 141 rfl)
  rw [q,y139,x137,w122,w121];rfl
 have wb:v 36=b2i (decide (dcM (v 0) (v 1) (v 4) (v 5)>5100000)):=by rw [show v 36=b2i (decide (v 35>(5100000:Int))) from aa hs 36 rfl,w35]
 have mlo:60000<=dcM (v 0) (v 1) (v 4) (v 5):=by unfold dcM;omega
 have fq:∀ i,i<3->v (42+i)=(dcQ (dcM (v 0) (v 1) (v 4) (v 5))).getD i 0:=by
  intro i hi
  match i,hi with
  | 0,_ =>
   show v 42=_;rw [show v 42=(qoV (v 38) (v 39) (v 40) (v 41) 131).getD 0 0 from aa hs 42 rfl,show v 38=bI (v 35) (v 35) from aa hs 38 rfl,show v 39=bL (v 35) (v 35) from aa hs 39 rfl,show v 40=bI (v 35+5400000) (v 35+5400000) from aa hs 40 rfl,show v 41=bL (v 35+5400000) (v 35+5400000) from aa hs 41 rfl,w35];rfl
  | 1,_ =>
   show v 43=_;rw [show v 43=(qoV (v 38) (v 39) (v 40) (v 41) 131).getD 1 0 from aa hs 43 rfl,show v 38=bI (v 35) (v 35) from aa hs 38 rfl,show v 39=bL (v 35) (v 35) from aa hs 39 rfl,show v 40=bI (v 35+5400000) (v 35+5400000) from aa hs 40 rfl,show v 41=bL (v 35+5400000) (v 35+5400000) from aa hs 41 rfl,w35];rfl
  | 2,_ =>
   show v 44=_;rw [show v 44=(qoV (v 38) (v 39) (v 40) (v 41) 131).getD 2 0 from aa hs 44 rfl,show v 38=bI (v 35) (v 35) from aa hs 38 rfl,show v 39=bL (v 35) (v 35) from aa hs 39 rfl,show v 40=bI (v 35+5400000) (v 35+5400000) from aa hs 40 rfl,show v 41=bL (v 35+5400000) (v 35+5400000) from aa hs 41 rfl,w35];rfl
 have f1:v 43=(dcQ (dcM (v 0) (v 1) (v 4) (v 5))).getD 1 0:=fq 1 (by decide)
 have f2:v 44=(dcQ (dcM (v 0) (v 1) (v 4) (v 5))).getD 2 0:=fq 2 (by decide)
 clear fq;have m85:v 85=min (v 57) (v 76):=sV (aa hs 83 rfl) (aa hs 85 rfl);have m88:v 88=max (v 63) (v 82):=tF (aa hs 86 rfl) (aa hs 88 rfl);rw [f57,f76] at m85;rw [f63,f82] at m88
 have Z:v 145=(dcV (v 0) (v 1) (v 2) (v 3) (v 4) (v 5) (v 6) (v 7) (v 8) (v 9)).getD 0 0/\v 146=(dcV (v 0) (v 1) (v 2) (v 3) (v 4) (v 5) (v 6) (v 7) (v 8) (v 9)).getD 1 0/\v 147=(dcV (v 0) (v 1) (v 2) (v 3) (v 4) (v 5) (v 6) (v 7) (v 8) (v 9)).getD 2 0/\v 148=(dcV (v 0) (v 1) (v 2) (v 3) (v 4) (v 5) (v 6) (v 7) (v 8) (v 9)).getD 3 0/\v 144=(dcV (v 0) (v 1) (v 2) (v 3) (v 4) (v 5) (v 6) (v 7) (v 8) (v 9)).getD 4 0:=by
  unfold dcV
  by_cases hb:dcM (v 0) (v 1) (v 4) (v 5)>5100000
  . rw [if_pos hb];have k:v 36=1:=by rw [wb,decide_eq_true hb];rfl
    refine ⟨?_,?_,?_,?_,?_⟩
    . rw [show v 145=if v 36≠0 then (0:Int) else v 89 from aa hs 145 rfl,if_pos (by omega)];rfl
    . rw [show v 146=if v 36≠0 then (0:Int) else v 90 from aa hs 146 rfl,if_pos (by omega)];rfl
    . rw [show v 147=if v 36≠0 then (0:Int) else v 140 from aa hs 147 rfl,if_pos (by omega)];rfl
    . rw [show v 148=if v 36≠0 then (0:Int) else v 141 from aa hs 148 rfl,if_pos (by omega)];rfl
    . rw [show v 144=if v 36≠0 then (24:Int) else (0:Int) from aa hs 144 rfl,if_pos (by omega)];rfl
  . rw [if_neg hb];have k:v 36=0:=by rw [wb,decide_eq_false hb];rfl
    have Q:=Rx _ ⟨mlo,by omega⟩
    rw [<-f1,<-f2] at Q;have zL:v 89=ovL (v 0) (v 4) (v 8) (v 9) (v 43):=by rw [show v 89=IntKind.i64.wrap (v 85-v 43) from aa hs 89 rfl,m85,Go.IntWalk.i64_in _ (by omega)];rfl
    have zH:v 90=ovH (v 1) (v 5) (v 8) (v 9) (v 43):=by rw [show v 90=IntKind.i64.wrap (v 88+v 43) from aa hs 90 rfl,m88,Go.IntWalk.i64_in _ (by omega)];rfl
    rw [f1] at zL zH;refine ⟨?_,?_,?_,?_,?_⟩
    . rw [show v 145=if v 36≠0 then (0:Int) else v 89 from aa hs 145 rfl,if_neg (by omega),zL];rfl
    . rw [show v 146=if v 36≠0 then (0:Int) else v 90 from aa hs 146 rfl,if_neg (by omega),zH];rfl
    . rw [show v 147=if v 36≠0 then (0:Int) else v 140 from aa hs 147 rfl,if_neg (by omega),x140];rfl
    . rw [show v 148=if v 36≠0 then (0:Int) else v 141 from aa hs 148 rfl,if_neg (by omega),x141];rfl
    . rw [show v 144=if v 36≠0 then (24:Int) else (0:Int) from aa hs 144 rfl,if_neg (by omega)];rfl
 have HB:v 37≠0->dcM (v 0) (v 1) (v 4) (v 5)<=5100000:=by
  intro q2;rw [show v 37=if v 36≠0 then (0:Int) else (1:Int) from aa hs 37 rfl,wb] at q2
  by_cases hb:dcM (v 0) (v 1) (v 4) (v 5)>5100000
  . simp [hb,b2i] at q2
  . omega
 refine ⟨aS ?_,?_⟩
 . exact ag (fun hp=>(show bf (v 35) (v 35)=true by
    have hm:dcM (v 0) (v 1) (v 4) (v 5)<=5100000:=HB (aj hp).1;rw [w35,aV];omega)) (ag (fun hp=>(show bf (v 35) (v 35)=true by
    have hm:dcM (v 0) (v 1) (v 4) (v 5)<=5100000:=HB (aj hp).1;rw [w35,aV];omega)) (ag (fun hp=>(show qoP (v 38) (v 39) (v 40) (v 41) 131 by
    have hm:dcM (v 0) (v 1) (v 4) (v 5)<=5100000:=HB (aj hp).1;rw [show v 38=bI (v 35) (v 35) from aa hs 38 rfl,show v 39=bL (v 35) (v 35) from aa hs 39 rfl,show v 40=bI (v 35+5400000) (v 35+5400000) from aa hs 40 rfl,show v 41=bL (v 35+5400000) (v 35+5400000) from aa hs 41 rfl,w35]
    exact (Rx _ ⟨mlo,hm⟩).2.2)) (aR)))
 . intro x hx0;have hx':=bE (v:=v) (by rfl) hx0
   rw [hx'];show Value.tuple #[.agg #[.int .i64 (v 145),.int .i64 (v 146),.int .i64 (v 147),.int .i64 (v 148)],.int .i64 (v 144)]=_;rw [Z.1,Z.2.1,Z.2.2.1,Z.2.2.2.1,Z.2.2.2.2];have E:dcV (v 0) (v 1) (v 2) (v 3) (v 4) (v 5) (v 6) (v 7) (v 8) (v 9)=dcV a0 a1 a2 a3 b0 b1 b2 b3 u v1:=by rw [show v 0=a0 from aa hs 0 rfl,show v 1=a1 from aa hs 1 rfl,show v 2=a2 from aa hs 2 rfl,show v 3=a3 from aa hs 3 rfl,show v 4=b0 from aa hs 4 rfl,show v 5=b1 from aa hs 5 rfl,show v 6=b2 from aa hs 6 rfl,show v 7=b3 from aa hs 7 rfl,show v 8=u from aa hs 8 rfl,show v 9=v1 from aa hs 9 rfl]
   rw [E]
