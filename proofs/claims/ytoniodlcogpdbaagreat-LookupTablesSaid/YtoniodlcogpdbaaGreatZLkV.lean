/- Interpolation: values between two arcs, and the nodes that reckon them. -/
import Derived.Test.YtoniodlcogpdbaaGreatZSpE
import Derived.Test.YtoniodlcogpdbaaGreatZEv
import Derived.Test.YtoniodlcogpdbaaGreatZLkA
set_option linter.unusedVariables false
set_option linter.unusedSimpArgs false
set_option maxRecDepth 100000
set_option maxHeartbeats 8000000
namespace Go.Proofs.YtoniodlcogpdbaaGreat
open Go.RowKit Alm Sx
theorem fK {x m q r c s z:Int} (hx:-1000000000000000<=x/\x<=1000000000000000) (hm:1<=m/\m<=1000000000000) (eq:q=IntKind.i64.wrap (Int.tdiv x m)) (er:r=Int.tmod x m) (ec:c=b2i (decide (r<0))) (es:s=IntKind.i64.wrap (q-1)) (ez:z=if c≠0 then s else q):z=x/m:=by
 have b1:(-1000000000000000:Int)<=x/m:=(Int.le_ediv_iff_mul_le (by omega)).2 (by omega)
 have b2:x/m<1000000000000001:=(Int.ediv_lt_iff_lt_mul (by omega)).2 (by omega)
 rw [Int.tdiv_eq_ediv] at eq;rw [Int.tmod_eq_emod] at er;have m1:=Int.emod_nonneg x (show m≠0 by omega)
 have m2:=Int.emod_lt_of_pos x (show 0<m by omega)
 have sm:Int.sign m=1:=Int.sign_eq_one_of_pos (by omega)
 have na:((Int.natAbs m:Nat):Int)=m:=Int.natAbs_of_nonneg (by omega)
 rw [ez,ec]
 by_cases P:0<=x∨m ∣ x
 . rw [if_pos P,Int.add_zero,Go.IntWalk.i64_in _ (by omega)] at eq
   rw [if_pos P] at er;rw [decide_eq_false (by omega),eq];rfl
 . rw [if_neg P,sm,Go.IntWalk.i64_in _ (by omega)] at eq
   rw [if_neg P] at er;rw [Go.IntWalk.i64_in _ (by omega)] at es
   rw [decide_eq_true (by omega),es,eq]
   show x/m+1-1=_;omega
theorem iF {x m y q r c s t z:Int} (hx:-1000000000000000<=x/\x<=1000000000000000) (hm:1<=m/\m<=1000000000000) (ey:y=IntKind.i64.wrap (0-x)) (eq:q=IntKind.i64.wrap (Int.tdiv y m)) (er:r=Int.tmod y m) (ec:c=b2i (decide (r<0))) (es:s=IntKind.i64.wrap (q-1)) (et:t=if c≠0 then s else q) (ez:z=IntKind.i64.wrap (0-t)):z=-(-x/m):=by
 rw [Go.IntWalk.i64_in _ (by omega),show (0:Int)-x=-x by omega] at ey
 have b1:(-1000000000000000:Int)<=-x/m:=(Int.le_ediv_iff_mul_le (by omega)).2 (by omega)
 have b2:-x/m<1000000000000001:=(Int.ediv_lt_iff_lt_mul (by omega)).2 (by omega)
 have:=fK (by omega) hm eq er ec es et
 rw [this,ey,Go.IntWalk.i64_in _ (by omega)] at ez
 omega
theorem Fz {x m q r c s z:Int} (hx:-1000000000000000<=x/\x<=1000000000000000) (hm:1<=m/\m<=1000000000000) (eq:q=IntKind.i64.wrap (Int.tdiv x m)) (er:r=Int.tmod x m) (ec:c=b2i (decide (r>0))) (es:s=IntKind.i64.wrap (q+1)) (ez:z=if c≠0 then s else q):z=-(-x/m):=by
 have b1:(-1000000000000000:Int)<=x/m:=(Int.le_ediv_iff_mul_le (by omega)).2 (by omega)
 have b2:x/m<1000000000000001:=(Int.ediv_lt_iff_lt_mul (by omega)).2 (by omega)
 rw [Int.tdiv_eq_ediv] at eq;rw [Int.tmod_eq_emod] at er;have m1:=Int.emod_nonneg x (show m≠0 by omega)
 have m2:=Int.emod_lt_of_pos x (show 0<m by omega)
 have sm:Int.sign m=1:=Int.sign_eq_one_of_pos (by omega)
 have na:((Int.natAbs m:Nat):Int)=m:=Int.natAbs_of_nonneg (by omega)
 rw [Int.neg_ediv,sm,ez,ec]
 by_cases D:m ∣ x
 . have z0:=Int.emod_eq_zero_of_dvd D;rw [if_pos (.inr D),Int.add_zero,Go.IntWalk.i64_in _ (by omega)] at eq
   rw [if_pos (.inr D)] at er;rw [if_pos D,decide_eq_false (by omega),eq]
   show x/m=_;omega
 . have z0:x%m≠0:=fun h=>D (Int.dvd_of_emod_eq_zero h)
   rw [if_neg D]
   by_cases P:0<=x
   . rw [if_pos (.inl P),Int.add_zero,Go.IntWalk.i64_in _ (by omega)] at eq
     rw [if_pos (.inl P)] at er;rw [Go.IntWalk.i64_in _ (by omega)] at es
     rw [decide_eq_true (by omega),es,eq]
     show x/m+1=_;omega
   . have Q:¬ (0<=x∨m ∣ x):=fun h=>h.elim P D
     rw [if_neg Q,sm,Go.IntWalk.i64_in _ (by omega)] at eq
     rw [if_neg Q] at er;rw [decide_eq_false (by omega),eq]
     show x/m+1=_;omega
def sgt (x:Int):Int:=if x%21600000>=10800000 then x%21600000-21600000 else x%21600000
theorem gN {x r c s z:Int} (hx:-1000000000000000<=x/\x<=1000000000000000) (er:r=Int.tmod x 21600000) (ec:c=b2i (decide (r<0))) (es:s=IntKind.i64.wrap (r+21600000)) (ez:z=if c≠0 then s else r):z=x%21600000:=by
 rw [Int.tmod_eq_emod] at er
 by_cases P:0<=x∨(21600000:Int) ∣ x
 . rw [if_pos P] at er;rw [ez,ec,decide_eq_false (by omega),er]
   show x%21600000-((0:Nat):Int)=_;omega
 . rw [if_neg P] at er;have na:((Int.natAbs (21600000:Int):Nat):Int)=21600000:=rfl;rw [na] at er;rw [Go.IntWalk.i64_in _ (by omega)] at es
   rw [ez,ec,decide_eq_true (by omega),es,er]
   show x%21600000-21600000+21600000=_;omega
theorem PP {x w g s z:Int} (ew:w=x%21600000) (eg:g=b2i (decide (w>=10800000))) (es:s=IntKind.i64.wrap (w-21600000)) (ez:z=if g≠0 then s else w):z=sgt x/\-10800000<=z/\z<=10800000:=by
 rw [Go.IntWalk.i64_in _ (by omega)] at es
 unfold sgt
 by_cases q:w>=10800000
 . rw [decide_eq_true q] at eg;rw [ez,eg,if_pos (by decide),es,if_pos (by omega)];omega
 . rw [decide_eq_false q] at eg;rw [ez,eg,if_neg (by decide),if_neg (by omega)];omega
def atF (a b u:Int):Int:=(a*(60000-u)+b*u)/60000
def atC (a b u:Int):Int:=-(-(a*(60000-u)+b*u)/60000)
def ovL (a b u v e:Int):Int:=min (atF a b u) (atF a b v)-e
def ovH (a b u v e:Int):Int:=max (atC a b u) (atC a b v)+e
def trL (l h:Int):Int:=if h-l>=21600000 then 0 else l%21600000
def trH (l h:Int):Int:=if h-l>=21600000 then 21600000 else l%21600000+(h-l)
theorem iR {a b u w p q s:Int} (ha:-1000000000<=a/\a<=1000000000) (hb:-1000000000<=b/\b<=1000000000) (hu:0<=u/\u<=60000) (ew:w=IntKind.i64.wrap (60000-u)) (ep:p=IntKind.i64.wrap (a*w)) (eq:q=IntKind.i64.wrap (b*u)) (es:s=IntKind.i64.wrap (p+q)):s=a*(60000-u)+b*u/\-60000000000000<=s/\s<=60000000000000:=by
 rw [Go.IntWalk.i64_in _ (by omega)] at ew
 rw [ew] at ep;have a1:=Int.mul_le_mul_of_nonneg_right ha.1 (show 0<=60000-u by omega)
 have a2:=Int.mul_le_mul_of_nonneg_right ha.2 (show 0<=60000-u by omega)
 have b1:=Int.mul_le_mul_of_nonneg_right hb.1 hu.1;have b2:=Int.mul_le_mul_of_nonneg_right hb.2 hu.1;generalize a*(60000-u)=A at *
 generalize b*u=B at *
 rw [Go.IntWalk.i64_in _ (by omega)] at ep
 rw [Go.IntWalk.i64_in _ (by omega)] at eq
 rw [ep,eq,Go.IntWalk.i64_in _ (by omega)] at es
 omega
theorem lv {a b u:Int} (ha:-1000000000<=a/\a<=1000000000) (hb:-1000000000<=b/\b<=1000000000) (hu:0<=u/\u<=60000):-1000000000<=atF a b u/\atF a b u<=1000000000/\-1000000000<=atC a b u/\atC a b u<=1000000000:=by
 unfold atF atC;have a1:=Int.mul_le_mul_of_nonneg_right ha.1 (show 0<=60000-u by omega)
 have a2:=Int.mul_le_mul_of_nonneg_right ha.2 (show 0<=60000-u by omega)
 have b1:=Int.mul_le_mul_of_nonneg_right hb.1 hu.1;have b2:=Int.mul_le_mul_of_nonneg_right hb.2 hu.1;generalize a*(60000-u)=A at *
 generalize b*u=B at *
 omega
theorem iI {x y z:Int} (h:z=if y<x then y else x):z=min x y:=by split at h<;>omega
theorem fH {x y z:Int} (h:z=if y>x then y else x):z=max x y:=by split at h<;>omega
theorem zy {x y c z:Int} (ec:c=b2i (decide (y<x))) (h:z=if c≠0 then y else x):z=min x y:=by
 by_cases q:y<x
 . rw [decide_eq_true q] at ec;rw [ec,if_pos (by decide)] at h;omega
 . rw [decide_eq_false q] at ec;rw [ec,if_neg (by decide)] at h;omega
theorem zT {x y c z:Int} (ec:c=b2i (decide (y>x))) (h:z=if c≠0 then y else x):z=max x y:=by
 by_cases q:y>x
 . rw [decide_eq_true q] at ec;rw [ec,if_pos (by decide)] at h;omega
 . rw [decide_eq_false q] at ec;rw [ec,if_neg (by decide)] at h;omega
def hrB (a2 a3 b2 b3:Int):Prop:=¬ a3-a2>=21600000/\¬ b3-b2>=21600000
instance (a2 a3 b2 b3:Int):Decidable (hrB a2 a3 b2 b3):=by unfold hrB;infer_instance
def hrL (a2 b2 u v g:Int):Int:=ovL a2 (a2+sgt (b2-a2)) u v g
def hrH (a2 a3 b2 b3 u v g:Int):Int:=ovH a3 (a2+sgt (b2-a2)+b3-b2) u v g
def hrV (a0 a1 a2 a3 b0 b1 b2 b3 f g u v:Int):List Int:=[ovL a0 b0 u v f,ovH a1 b1 u v f,if hrB a2 a3 b2 b3 then trL (hrL a2 b2 u v g) (hrH a2 a3 b2 b3 u v g) else 0,if hrB a2 a3 b2 b3 then trH (hrL a2 b2 u v g) (hrH a2 a3 b2 b3 u v g) else 21600000]
def hrQ (x:Int):Prop:=-100000000<=x/\x<=100000000
def hrP (a0 a1 a2 a3 b0 b1 b2 b3 f g u v:Int):Prop:=(hrQ a0/\hrQ a1/\hrQ a2/\hrQ a3)/\(hrQ b0/\hrQ b1/\hrQ b2/\hrQ b3)/\(hrQ f/\hrQ g)/\(0<=u/\u<=60000)/\(0<=v/\v<=60000)
end Go.Proofs.YtoniodlcogpdbaaGreat
namespace Go.Proofs.YtoniodlcogpdbaaGreat
open Go.RowKit Alm Sx
theorem Pd (n:Int) (h:0<=n/\n<=10800000):0<=bLo n:=by
 have b:=jW n;have s:=AR _ b.1 b.2;unfold bLo dm;rw [if_neg (by unfold au;simp;omega)]
 exact s.1
theorem wg2 (f k:Nat) {x p q a b:Int} (hp:p=a) (hq:q=b) (e:x=(fZ f [p,q]).getD k 0):x=(fZ f [a,b]).getD k 0:=by rw [e,hp,hq]
theorem wg4 (f k:Nat) {x p q r s a b c d:Int} (hp:p=a) (hq:q=b) (hr:r=c) (hs:s=d) (e:x=(fZ f [p,q,r,s]).getD k 0):x=(fZ f [a,b,c,d]).getD k 0:=by rw [e,hp,hq,hr,hs]
theorem ve (lo hi:Int) (h:-5400000<=lo/\lo<=hi/\hi<=5400000):0<=bC (lo+5400000) (hi+5400000):=by
 have a:=Pd (lo+5400000) (by omega)
 have b:=Pd (hi+5400000) (by omega)
 unfold bC;rw [if_neg (by unfold dD au;simp;omega)]
 omega
def wR (a b z0 z1:Int) (j:Nat):Int:=(fZ 0 [bC (a+5400000) (b+5400000),bI (a+5400000) (b+5400000),bC z0 z1,bI z0 z1]).getD j 0
def wA (a b h0 h1:Int) (j:Nat):Int:=(fZ 0 [bC a b,bI a b,bC (h0+5400000) (h1+5400000),bI (h0+5400000) (h1+5400000)]).getD j 0
def wC (a b h0 h1:Int) (j:Nat):Int:=(fZ 0 [bC (a+5400000) (b+5400000),bI (a+5400000) (b+5400000),bC h0 h1,bI h0 h1]).getD j 0
def wB (a b h0 h1 z0 z1:Int) (j:Nat):Int:=(fZ 0 [wC a b h0 h1 0,wC a b h0 h1 1,bC (z0+5400000) (z1+5400000),bI (z0+5400000) (z1+5400000)]).getD j 0
def wD (a b h0 h1 z0 z1:Int) (j:Nat):Int:=(fZ 2 [wA a b h0 h1 0,wA a b h0 h1 1,wB a b h0 h1 z0 z1 0,wB a b h0 h1 z0 z1 1]).getD j 0
def wQ (a b h0 h1 z0 z1:Int) (j:Nat):Int:=(qoV (wD a b h0 h1 z0 z1 0) (wD a b h0 h1 z0 z1 1) (bC (h0+5400000) (h1+5400000)) (bI (h0+5400000) (h1+5400000)) 60000).getD j 0
def wrH (r0 r1 s0 s1:Int):Int:=-(-((max r1 s1-min r0 s0)*60000)/4294967296)
def wrT (q0 q1 p0 p1:Int):Int:=-(-(max q1 p1-min q0 p0)/4)
def wrZ (q0 q1 qe p0 p1 pe:Int):Int:=if qe≠0∨pe≠0 then 10800000 else if wrT q0 q1 p0 p1>10800000 then 10800000 else wrT q0 q1 p0 p1
def wS (a b c d n i:Int) (j:Nat):Int:=(slV a b c d (n*60000+i*30000) (n*60000+i*30000+30000)).getD j 0
def wrV (a b c d n:Int):List Int:=[wrH (wR a b (wS a b c d n 0 2) (wS a b c d n 0 3) 0) (wR a b (wS a b c d n 0 2) (wS a b c d n 0 3) 1) (wR a b (wS a b c d n 1 2) (wS a b c d n 1 3) 0) (wR a b (wS a b c d n 1 2) (wS a b c d n 1 3) 1),wrZ (wQ a b (wS a b c d n 0 0) (wS a b c d n 0 1) (wS a b c d n 0 2) (wS a b c d n 0 3) 0) (wQ a b (wS a b c d n 0 0) (wS a b c d n 0 1) (wS a b c d n 0 2) (wS a b c d n 0 3) 1) (wQ a b (wS a b c d n 0 0) (wS a b c d n 0 1) (wS a b c d n 0 2) (wS a b c d n 0 3) 2) (wQ a b (wS a b c d n 1 0) (wS a b c d n 1 1) (wS a b c d n 1 2) (wS a b c d n 1 3) 0) (wQ a b (wS a b c d n 1 0) (wS a b c d n 1 1) (wS a b c d n 1 2) (wS a b c d n 1 3) 1) (wQ a b (wS a b c d n 1 0) (wS a b c d n 1 1) (wS a b c d n 1 2) (wS a b c d n 1 3) 2)]
theorem zF (a b z0 z1:Int):fxV (wR a b z0 z1 0) (wR a b z0 z1 1)=true:=(ic _ _).2.2
theorem IU (a b h0 h1 z0 z1:Int):(-1099511627776<=wQ a b h0 h1 z0 z1 0/\wQ a b h0 h1 z0 z1 0<=1099511627776)/\(-1099511627776<=wQ a b h0 h1 z0 z1 1/\wQ a b h0 h1 z0 z1 1<=1099511627776):=by
 unfold wQ qoV;split
 . exact ⟨by decide,by decide⟩
 . split
   . rename_i h
     obtain ⟨h1,h2⟩:=h;unfold dz at h1 h2;simp at h1 h2;exact ⟨h1,h2⟩
   . exact ⟨by decide,by decide⟩
theorem ac3 {r0 r1 s0 s1:Int} (h:fxV r0 r1=true) (h2:fxV s0 s1=true):0<=wrH r0 r1 s0 s1/\wrH r0 r1 s0 s1<=60000:=by
 have:=(bS _ _).1 h;have:=(bS _ _).1 h2;unfold wrH;omega
theorem acN {q0 q1 qe p0 p1 pe:Int}:wrZ q0 q1 qe p0 p1 pe<=10800000:=by unfold wrZ;split;omega;split<;>omega
def fQ:List Nd:=[
 .arg 0,
 .arg 1,
 .arg 2,
 .arg 3,
 .arg 4,
 .app 5 0 [.n 0,.n 1],
 .app 5 1 [.n 0,.n 1],
 .app 5 2 [.n 0,.n 1],
 .app 6 0 [.n 0,.n 1],
 .app 6 1 [.n 0,.n 1],
 .app 6 2 [.n 0,.n 1],
 .bin .mul .i64 (.n 4) (.c 60000),
 .bin .add .i64 (.n 11) (.c 0),
 .bin .add .i64 (.n 12) (.c 30000),
 .app 53 0 [.n 0,.n 1,.n 2,.n 3,.n 12,.n 13],
 .app 53 1 [.n 0,.n 1,.n 2,.n 3,.n 12,.n 13],
 .app 53 2 [.n 0,.n 1,.n 2,.n 3,.n 12,.n 13],
 .app 53 3 [.n 0,.n 1,.n 2,.n 3,.n 12,.n 13],
 .app 53 4 [.n 0,.n 1,.n 2,.n 3,.n 12,.n 13],
 .bin .neq .i64 (.n 18) (.c 0),
 .ite (.n 19) (.c 0) (.c 1),
 .app 5 0 [.n 16,.n 17],
 .app 5 1 [.n 16,.n 17],
 .app 5 2 [.n 16,.n 17],
 .app 6 0 [.n 16,.n 17],
 .app 6 1 [.n 16,.n 17],
 .app 6 2 [.n 16,.n 17],
 .app 5 0 [.n 14,.n 15],
 .app 5 1 [.n 14,.n 15],
 .app 5 2 [.n 14,.n 15],
 .app 6 0 [.n 14,.n 15],
 .app 6 1 [.n 14,.n 15],
 .app 6 2 [.n 14,.n 15],
 .app 0 0 [.n 8,.n 9,.n 21,.n 22],
 .app 0 1 [.n 8,.n 9,.n 21,.n 22],
 .app 0 2 [.n 8,.n 9,.n 21,.n 22],
 .app 0 0 [.n 5,.n 6,.n 30,.n 31],
 .app 0 1 [.n 5,.n 6,.n 30,.n 31],
 .app 0 2 [.n 5,.n 6,.n 30,.n 31],
 .app 0 0 [.n 8,.n 9,.n 27,.n 28],
 .app 0 1 [.n 8,.n 9,.n 27,.n 28],
 .app 0 2 [.n 8,.n 9,.n 27,.n 28],
 .app 0 0 [.n 39,.n 40,.n 24,.n 25],
 .app 0 1 [.n 39,.n 40,.n 24,.n 25],
 .app 0 2 [.n 39,.n 40,.n 24,.n 25],
 .app 2 0 [.n 36,.n 37,.n 42,.n 43],
 .app 2 1 [.n 36,.n 37,.n 42,.n 43],
 .app 2 2 [.n 36,.n 37,.n 42,.n 43],
 .app 12 0 [.n 45,.n 46,.n 30,.n 31,.c 60000],
 .app 12 1 [.n 45,.n 46,.n 30,.n 31,.c 60000],
 .app 12 2 [.n 45,.n 46,.n 30,.n 31,.c 60000],
 .bin .neq .i64 (.n 50) (.c 0),
 .ite (.n 51) (.c 0) (.c 1),
 .ite (.n 20) (.n 52) (.c 0),
 .ite (.n 20) (.n 51) (.c 0),
 .ite (.n 53) (.c 1) (.n 54),
 .ite (.n 53) (.c 0) (.c 1),
 .ite (.n 53) (.n 48) (.c 0),
 .ite (.n 53) (.n 49) (.c 0),
 .bin .add .i64 (.n 11) (.c 30000),
 .bin .add .i64 (.n 59) (.c 30000),
 .app 53 0 [.n 0,.n 1,.n 2,.n 3,.n 59,.n 60],
 .app 53 1 [.n 0,.n 1,.n 2,.n 3,.n 59,.n 60],
 .app 53 2 [.n 0,.n 1,.n 2,.n 3,.n 59,.n 60],
 .app 53 3 [.n 0,.n 1,.n 2,.n 3,.n 59,.n 60],
 .app 53 4 [.n 0,.n 1,.n 2,.n 3,.n 59,.n 60],
 .bin .neq .i64 (.n 65) (.c 0),
 .ite (.n 66) (.c 0) (.c 1),
 .app 5 0 [.n 63,.n 64],
 .app 5 1 [.n 63,.n 64],
 .app 5 2 [.n 63,.n 64],
 .app 6 0 [.n 63,.n 64],
 .app 6 1 [.n 63,.n 64],
 .app 6 2 [.n 63,.n 64],
 .app 5 0 [.n 61,.n 62],
 .app 5 1 [.n 61,.n 62],
 .app 5 2 [.n 61,.n 62],
 .app 6 0 [.n 61,.n 62],
 .app 6 1 [.n 61,.n 62],
 .app 6 2 [.n 61,.n 62],
 .app 0 0 [.n 8,.n 9,.n 68,.n 69],
 .app 0 1 [.n 8,.n 9,.n 68,.n 69],
 .app 0 2 [.n 8,.n 9,.n 68,.n 69],
 .mn (.n 33) (.n 80),
 .mx (.n 34) (.n 81),
 .app 0 0 [.n 5,.n 6,.n 77,.n 78],
 .app 0 1 [.n 5,.n 6,.n 77,.n 78],
 .app 0 2 [.n 5,.n 6,.n 77,.n 78],
 .app 0 0 [.n 8,.n 9,.n 74,.n 75],
 .app 0 1 [.n 8,.n 9,.n 74,.n 75],
 .app 0 2 [.n 8,.n 9,.n 74,.n 75],
 .app 0 0 [.n 88,.n 89,.n 71,.n 72],
 .app 0 1 [.n 88,.n 89,.n 71,.n 72],
 .app 0 2 [.n 88,.n 89,.n 71,.n 72],
 .app 2 0 [.n 85,.n 86,.n 91,.n 92],
 .app 2 1 [.n 85,.n 86,.n 91,.n 92],
 .app 2 2 [.n 85,.n 86,.n 91,.n 92],
 .app 12 0 [.n 94,.n 95,.n 77,.n 78,.c 60000],
 .app 12 1 [.n 94,.n 95,.n 77,.n 78,.c 60000],
 .app 12 2 [.n 94,.n 95,.n 77,.n 78,.c 60000],
 .bin .neq .i64 (.n 99) (.c 0),
 .ite (.n 100) (.c 0) (.c 1),
 .ite (.n 56) (.n 97) (.n 57),
 .ite (.n 56) (.n 98) (.n 58),
 .ite (.n 56) (.c 1) (.n 53),
 .mn (.n 102) (.n 97),
 .mx (.n 103) (.n 98),
 .ite (.n 67) (.n 101) (.c 0),
 .ite (.n 67) (.n 100) (.c 0),
 .ite (.n 107) (.c 1) (.n 108),
 .ite (.n 107) (.n 56) (.c 1),
 .ite (.n 107) (.n 105) (.n 57),
 .ite (.n 107) (.n 106) (.n 58),
 .ite (.n 107) (.n 104) (.n 53),
 .ite (.n 55) (.n 66) (.c 0),
 .ite (.n 55) (.n 109) (.c 0),
 .ite (.n 19) (.c 1) (.n 114),
 .ite (.n 19) (.n 18) (.n 65),
 .ite (.n 19) (.c 0) (.n 56),
 .ite (.n 19) (.n 12) (.n 59),
 .ite (.n 19) (.c 0) (.c 30000),
 .ite (.n 19) (.n 14) (.n 61),
 .ite (.n 19) (.n 15) (.n 62),
 .ite (.n 19) (.n 16) (.n 63),
 .ite (.n 19) (.n 17) (.n 64),
 .ite (.n 19) (.n 13) (.n 60),
 .ite (.n 19) (.n 19) (.n 66),
 .ite (.n 19) (.c 0) (.n 57),
 .ite (.n 19) (.c 0) (.n 58),
 .ite (.n 19) (.c 0) (.n 53),
 .ite (.n 19) (.c 0) (.n 33),
 .ite (.n 19) (.c 0) (.n 34),
 .bin .sub .i64 (.n 84) (.n 83),
 .bin .mul .i64 (.n 132) (.c 60000),
 .bin .sub .i64 (.c 0) (.n 133),
 .bin .quo .i64 (.n 134) (.c 4294967296),
 .bin .rem .i64 (.n 134) (.c 4294967296),
 .bin .lss .i64 (.n 136) (.c 0),
 .bin .sub .i64 (.n 135) (.c 1),
 .ite (.n 137) (.c 0) (.c 1),
 .ite (.n 137) (.n 138) (.n 135),
 .bin .sub .i64 (.c 0) (.n 140),
 .bin .sub .i64 (.n 112) (.n 111),
 .bin .sub .i64 (.c 0) (.n 142),
 .bin .quo .i64 (.n 143) (.c 4),
 .bin .rem .i64 (.n 143) (.c 4),
 .bin .lss .i64 (.n 145) (.c 0),
 .bin .sub .i64 (.n 144) (.c 1),
 .ite (.n 146) (.c 0) (.c 1),
 .ite (.n 146) (.n 147) (.n 144),
 .bin .sub .i64 (.c 0) (.n 149),
 .bin .gtr .i64 (.n 150) (.c 10800000),
 .ite (.n 110) (.c 1) (.n 151),
 .ite (.n 152) (.c 0) (.c 1),
 .ite (.n 152) (.c 10800000) (.n 150),
 .ite (.n 116) (.c 1) (.n 115),
 .ite (.n 116) (.n 117) (.c 0),
 .ite (.n 116) (.n 118) (.n 110),
 .ite (.n 116) (.n 20) (.c 1),
 .ite (.n 116) (.n 119) (.n 97),
 .ite (.n 116) (.n 117) (.n 99),
 .ite (.n 116) (.n 20) (.c 2),
 .ite (.n 116) (.n 120) (.c 30000),
 .ite (.n 116) (.n 119) (.n 59),
 .ite (.n 116) (.n 121) (.n 61),
 .ite (.n 116) (.n 122) (.n 62),
 .ite (.n 116) (.n 123) (.n 63),
 .ite (.n 116) (.n 124) (.n 64),
 .ite (.n 116) (.n 117) (.n 65),
 .ite (.n 116) (.n 125) (.n 60),
 .ite (.n 116) (.n 126) (.n 66),
 .ite (.n 116) (.n 127) (.n 111),
 .ite (.n 116) (.n 128) (.n 112),
 .ite (.n 116) (.n 129) (.n 113),
 .ite (.n 116) (.n 130) (.n 83),
 .ite (.n 116) (.n 131) (.n 84),
 .ite (.n 116) (.c 0) (.n 141),
 .ite (.n 116) (.c 0) (.n 154)]
def VL:List Vc:=[
 ⟨[],.pre 5 [.n 0,.n 1]⟩,
 ⟨[],.pre 6 [.n 0,.n 1]⟩,
 ⟨[],.pre 53 [.n 0,.n 1,.n 2,.n 3,.n 12,.n 13]⟩,
 ⟨[(.n 20,true)],.pre 5 [.n 16,.n 17]⟩,
 ⟨[(.n 20,true)],.pre 6 [.n 16,.n 17]⟩,
 ⟨[(.n 20,true)],.pre 5 [.n 14,.n 15]⟩,
 ⟨[(.n 20,true)],.pre 6 [.n 14,.n 15]⟩,
 ⟨[(.n 20,true)],.pre 0 [.n 8,.n 9,.n 21,.n 22]⟩,
 ⟨[(.n 20,true)],.pre 0 [.n 5,.n 6,.n 30,.n 31]⟩,
 ⟨[(.n 20,true)],.pre 0 [.n 8,.n 9,.n 27,.n 28]⟩,
 ⟨[(.n 20,true)],.pre 0 [.n 39,.n 40,.n 24,.n 25]⟩,
 ⟨[(.n 20,true)],.pre 2 [.n 36,.n 37,.n 42,.n 43]⟩,
 ⟨[(.n 20,true)],.pre 12 [.n 45,.n 46,.n 30,.n 31,.c 60000]⟩,
 ⟨[(.n 55,true)],.pre 53 [.n 0,.n 1,.n 2,.n 3,.n 59,.n 60]⟩,
 ⟨[(.n 67,true),(.n 55,true)],.pre 5 [.n 63,.n 64]⟩,
 ⟨[(.n 67,true),(.n 55,true)],.pre 6 [.n 63,.n 64]⟩,
 ⟨[(.n 67,true),(.n 55,true)],.pre 5 [.n 61,.n 62]⟩,
 ⟨[(.n 67,true),(.n 55,true)],.pre 6 [.n 61,.n 62]⟩,
 ⟨[(.n 67,true),(.n 55,true)],.pre 0 [.n 8,.n 9,.n 68,.n 69]⟩,
 ⟨[(.n 67,true),(.n 55,true)],.pre 0 [.n 5,.n 6,.n 77,.n 78]⟩,
 ⟨[(.n 67,true),(.n 55,true)],.pre 0 [.n 8,.n 9,.n 74,.n 75]⟩,
 ⟨[(.n 67,true),(.n 55,true)],.pre 0 [.n 88,.n 89,.n 71,.n 72]⟩,
 ⟨[(.n 67,true),(.n 55,true)],.pre 2 [.n 85,.n 86,.n 91,.n 92]⟩,
 ⟨[(.n 67,true),(.n 55,true)],.pre 12 [.n 94,.n 95,.n 77,.n 78,.c 60000]⟩]
theorem SQ:whole Tryz.prog spS 20 40 31 [(true,[some .i64,some .i64]),(true,[some .i64,some .i64]),(false,[some .i64])]=some (.tup [.agg [.int .i64 (.n 176),.int .i64 (.n 177)],.c (.int .i64 (.n 156))],⟨fQ.reverse,VL.reverse⟩):=by kernel_rfl
theorem Vb:wfN fQ.reverse=true:=by kernel_rfl
theorem Q6 (a b c d n:Int) (w:World) (h1:-5400000<=a/\a<=b/\b<=5400000) (h2:-5400000<=c/\c<=d/\d<=5400000) (h3:0<=n/\n<=179):Calls Tryz.prog 31 #[.agg #[.int .i64 a,.int .i64 b],.agg #[.int .i64 c,.int .i64 d],.int .i64 n] w fun e w'=>e=.returned (.tuple #[.agg #[.int .i64 ((wrV a b c d n).getD 0 0),.int .i64 ((wrV a b c d n).getD 1 0)],.int .i64 0])/\Below w.heap.size w w':=by
 refine Sx.calls (X:=cxS [a,b,c,d,n]) dP (Q3 _) SQ Vb (fun v hs=>?_) w
 have e0:v 0=a:=aa hs 0 rfl;have e1:v 1=b:=aa hs 1 rfl;have e2:v 2=c:=aa hs 2 rfl;have e3:v 3=d:=aa hs 3 rfl;have e4:v 4=n:=aa hs 4 rfl;have A1:aQ a b=true:=(aJ _ _).2 (by omega)
 have w11:v 11=n*60000:=by rw [show v 11=IntKind.i64.wrap (v 4*(60000:Int)) from aa hs 11 rfl,e4,Go.IntWalk.i64_in _ (by omega)]
 have w12:v 12=n*60000+0*30000:=by rw [show v 12=IntKind.i64.wrap (v 11+(0:Int)) from aa hs 12 rfl,w11,Go.IntWalk.i64_in _ (by omega)];omega
 have w13:v 13=n*60000+0*30000+30000:=by rw [show v 13=IntKind.i64.wrap (v 12+(30000:Int)) from aa hs 13 rfl,w12,Go.IntWalk.i64_in _ (by omega)]
 have T0:fB a b c d (n*60000+0*30000) (n*60000+0*30000+30000):=⟨h1,h2,by omega⟩
 have sb0:=C8 a b c d (n*60000+0*30000) (n*60000+0*30000+30000);have w14:v 14=wS a b c d n 0 0:=by rw [show v 14=(fD 53 [v 0,v 1,v 2,v 3,v 12,v 13]).getD 0 0 from aa hs 14 rfl,e0,e1,e2,e3,w12,w13];rfl
 have w15:v 15=wS a b c d n 0 1:=by rw [show v 15=(fD 53 [v 0,v 1,v 2,v 3,v 12,v 13]).getD 1 0 from aa hs 15 rfl,e0,e1,e2,e3,w12,w13];rfl
 have w16:v 16=wS a b c d n 0 2:=by rw [show v 16=(fD 53 [v 0,v 1,v 2,v 3,v 12,v 13]).getD 2 0 from aa hs 16 rfl,e0,e1,e2,e3,w12,w13];rfl
 have w17:v 17=wS a b c d n 0 3:=by rw [show v 17=(fD 53 [v 0,v 1,v 2,v 3,v 12,v 13]).getD 3 0 from aa hs 17 rfl,e0,e1,e2,e3,w12,w13];rfl
 have bs0:(-5400000<=wS a b c d n 0 0/\wS a b c d n 0 0<=wS a b c d n 0 1/\wS a b c d n 0 1<=5400000)/\(0<=wS a b c d n 0 2/\wS a b c d n 0 2<=21599999/\wS a b c d n 0 2<=wS a b c d n 0 3/\wS a b c d n 0 3<=wS a b c d n 0 2+21600000):=sb0;clear sb0;have w59:v 59=n*60000+1*30000:=by rw [show v 59=IntKind.i64.wrap (v 11+(30000:Int)) from aa hs 59 rfl,w11,Go.IntWalk.i64_in _ (by omega)];omega
 have w60:v 60=n*60000+1*30000+30000:=by rw [show v 60=IntKind.i64.wrap (v 59+(30000:Int)) from aa hs 60 rfl,w59,Go.IntWalk.i64_in _ (by omega)]
 have T1:fB a b c d (n*60000+1*30000) (n*60000+1*30000+30000):=⟨h1,h2,by omega⟩
 have sb1:=C8 a b c d (n*60000+1*30000) (n*60000+1*30000+30000);have w61:v 61=wS a b c d n 1 0:=by rw [show v 61=(fD 53 [v 0,v 1,v 2,v 3,v 59,v 60]).getD 0 0 from aa hs 61 rfl,e0,e1,e2,e3,w59,w60];rfl
 have w62:v 62=wS a b c d n 1 1:=by rw [show v 62=(fD 53 [v 0,v 1,v 2,v 3,v 59,v 60]).getD 1 0 from aa hs 62 rfl,e0,e1,e2,e3,w59,w60];rfl
 have w63:v 63=wS a b c d n 1 2:=by rw [show v 63=(fD 53 [v 0,v 1,v 2,v 3,v 59,v 60]).getD 2 0 from aa hs 63 rfl,e0,e1,e2,e3,w59,w60];rfl
 have w64:v 64=wS a b c d n 1 3:=by rw [show v 64=(fD 53 [v 0,v 1,v 2,v 3,v 59,v 60]).getD 3 0 from aa hs 64 rfl,e0,e1,e2,e3,w59,w60];rfl
 have bs1:(-5400000<=wS a b c d n 1 0/\wS a b c d n 1 0<=wS a b c d n 1 1/\wS a b c d n 1 1<=5400000)/\(0<=wS a b c d n 1 2/\wS a b c d n 1 2<=21599999/\wS a b c d n 1 2<=wS a b c d n 1 3/\wS a b c d n 1 3<=wS a b c d n 1 2+21600000):=sb1;clear sb1;generalize hS00:wS a b c d n 0 0=S00 at *
 generalize hS01:wS a b c d n 0 1=S01 at *
 generalize hS02:wS a b c d n 0 2=S02 at *
 generalize hS03:wS a b c d n 0 3=S03 at *
 generalize hS10:wS a b c d n 1 0=S10 at *
 generalize hS11:wS a b c d n 1 1=S11 at *
 generalize hS12:wS a b c d n 1 2=S12 at *
 generalize hS13:wS a b c d n 1 3=S13 at *
 have w5:v 5=bC a b:=wg2 5 0 e0 e1 (aa hs 5 rfl);have w6:v 6=bI a b:=wg2 5 1 e0 e1 (aa hs 6 rfl);have w8:v 8=bC (a+5400000) (b+5400000):=wg2 6 0 e0 e1 (aa hs 8 rfl);have w9:v 9=bI (a+5400000) (b+5400000):=wg2 6 1 e0 e1 (aa hs 9 rfl);have w21:v 21=bC S02 S03:=wg2 5 0 w16 w17 (aa hs 21 rfl);have w22:v 22=bI S02 S03:=wg2 5 1 w16 w17 (aa hs 22 rfl);have w24:v 24=bC (S02+5400000) (S03+5400000):=wg2 6 0 w16 w17 (aa hs 24 rfl);have w25:v 25=bI (S02+5400000) (S03+5400000):=wg2 6 1 w16 w17 (aa hs 25 rfl);have w27:v 27=bC S00 S01:=wg2 5 0 w14 w15 (aa hs 27 rfl);have w28:v 28=bI S00 S01:=wg2 5 1 w14 w15 (aa hs 28 rfl);have w30:v 30=bC (S00+5400000) (S01+5400000):=wg2 6 0 w14 w15 (aa hs 30 rfl);have w31:v 31=bI (S00+5400000) (S01+5400000):=wg2 6 1 w14 w15 (aa hs 31 rfl);have w68:v 68=bC S12 S13:=wg2 5 0 w63 w64 (aa hs 68 rfl);have w69:v 69=bI S12 S13:=wg2 5 1 w63 w64 (aa hs 69 rfl);have w71:v 71=bC (S12+5400000) (S13+5400000):=wg2 6 0 w63 w64 (aa hs 71 rfl);have w72:v 72=bI (S12+5400000) (S13+5400000):=wg2 6 1 w63 w64 (aa hs 72 rfl);have w74:v 74=bC S10 S11:=wg2 5 0 w61 w62 (aa hs 74 rfl);have w75:v 75=bI S10 S11:=wg2 5 1 w61 w62 (aa hs 75 rfl);have w77:v 77=bC (S10+5400000) (S11+5400000):=wg2 6 0 w61 w62 (aa hs 77 rfl);have w78:v 78=bI (S10+5400000) (S11+5400000):=wg2 6 1 w61 w62 (aa hs 78 rfl);have w33:v 33=wR a b S02 S03 0:=wg4 0 0 w8 w9 w21 w22 (aa hs 33 rfl);have w34:v 34=wR a b S02 S03 1:=wg4 0 1 w8 w9 w21 w22 (aa hs 34 rfl);have w36:v 36=wA a b S00 S01 0:=wg4 0 0 w5 w6 w30 w31 (aa hs 36 rfl);have w37:v 37=wA a b S00 S01 1:=wg4 0 1 w5 w6 w30 w31 (aa hs 37 rfl);have w39:v 39=wC a b S00 S01 0:=wg4 0 0 w8 w9 w27 w28 (aa hs 39 rfl);have w40:v 40=wC a b S00 S01 1:=wg4 0 1 w8 w9 w27 w28 (aa hs 40 rfl);have w42:v 42=wB a b S00 S01 S02 S03 0:=wg4 0 0 w39 w40 w24 w25 (aa hs 42 rfl);have w43:v 43=wB a b S00 S01 S02 S03 1:=wg4 0 1 w39 w40 w24 w25 (aa hs 43 rfl);have w45:v 45=wD a b S00 S01 S02 S03 0:=wg4 2 0 w36 w37 w42 w43 (aa hs 45 rfl);have w46:v 46=wD a b S00 S01 S02 S03 1:=wg4 2 1 w36 w37 w42 w43 (aa hs 46 rfl);have w80:v 80=wR a b S12 S13 0:=wg4 0 0 w8 w9 w68 w69 (aa hs 80 rfl);have w81:v 81=wR a b S12 S13 1:=wg4 0 1 w8 w9 w68 w69 (aa hs 81 rfl);have w85:v 85=wA a b S10 S11 0:=wg4 0 0 w5 w6 w77 w78 (aa hs 85 rfl);have w86:v 86=wA a b S10 S11 1:=wg4 0 1 w5 w6 w77 w78 (aa hs 86 rfl);have w88:v 88=wC a b S10 S11 0:=wg4 0 0 w8 w9 w74 w75 (aa hs 88 rfl);have w89:v 89=wC a b S10 S11 1:=wg4 0 1 w8 w9 w74 w75 (aa hs 89 rfl);have w91:v 91=wB a b S10 S11 S12 S13 0:=wg4 0 0 w88 w89 w71 w72 (aa hs 91 rfl);have w92:v 92=wB a b S10 S11 S12 S13 1:=wg4 0 1 w88 w89 w71 w72 (aa hs 92 rfl);have w94:v 94=wD a b S10 S11 S12 S13 0:=wg4 2 0 w85 w86 w91 w92 (aa hs 94 rfl);have w95:v 95=wD a b S10 S11 S12 S13 1:=wg4 2 1 w85 w86 w91 w92 (aa hs 95 rfl);have w48:v 48=wQ a b S00 S01 S02 S03 0:=by rw [show v 48=(tF 12 [v 45,v 46,v 30,v 31,60000]).getD 0 0 from aa hs 48 rfl,w45,w46,w30,w31];rfl
 have w49:v 49=wQ a b S00 S01 S02 S03 1:=by rw [show v 49=(tF 12 [v 45,v 46,v 30,v 31,60000]).getD 1 0 from aa hs 49 rfl,w45,w46,w30,w31];rfl
 have w50:v 50=wQ a b S00 S01 S02 S03 2:=by rw [show v 50=(tF 12 [v 45,v 46,v 30,v 31,60000]).getD 2 0 from aa hs 50 rfl,w45,w46,w30,w31];rfl
 have w97:v 97=wQ a b S10 S11 S12 S13 0:=by rw [show v 97=(tF 12 [v 94,v 95,v 77,v 78,60000]).getD 0 0 from aa hs 97 rfl,w94,w95,w77,w78];rfl
 have w98:v 98=wQ a b S10 S11 S12 S13 1:=by rw [show v 98=(tF 12 [v 94,v 95,v 77,v 78,60000]).getD 1 0 from aa hs 98 rfl,w94,w95,w77,w78];rfl
 have w99:v 99=wQ a b S10 S11 S12 S13 2:=by rw [show v 99=(tF 12 [v 94,v 95,v 77,v 78,60000]).getD 2 0 from aa hs 99 rfl,w94,w95,w77,w78];rfl
 have R0:=(bS _ _).1 (zF a b S02 S03);have R1:=(bS _ _).1 (zF a b S12 S13);have Q0:=IU a b S00 S01 S02 S03;have Q1:=IU a b S10 S11 S12 S13;have k19:v 19=0:=by rw [show v 19=b2i (v 18 != (0:Int)) from aa hs 19 rfl,show v 18=(0:Int) from aa hs 18 rfl];rfl
 have k66:v 66=0:=by rw [show v 66=b2i (v 65 != (0:Int)) from aa hs 66 rfl,show v 65=(0:Int) from aa hs 65 rfl];rfl
 have f51:v 51=b2i (v 50 != (0:Int)):=aa hs 51 rfl;have f100:v 100=b2i (v 99 != (0:Int)):=aa hs 100 rfl;have z156:v 156=0:=ax (X:=cxS [a,b,c,d,n]) (v:=v) (l:=fQ) (iD _) hs (k:=156) (r:=.c 0) (ps:=[(19,.c 0),(66,.c 0)]) (nz:=[]) (ae k19 (ae k66 av)) aA (by kernel_rfl)
 have z176:v 176=v 141:=dB (X:=cxS [a,b,c,d,n]) (v:=v) (l:=fQ) (iD _) hs (k:=176) (j:=141) (ps:=[(19,.c 0),(66,.c 0)]) (ae k19 (ae k66 av)) (by kernel_rfl)
 have z177:v 177=v 154:=dB (X:=cxS [a,b,c,d,n]) (v:=v) (l:=fQ) (iD _) hs (k:=177) (j:=154) (ps:=[(19,.c 0),(66,.c 0)]) (ae k19 (ae k66 av)) (by kernel_rfl)
 have m83:v 83=min (v 33) (v 80):=iI (aa hs 83 rfl);have m84:v 84=max (v 34) (v 81):=fH (aa hs 84 rfl);rw [w33,w80] at m83;rw [w34,w81] at m84;have y132:v 132=v 84-v 83:=by rw [show v 132=IntKind.i64.wrap (v 84-v 83) from aa hs 132 rfl,Go.IntWalk.i64_in _ (by omega)]
 have y133:v 133=(v 84-v 83)*60000:=by rw [show v 133=IntKind.i64.wrap (v 132*(60000:Int)) from aa hs 133 rfl,y132,Go.IntWalk.i64_in _ (by omega)]
 have y141:v 141=wrH (wR a b S02 S03 0) (wR a b S02 S03 1) (wR a b S12 S13 0) (wR a b S12 S13 1):=by
  rw [iF (x:=v 133) (m:=4294967296) (y:=v 134) (q:=v 135) (r:=v 136) (c:=v 137) (s:=v 138) (t:=v 140) (z:=v 141) (by omega) (by omega) (aa hs 134 rfl) (aa hs 135 rfl) (aa hs 136 rfl) (aa hs 137 rfl) (aa hs 138 rfl) (aa hs 140 rfl) (aa hs 141 rfl),y133,m83,m84];rfl
 have f154:v 154=if v 152≠0 then (10800000:Int) else v 150:=aa hs 154 rfl
 have f152:v 152=if v 110≠0 then (1:Int) else v 151:=aa hs 152 rfl
 have y154:v 154=wrZ (wQ a b S00 S01 S02 S03 0) (wQ a b S00 S01 S02 S03 1) (wQ a b S00 S01 S02 S03 2) (wQ a b S10 S11 S12 S13 0) (wQ a b S10 S11 S12 S13 1) (wQ a b S10 S11 S12 S13 2):=by
  unfold wrZ
  by_cases q0:wQ a b S00 S01 S02 S03 2=0
  . have k51:v 51=0:=by rw [f51,w50,q0];rfl
    by_cases q1:wQ a b S10 S11 S12 S13 2=0
    . have k100:v 100=0:=by rw [f100,w99,q1];rfl
      rw [if_neg (by omega)]
      have z110:v 110=0:=ax (X:=cxS [a,b,c,d,n]) (v:=v) (l:=fQ) (iD _) hs (k:=110) (r:=.c 0) (ps:=[(19,.c 0),(51,.c 0),(66,.c 0),(100,.c 0)]) (nz:=[]) (ae k19 (ae k51 (ae k66 (ae k100 av)))) aA (by kernel_rfl)
      have z111:v 111=v 105:=dB (X:=cxS [a,b,c,d,n]) (v:=v) (l:=fQ) (iD _) hs (k:=111) (j:=105) (ps:=[(19,.c 0),(51,.c 0),(66,.c 0),(100,.c 0)]) (ae k19 (ae k51 (ae k66 (ae k100 av)))) (by kernel_rfl)
      have z112:v 112=v 106:=dB (X:=cxS [a,b,c,d,n]) (v:=v) (l:=fQ) (iD _) hs (k:=112) (j:=106) (ps:=[(19,.c 0),(51,.c 0),(66,.c 0),(100,.c 0)]) (ae k19 (ae k51 (ae k66 (ae k100 av)))) (by kernel_rfl)
      have z102:v 102=v 48:=dB (X:=cxS [a,b,c,d,n]) (v:=v) (l:=fQ) (iD _) hs (k:=102) (j:=48) (ps:=[(19,.c 0),(51,.c 0),(66,.c 0),(100,.c 0)]) (ae k19 (ae k51 (ae k66 (ae k100 av)))) (by kernel_rfl)
      have z103:v 103=v 49:=dB (X:=cxS [a,b,c,d,n]) (v:=v) (l:=fQ) (iD _) hs (k:=103) (j:=49) (ps:=[(19,.c 0),(51,.c 0),(66,.c 0),(100,.c 0)]) (ae k19 (ae k51 (ae k66 (ae k100 av)))) (by kernel_rfl)
      have m105:v 105=min (v 102) (v 97):=iI (aa hs 105 rfl);have m106:v 106=max (v 103) (v 98):=fH (aa hs 106 rfl);rw [z102,w48,w97] at m105;rw [z103,w49,w98] at m106;have y142:v 142=v 106-v 105:=by rw [show v 142=IntKind.i64.wrap (v 112-v 111) from aa hs 142 rfl,z111,z112,Go.IntWalk.i64_in _ (by omega)]
      have y150:v 150=wrT (wQ a b S00 S01 S02 S03 0) (wQ a b S00 S01 S02 S03 1) (wQ a b S10 S11 S12 S13 0) (wQ a b S10 S11 S12 S13 1):=by
       rw [iF (x:=v 142) (m:=4) (y:=v 143) (q:=v 144) (r:=v 145) (c:=v 146) (s:=v 147) (t:=v 149) (z:=v 150) (by omega) (by omega) (aa hs 143 rfl) (aa hs 144 rfl) (aa hs 145 rfl) (aa hs 146 rfl) (aa hs 147 rfl) (aa hs 149 rfl) (aa hs 150 rfl),y142,m105,m106];rfl
      have k152:v 152=v 151:=by rw [f152,if_neg (by omega)]
      rw [f154,k152,show v 151=b2i (decide (v 150>(10800000:Int))) from aa hs 151 rfl,y150]
      by_cases q:wrT (wQ a b S00 S01 S02 S03 0) (wQ a b S00 S01 S02 S03 1) (wQ a b S10 S11 S12 S13 0) (wQ a b S10 S11 S12 S13 1)>10800000<;>simp [q,b2i]
    . have k100:v 100=1:=by rw [f100,w99,show (wQ a b S10 S11 S12 S13 2 != (0:Int))=true from by simp [q1]];rfl
      rw [if_pos (.inr q1)];have z110:v 110=1:=ax (X:=cxS [a,b,c,d,n]) (v:=v) (l:=fQ) (iD _) hs (k:=110) (r:=.c 1) (ps:=[(19,.c 0),(66,.c 0),(100,.c 1)]) (nz:=[]) (ae k19 (ae k66 (ae k100 av))) aA (by kernel_rfl)
      rw [f154,f152,z110];rfl
  . have k51:v 51=1:=by rw [f51,w50,show (wQ a b S00 S01 S02 S03 2 != (0:Int))=true from by simp [q0]];rfl
    rw [if_pos (.inl q0)];have z110:v 110=1:=ax (X:=cxS [a,b,c,d,n]) (v:=v) (l:=fQ) (iD _) hs (k:=110) (r:=.c 1) (ps:=[(19,.c 0),(51,.c 1),(66,.c 0)]) (nz:=[]) (ae k19 (ae k51 (ae k66 av))) aA (by kernel_rfl)
    rw [f154,f152,z110];rfl
 refine ⟨bB ?_,?_⟩
 . exact ag (fun _=>(show aQ (v 0) (v 1)=true by rw [e0,e1];exact A1)) (ag (fun _=>(show aQ (v 0) (v 1)=true by rw [e0,e1];exact A1)) (ag (fun _=>(show fB (v 0) (v 1) (v 2) (v 3) (v 12) (v 13) by rw [e0,e1,e2,e3,w12,w13];exact T0)) (ag (fun _=>(show aQ (v 16) (v 17)=true by rw [w16,w17,aJ];omega)) (ag (fun _=>(show aQ (v 16) (v 17)=true by rw [w16,w17,aJ];omega)) (ag (fun _=>(show aQ (v 14) (v 15)=true by rw [w14,w15,aJ];omega)) (ag (fun _=>(show aQ (v 14) (v 15)=true by rw [w14,w15,aJ];omega)) (ag (fun _=>(show fxV (v 8) (v 9)=true/\fxV (v 21) (v 22)=true by rw [w8,w9,w21,w22];exact ⟨dn _ _,dn _ _⟩)) (ag (fun _=>(show fxV (v 5) (v 6)=true/\fxV (v 30) (v 31)=true by rw [w5,w6,w30,w31];exact ⟨dn _ _,dn _ _⟩)) (ag (fun _=>(show fxV (v 8) (v 9)=true/\fxV (v 27) (v 28)=true by rw [w8,w9,w27,w28];exact ⟨dn _ _,dn _ _⟩)) (ag (fun _=>(show fxV (v 39) (v 40)=true/\fxV (v 24) (v 25)=true by rw [w39,w40,w24,w25];exact ⟨(ic _ _).2.2,dn _ _⟩)) (ag (fun _=>(show fxV (v 36) (v 37)=true/\fxV (v 42) (v 43)=true by rw [w36,w37,w42,w43];exact ⟨(ic _ _).2.2,(ic _ _).2.2⟩)) (ag (fun _=>(show qoP (v 45) (v 46) (v 30) (v 31) 60000 by rw [w45,w46,w30,w31];exact ⟨(ic _ _).2.2,dn _ _,ve _ _ (by omega),by decide,by decide⟩)) (ag (fun _=>(show fB (v 0) (v 1) (v 2) (v 3) (v 59) (v 60) by rw [e0,e1,e2,e3,w59,w60];exact T1)) (ag (fun _=>(show aQ (v 63) (v 64)=true by rw [w63,w64,aJ];omega)) (ag (fun _=>(show aQ (v 63) (v 64)=true by rw [w63,w64,aJ];omega)) (ag (fun _=>(show aQ (v 61) (v 62)=true by rw [w61,w62,aJ];omega)) (ag (fun _=>(show aQ (v 61) (v 62)=true by rw [w61,w62,aJ];omega)) (ag (fun _=>(show fxV (v 8) (v 9)=true/\fxV (v 68) (v 69)=true by rw [w8,w9,w68,w69];exact ⟨dn _ _,dn _ _⟩)) (ag (fun _=>(show fxV (v 5) (v 6)=true/\fxV (v 77) (v 78)=true by rw [w5,w6,w77,w78];exact ⟨dn _ _,dn _ _⟩)) (ag (fun _=>(show fxV (v 8) (v 9)=true/\fxV (v 74) (v 75)=true by rw [w8,w9,w74,w75];exact ⟨dn _ _,dn _ _⟩)) (ag (fun _=>(show fxV (v 88) (v 89)=true/\fxV (v 71) (v 72)=true by rw [w88,w89,w71,w72];exact ⟨(ic _ _).2.2,dn _ _⟩)) (ag (fun _=>(show fxV (v 85) (v 86)=true/\fxV (v 91) (v 92)=true by rw [w85,w86,w91,w92];exact ⟨(ic _ _).2.2,(ic _ _).2.2⟩)) (ag (fun _=>(show qoP (v 94) (v 95) (v 77) (v 78) 60000 by rw [w94,w95,w77,w78];exact ⟨(ic _ _).2.2,dn _ _,ve _ _ (by omega),by decide,by decide⟩)) (bu))))))))))))))))))))))))
 . intro x hx0;have hx':=bM (v:=v) (by rfl) hx0
   rw [hx'];show Value.tuple #[.agg #[.int .i64 (v 176),.int .i64 (v 177)],.int .i64 (v 156)]=_;rw [z176,z177,z156,y141,y154];unfold wrV;rw [hS00,hS01,hS02,hS03,hS10,hS11,hS12,hS13];rfl
def I9:List Nd:=[
 .arg 0,
 .arg 1,
 .arg 2,
 .arg 3,
 .arg 4,
 .bin .mul .i64 (.n 4) (.c 60000),
 .bin .add .i64 (.n 5) (.c 0),
 .bin .add .i64 (.n 6) (.c 30000),
 .app 53 0 [.n 0,.n 1,.n 2,.n 3,.n 6,.n 7],
 .app 53 1 [.n 0,.n 1,.n 2,.n 3,.n 6,.n 7],
 .app 53 2 [.n 0,.n 1,.n 2,.n 3,.n 6,.n 7],
 .app 53 3 [.n 0,.n 1,.n 2,.n 3,.n 6,.n 7],
 .app 6 0 [.n 0,.n 1],
 .app 6 1 [.n 0,.n 1],
 .app 5 0 [.n 10,.n 11],
 .app 5 1 [.n 10,.n 11],
 .app 0 0 [.n 12,.n 13,.n 14,.n 15],
 .app 0 1 [.n 12,.n 13,.n 14,.n 15],
 .app 0 2 [.n 12,.n 13,.n 14,.n 15],
 .app 5 0 [.n 0,.n 1],
 .app 5 1 [.n 0,.n 1],
 .app 6 0 [.n 8,.n 9],
 .app 6 1 [.n 8,.n 9],
 .app 0 0 [.n 19,.n 20,.n 21,.n 22],
 .app 0 1 [.n 19,.n 20,.n 21,.n 22],
 .app 0 2 [.n 19,.n 20,.n 21,.n 22],
 .app 5 0 [.n 8,.n 9],
 .app 5 1 [.n 8,.n 9],
 .app 0 0 [.n 12,.n 13,.n 26,.n 27],
 .app 0 1 [.n 12,.n 13,.n 26,.n 27],
 .app 0 2 [.n 12,.n 13,.n 26,.n 27],
 .app 6 0 [.n 10,.n 11],
 .app 6 1 [.n 10,.n 11],
 .app 0 0 [.n 28,.n 29,.n 31,.n 32],
 .app 0 1 [.n 28,.n 29,.n 31,.n 32],
 .app 0 2 [.n 28,.n 29,.n 31,.n 32],
 .app 2 0 [.n 23,.n 24,.n 33,.n 34],
 .app 2 1 [.n 23,.n 24,.n 33,.n 34],
 .app 2 2 [.n 23,.n 24,.n 33,.n 34],
 .app 12 0 [.n 36,.n 37,.n 21,.n 22,.c 60000],
 .app 12 1 [.n 36,.n 37,.n 21,.n 22,.c 60000],
 .app 12 2 [.n 36,.n 37,.n 21,.n 22,.c 60000],
 .bin .neq .i64 (.n 41) (.c 0),
 .ite (.n 42) (.c 0) (.c 1),
 .bin .add .i64 (.n 5) (.c 30000),
 .bin .add .i64 (.n 44) (.c 30000),
 .app 53 0 [.n 0,.n 1,.n 2,.n 3,.n 44,.n 45],
 .app 53 1 [.n 0,.n 1,.n 2,.n 3,.n 44,.n 45],
 .app 53 2 [.n 0,.n 1,.n 2,.n 3,.n 44,.n 45],
 .app 53 3 [.n 0,.n 1,.n 2,.n 3,.n 44,.n 45],
 .app 5 0 [.n 48,.n 49],
 .app 5 1 [.n 48,.n 49],
 .app 0 0 [.n 12,.n 13,.n 50,.n 51],
 .app 0 1 [.n 12,.n 13,.n 50,.n 51],
 .app 0 2 [.n 12,.n 13,.n 50,.n 51],
 .bin .lss .i64 (.n 52) (.n 16),
 .ite (.n 55) (.c 0) (.c 1),
 .ite (.n 55) (.n 52) (.n 16),
 .bin .gtr .i64 (.n 53) (.n 17),
 .ite (.n 58) (.c 0) (.c 1),
 .ite (.n 58) (.n 53) (.n 17),
 .app 6 0 [.n 46,.n 47],
 .app 6 1 [.n 46,.n 47],
 .app 0 0 [.n 19,.n 20,.n 61,.n 62],
 .app 0 1 [.n 19,.n 20,.n 61,.n 62],
 .app 0 2 [.n 19,.n 20,.n 61,.n 62],
 .app 5 0 [.n 46,.n 47],
 .app 5 1 [.n 46,.n 47],
 .app 0 0 [.n 12,.n 13,.n 66,.n 67],
 .app 0 1 [.n 12,.n 13,.n 66,.n 67],
 .app 0 2 [.n 12,.n 13,.n 66,.n 67],
 .app 6 0 [.n 48,.n 49],
 .app 6 1 [.n 48,.n 49],
 .app 0 0 [.n 68,.n 69,.n 71,.n 72],
 .app 0 1 [.n 68,.n 69,.n 71,.n 72],
 .app 0 2 [.n 68,.n 69,.n 71,.n 72],
 .app 2 0 [.n 63,.n 64,.n 73,.n 74],
 .app 2 1 [.n 63,.n 64,.n 73,.n 74],
 .app 2 2 [.n 63,.n 64,.n 73,.n 74],
 .app 12 0 [.n 76,.n 77,.n 61,.n 62,.c 60000],
 .app 12 1 [.n 76,.n 77,.n 61,.n 62,.c 60000],
 .app 12 2 [.n 76,.n 77,.n 61,.n 62,.c 60000],
 .bin .neq .i64 (.n 81) (.c 0),
 .ite (.n 82) (.c 0) (.c 1),
 .ite (.n 82) (.c 1) (.n 42),
 .bin .lss .i64 (.n 79) (.n 39),
 .ite (.n 85) (.c 0) (.c 1),
 .ite (.n 85) (.n 79) (.n 39),
 .bin .gtr .i64 (.n 80) (.n 40),
 .ite (.n 88) (.c 0) (.c 1),
 .ite (.n 88) (.n 80) (.n 40),
 .bin .sub .i64 (.n 60) (.n 57),
 .bin .mul .i64 (.n 91) (.c 60000),
 .bin .quo .i64 (.n 92) (.c 4294967296),
 .bin .rem .i64 (.n 92) (.c 4294967296),
 .bin .gtr .i64 (.n 94) (.c 0),
 .bin .add .i64 (.n 93) (.c 1),
 .ite (.n 95) (.c 0) (.c 1),
 .ite (.n 95) (.n 96) (.n 93),
 .bin .sub .i64 (.n 90) (.n 87),
 .bin .quo .i64 (.n 99) (.c 4),
 .bin .rem .i64 (.n 99) (.c 4),
 .bin .gtr .i64 (.n 101) (.c 0),
 .bin .add .i64 (.n 100) (.c 1),
 .ite (.n 102) (.c 0) (.c 1),
 .ite (.n 102) (.n 103) (.n 100),
 .bin .gtr .i64 (.n 105) (.c 10800000),
 .ite (.n 84) (.c 1) (.n 106),
 .ite (.n 107) (.c 0) (.c 1),
 .ite (.n 107) (.c 10800000) (.n 105)]
def Vu:List Vc:=[
 ⟨[],.pre 53 [.n 0,.n 1,.n 2,.n 3,.n 6,.n 7]⟩,
 ⟨[],.pre 6 [.n 0,.n 1]⟩,
 ⟨[],.pre 5 [.n 10,.n 11]⟩,
 ⟨[],.pre 0 [.n 12,.n 13,.n 14,.n 15]⟩,
 ⟨[],.pre 5 [.n 0,.n 1]⟩,
 ⟨[],.pre 6 [.n 8,.n 9]⟩,
 ⟨[],.pre 0 [.n 19,.n 20,.n 21,.n 22]⟩,
 ⟨[],.pre 6 [.n 0,.n 1]⟩,
 ⟨[],.pre 5 [.n 8,.n 9]⟩,
 ⟨[],.pre 0 [.n 12,.n 13,.n 26,.n 27]⟩,
 ⟨[],.pre 6 [.n 10,.n 11]⟩,
 ⟨[],.pre 0 [.n 28,.n 29,.n 31,.n 32]⟩,
 ⟨[],.pre 2 [.n 23,.n 24,.n 33,.n 34]⟩,
 ⟨[],.pre 6 [.n 8,.n 9]⟩,
 ⟨[],.pre 12 [.n 36,.n 37,.n 21,.n 22,.c 60000]⟩,
 ⟨[],.pre 53 [.n 0,.n 1,.n 2,.n 3,.n 44,.n 45]⟩,
 ⟨[],.pre 6 [.n 0,.n 1]⟩,
 ⟨[],.pre 5 [.n 48,.n 49]⟩,
 ⟨[],.pre 0 [.n 12,.n 13,.n 50,.n 51]⟩,
 ⟨[],.pre 5 [.n 0,.n 1]⟩,
 ⟨[],.pre 6 [.n 46,.n 47]⟩,
 ⟨[],.pre 0 [.n 19,.n 20,.n 61,.n 62]⟩,
 ⟨[],.pre 6 [.n 0,.n 1]⟩,
 ⟨[],.pre 5 [.n 46,.n 47]⟩,
 ⟨[],.pre 0 [.n 12,.n 13,.n 66,.n 67]⟩,
 ⟨[],.pre 6 [.n 48,.n 49]⟩,
 ⟨[],.pre 0 [.n 68,.n 69,.n 71,.n 72]⟩,
 ⟨[],.pre 2 [.n 63,.n 64,.n 73,.n 74]⟩,
 ⟨[],.pre 6 [.n 46,.n 47]⟩,
 ⟨[],.pre 12 [.n 76,.n 77,.n 61,.n 62,.c 60000]⟩]
theorem Vh:whole Tryz.prog spS 20 40 8 [(true,[some .i64,some .i64]),(true,[some .i64,some .i64]),(false,[some .i64])]=some (.tup [.c (.int .i64 (.n 98)),.c (.int .i64 (.n 109))],⟨I9.reverse,Vu.reverse⟩):=by kernel_rfl
theorem Wj:wfN I9.reverse=true:=by kernel_rfl
theorem LC (a b c d n:Int) (w:World) (h1:-5400000<=a/\a<=b/\b<=5400000) (h2:-5400000<=c/\c<=d/\d<=5400000) (h3:0<=n/\n<=179):Calls Tryz.prog 8 #[.agg #[.int .i64 a,.int .i64 b],.agg #[.int .i64 c,.int .i64 d],.int .i64 n] w fun e w'=>e=.returned (.tuple #[.int .i64 ((wrV a b c d n).getD 0 0),.int .i64 ((wrV a b c d n).getD 1 0)])/\Below w.heap.size w w':=by
 refine Sx.calls (X:=cxS [a,b,c,d,n]) dP (Q3 _) Vh Wj (fun v hs=>?_) w
 have e0:v 0=a:=aa hs 0 rfl;have e1:v 1=b:=aa hs 1 rfl;have e2:v 2=c:=aa hs 2 rfl;have e3:v 3=d:=aa hs 3 rfl;have e4:v 4=n:=aa hs 4 rfl;have A1:aQ a b=true:=(aJ _ _).2 (by omega)
 have w5:v 5=n*60000:=by rw [show v 5=IntKind.i64.wrap (v 4*(60000:Int)) from aa hs 5 rfl,e4,Go.IntWalk.i64_in _ (by omega)]
 have w6:v 6=n*60000+0*30000:=by rw [show v 6=IntKind.i64.wrap (v 5+(0:Int)) from aa hs 6 rfl,w5,Go.IntWalk.i64_in _ (by omega)];omega
 have w7:v 7=n*60000+0*30000+30000:=by rw [show v 7=IntKind.i64.wrap (v 6+(30000:Int)) from aa hs 7 rfl,w6,Go.IntWalk.i64_in _ (by omega)]
 have T0:fB a b c d (n*60000+0*30000) (n*60000+0*30000+30000):=⟨h1,h2,by omega⟩
 have sb0:=C8 a b c d (n*60000+0*30000) (n*60000+0*30000+30000);have w8:v 8=wS a b c d n 0 0:=by rw [show v 8=(fD 53 [v 0,v 1,v 2,v 3,v 6,v 7]).getD 0 0 from aa hs 8 rfl,e0,e1,e2,e3,w6,w7];rfl
 have w9:v 9=wS a b c d n 0 1:=by rw [show v 9=(fD 53 [v 0,v 1,v 2,v 3,v 6,v 7]).getD 1 0 from aa hs 9 rfl,e0,e1,e2,e3,w6,w7];rfl
 have w10:v 10=wS a b c d n 0 2:=by rw [show v 10=(fD 53 [v 0,v 1,v 2,v 3,v 6,v 7]).getD 2 0 from aa hs 10 rfl,e0,e1,e2,e3,w6,w7];rfl
 have w11:v 11=wS a b c d n 0 3:=by rw [show v 11=(fD 53 [v 0,v 1,v 2,v 3,v 6,v 7]).getD 3 0 from aa hs 11 rfl,e0,e1,e2,e3,w6,w7];rfl
 have bs0:(-5400000<=wS a b c d n 0 0/\wS a b c d n 0 0<=wS a b c d n 0 1/\wS a b c d n 0 1<=5400000)/\(0<=wS a b c d n 0 2/\wS a b c d n 0 2<=21599999/\wS a b c d n 0 2<=wS a b c d n 0 3/\wS a b c d n 0 3<=wS a b c d n 0 2+21600000):=sb0;clear sb0;have w44:v 44=n*60000+1*30000:=by rw [show v 44=IntKind.i64.wrap (v 5+(30000:Int)) from aa hs 44 rfl,w5,Go.IntWalk.i64_in _ (by omega)];omega
 have w45:v 45=n*60000+1*30000+30000:=by rw [show v 45=IntKind.i64.wrap (v 44+(30000:Int)) from aa hs 45 rfl,w44,Go.IntWalk.i64_in _ (by omega)]
 have T1:fB a b c d (n*60000+1*30000) (n*60000+1*30000+30000):=⟨h1,h2,by omega⟩
 have sb1:=C8 a b c d (n*60000+1*30000) (n*60000+1*30000+30000);have w46:v 46=wS a b c d n 1 0:=by rw [show v 46=(fD 53 [v 0,v 1,v 2,v 3,v 44,v 45]).getD 0 0 from aa hs 46 rfl,e0,e1,e2,e3,w44,w45];rfl
 have w47:v 47=wS a b c d n 1 1:=by rw [show v 47=(fD 53 [v 0,v 1,v 2,v 3,v 44,v 45]).getD 1 0 from aa hs 47 rfl,e0,e1,e2,e3,w44,w45];rfl
 have w48:v 48=wS a b c d n 1 2:=by rw [show v 48=(fD 53 [v 0,v 1,v 2,v 3,v 44,v 45]).getD 2 0 from aa hs 48 rfl,e0,e1,e2,e3,w44,w45];rfl
 have w49:v 49=wS a b c d n 1 3:=by rw [show v 49=(fD 53 [v 0,v 1,v 2,v 3,v 44,v 45]).getD 3 0 from aa hs 49 rfl,e0,e1,e2,e3,w44,w45];rfl
 have bs1:(-5400000<=wS a b c d n 1 0/\wS a b c d n 1 0<=wS a b c d n 1 1/\wS a b c d n 1 1<=5400000)/\(0<=wS a b c d n 1 2/\wS a b c d n 1 2<=21599999/\wS a b c d n 1 2<=wS a b c d n 1 3/\wS a b c d n 1 3<=wS a b c d n 1 2+21600000):=sb1;clear sb1;generalize hS00:wS a b c d n 0 0=S00 at *
 generalize hS01:wS a b c d n 0 1=S01 at *
 generalize hS02:wS a b c d n 0 2=S02 at *
 generalize hS03:wS a b c d n 0 3=S03 at *
 generalize hS10:wS a b c d n 1 0=S10 at *
 generalize hS11:wS a b c d n 1 1=S11 at *
 generalize hS12:wS a b c d n 1 2=S12 at *
 generalize hS13:wS a b c d n 1 3=S13 at *
 have w19:v 19=bC a b:=wg2 5 0 e0 e1 (aa hs 19 rfl);have w20:v 20=bI a b:=wg2 5 1 e0 e1 (aa hs 20 rfl);have w12:v 12=bC (a+5400000) (b+5400000):=wg2 6 0 e0 e1 (aa hs 12 rfl);have w13:v 13=bI (a+5400000) (b+5400000):=wg2 6 1 e0 e1 (aa hs 13 rfl);have w14:v 14=bC S02 S03:=wg2 5 0 w10 w11 (aa hs 14 rfl);have w15:v 15=bI S02 S03:=wg2 5 1 w10 w11 (aa hs 15 rfl);have w31:v 31=bC (S02+5400000) (S03+5400000):=wg2 6 0 w10 w11 (aa hs 31 rfl);have w32:v 32=bI (S02+5400000) (S03+5400000):=wg2 6 1 w10 w11 (aa hs 32 rfl);have w26:v 26=bC S00 S01:=wg2 5 0 w8 w9 (aa hs 26 rfl);have w27:v 27=bI S00 S01:=wg2 5 1 w8 w9 (aa hs 27 rfl);have w21:v 21=bC (S00+5400000) (S01+5400000):=wg2 6 0 w8 w9 (aa hs 21 rfl);have w22:v 22=bI (S00+5400000) (S01+5400000):=wg2 6 1 w8 w9 (aa hs 22 rfl);have w50:v 50=bC S12 S13:=wg2 5 0 w48 w49 (aa hs 50 rfl);have w51:v 51=bI S12 S13:=wg2 5 1 w48 w49 (aa hs 51 rfl);have w71:v 71=bC (S12+5400000) (S13+5400000):=wg2 6 0 w48 w49 (aa hs 71 rfl);have w72:v 72=bI (S12+5400000) (S13+5400000):=wg2 6 1 w48 w49 (aa hs 72 rfl);have w66:v 66=bC S10 S11:=wg2 5 0 w46 w47 (aa hs 66 rfl);have w67:v 67=bI S10 S11:=wg2 5 1 w46 w47 (aa hs 67 rfl);have w61:v 61=bC (S10+5400000) (S11+5400000):=wg2 6 0 w46 w47 (aa hs 61 rfl);have w62:v 62=bI (S10+5400000) (S11+5400000):=wg2 6 1 w46 w47 (aa hs 62 rfl);have w16:v 16=wR a b S02 S03 0:=wg4 0 0 w12 w13 w14 w15 (aa hs 16 rfl);have w17:v 17=wR a b S02 S03 1:=wg4 0 1 w12 w13 w14 w15 (aa hs 17 rfl);have w23:v 23=wA a b S00 S01 0:=wg4 0 0 w19 w20 w21 w22 (aa hs 23 rfl);have w24:v 24=wA a b S00 S01 1:=wg4 0 1 w19 w20 w21 w22 (aa hs 24 rfl);have w28:v 28=wC a b S00 S01 0:=wg4 0 0 w12 w13 w26 w27 (aa hs 28 rfl);have w29:v 29=wC a b S00 S01 1:=wg4 0 1 w12 w13 w26 w27 (aa hs 29 rfl);have w33:v 33=wB a b S00 S01 S02 S03 0:=wg4 0 0 w28 w29 w31 w32 (aa hs 33 rfl);have w34:v 34=wB a b S00 S01 S02 S03 1:=wg4 0 1 w28 w29 w31 w32 (aa hs 34 rfl);have w36:v 36=wD a b S00 S01 S02 S03 0:=wg4 2 0 w23 w24 w33 w34 (aa hs 36 rfl);have w37:v 37=wD a b S00 S01 S02 S03 1:=wg4 2 1 w23 w24 w33 w34 (aa hs 37 rfl);have w52:v 52=wR a b S12 S13 0:=wg4 0 0 w12 w13 w50 w51 (aa hs 52 rfl);have w53:v 53=wR a b S12 S13 1:=wg4 0 1 w12 w13 w50 w51 (aa hs 53 rfl);have w63:v 63=wA a b S10 S11 0:=wg4 0 0 w19 w20 w61 w62 (aa hs 63 rfl);have w64:v 64=wA a b S10 S11 1:=wg4 0 1 w19 w20 w61 w62 (aa hs 64 rfl);have w68:v 68=wC a b S10 S11 0:=wg4 0 0 w12 w13 w66 w67 (aa hs 68 rfl);have w69:v 69=wC a b S10 S11 1:=wg4 0 1 w12 w13 w66 w67 (aa hs 69 rfl);have w73:v 73=wB a b S10 S11 S12 S13 0:=wg4 0 0 w68 w69 w71 w72 (aa hs 73 rfl);have w74:v 74=wB a b S10 S11 S12 S13 1:=wg4 0 1 w68 w69 w71 w72 (aa hs 74 rfl);have w76:v 76=wD a b S10 S11 S12 S13 0:=wg4 2 0 w63 w64 w73 w74 (aa hs 76 rfl);have w77:v 77=wD a b S10 S11 S12 S13 1:=wg4 2 1 w63 w64 w73 w74 (aa hs 77 rfl);have w39:v 39=wQ a b S00 S01 S02 S03 0:=by rw [show v 39=(tF 12 [v 36,v 37,v 21,v 22,60000]).getD 0 0 from aa hs 39 rfl,w36,w37,w21,w22];rfl
 have w40:v 40=wQ a b S00 S01 S02 S03 1:=by rw [show v 40=(tF 12 [v 36,v 37,v 21,v 22,60000]).getD 1 0 from aa hs 40 rfl,w36,w37,w21,w22];rfl
 have w41:v 41=wQ a b S00 S01 S02 S03 2:=by rw [show v 41=(tF 12 [v 36,v 37,v 21,v 22,60000]).getD 2 0 from aa hs 41 rfl,w36,w37,w21,w22];rfl
 have w79:v 79=wQ a b S10 S11 S12 S13 0:=by rw [show v 79=(tF 12 [v 76,v 77,v 61,v 62,60000]).getD 0 0 from aa hs 79 rfl,w76,w77,w61,w62];rfl
 have w80:v 80=wQ a b S10 S11 S12 S13 1:=by rw [show v 80=(tF 12 [v 76,v 77,v 61,v 62,60000]).getD 1 0 from aa hs 80 rfl,w76,w77,w61,w62];rfl
 have w81:v 81=wQ a b S10 S11 S12 S13 2:=by rw [show v 81=(tF 12 [v 76,v 77,v 61,v 62,60000]).getD 2 0 from aa hs 81 rfl,w76,w77,w61,w62];rfl
 have R0:=(bS _ _).1 (zF a b S02 S03);have R1:=(bS _ _).1 (zF a b S12 S13);have Q0:=IU a b S00 S01 S02 S03;have Q1:=IU a b S10 S11 S12 S13;have f42:v 42=b2i (v 41 != (0:Int)):=aa hs 42 rfl;have f82:v 82=b2i (v 81 != (0:Int)):=aa hs 82 rfl;have m57:v 57=min (v 16) (v 52):=zy (aa hs 55 rfl) (aa hs 57 rfl);have m60:v 60=max (v 17) (v 53):=zT (aa hs 58 rfl) (aa hs 60 rfl);rw [w16,w52] at m57;rw [w17,w53] at m60;have y91:v 91=v 60-v 57:=by rw [show v 91=IntKind.i64.wrap (v 60-v 57) from aa hs 91 rfl,Go.IntWalk.i64_in _ (by omega)]
 have y92:v 92=(v 60-v 57)*60000:=by rw [show v 92=IntKind.i64.wrap (v 91*(60000:Int)) from aa hs 92 rfl,y91,Go.IntWalk.i64_in _ (by omega)]
 have y98:v 98=wrH (wR a b S02 S03 0) (wR a b S02 S03 1) (wR a b S12 S13 0) (wR a b S12 S13 1):=by
  rw [Fz (x:=v 92) (m:=4294967296) (q:=v 93) (r:=v 94) (c:=v 95) (s:=v 96) (z:=v 98) (by omega) (by omega) (aa hs 93 rfl) (aa hs 94 rfl) (aa hs 95 rfl) (aa hs 96 rfl) (aa hs 98 rfl),y92,m57,m60];rfl
 have m87:v 87=min (v 39) (v 79):=zy (aa hs 85 rfl) (aa hs 87 rfl);have m90:v 90=max (v 40) (v 80):=zT (aa hs 88 rfl) (aa hs 90 rfl);rw [w39,w79] at m87;rw [w40,w80] at m90;have y99:v 99=v 90-v 87:=by rw [show v 99=IntKind.i64.wrap (v 90-v 87) from aa hs 99 rfl,Go.IntWalk.i64_in _ (by omega)]
 have y105:v 105=wrT (wQ a b S00 S01 S02 S03 0) (wQ a b S00 S01 S02 S03 1) (wQ a b S10 S11 S12 S13 0) (wQ a b S10 S11 S12 S13 1):=by
  rw [Fz (x:=v 99) (m:=4) (q:=v 100) (r:=v 101) (c:=v 102) (s:=v 103) (z:=v 105) (by omega) (by omega) (aa hs 100 rfl) (aa hs 101 rfl) (aa hs 102 rfl) (aa hs 103 rfl) (aa hs 105 rfl),y99,m87,m90];rfl
 have y109:v 109=wrZ (wQ a b S00 S01 S02 S03 0) (wQ a b S00 S01 S02 S03 1) (wQ a b S00 S01 S02 S03 2) (wQ a b S10 S11 S12 S13 0) (wQ a b S10 S11 S12 S13 1) (wQ a b S10 S11 S12 S13 2):=by
  unfold wrZ;rw [show v 109=if v 107≠0 then (10800000:Int) else v 105 from aa hs 109 rfl,show v 107=if v 84≠0 then (1:Int) else v 106 from aa hs 107 rfl,show v 84=if v 82≠0 then (1:Int) else v 42 from aa hs 84 rfl,show v 106=b2i (decide (v 105>(10800000:Int))) from aa hs 106 rfl,y105,f82,f42,w41,w81]
  by_cases q0:wQ a b S00 S01 S02 S03 2=0<;>by_cases q1:wQ a b S10 S11 S12 S13 2=0<;>by_cases q:wrT (wQ a b S00 S01 S02 S03 0) (wQ a b S00 S01 S02 S03 1) (wQ a b S10 S11 S12 S13 0) (wQ a b S10 S11 S12 S13 1)>10800000<;>simp [q0,q1,q,b2i]
 refine ⟨bB ?_,?_⟩
 . exact ag (fun _=>(show fB (v 0) (v 1) (v 2) (v 3) (v 6) (v 7) by rw [e0,e1,e2,e3,w6,w7];exact T0)) (ag (fun _=>(show aQ (v 0) (v 1)=true by rw [e0,e1];exact A1)) (ag (fun _=>(show aQ (v 10) (v 11)=true by rw [w10,w11,aJ];omega)) (ag (fun _=>(show fxV (v 12) (v 13)=true/\fxV (v 14) (v 15)=true by rw [w12,w13,w14,w15];exact ⟨dn _ _,dn _ _⟩)) (ag (fun _=>(show aQ (v 0) (v 1)=true by rw [e0,e1];exact A1)) (ag (fun _=>(show aQ (v 8) (v 9)=true by rw [w8,w9,aJ];omega)) (ag (fun _=>(show fxV (v 19) (v 20)=true/\fxV (v 21) (v 22)=true by rw [w19,w20,w21,w22];exact ⟨dn _ _,dn _ _⟩)) (ag (fun _=>(show aQ (v 0) (v 1)=true by rw [e0,e1];exact A1)) (ag (fun _=>(show aQ (v 8) (v 9)=true by rw [w8,w9,aJ];omega)) (ag (fun _=>(show fxV (v 12) (v 13)=true/\fxV (v 26) (v 27)=true by rw [w12,w13,w26,w27];exact ⟨dn _ _,dn _ _⟩)) (ag (fun _=>(show aQ (v 10) (v 11)=true by rw [w10,w11,aJ];omega)) (ag (fun _=>(show fxV (v 28) (v 29)=true/\fxV (v 31) (v 32)=true by rw [w28,w29,w31,w32];exact ⟨(ic _ _).2.2,dn _ _⟩)) (ag (fun _=>(show fxV (v 23) (v 24)=true/\fxV (v 33) (v 34)=true by rw [w23,w24,w33,w34];exact ⟨(ic _ _).2.2,(ic _ _).2.2⟩)) (ag (fun _=>(show aQ (v 8) (v 9)=true by rw [w8,w9,aJ];omega)) (ag (fun _=>(show qoP (v 36) (v 37) (v 21) (v 22) 60000 by rw [w36,w37,w21,w22];exact ⟨(ic _ _).2.2,dn _ _,ve _ _ (by omega),by decide,by decide⟩)) (ag (fun _=>(show fB (v 0) (v 1) (v 2) (v 3) (v 44) (v 45) by rw [e0,e1,e2,e3,w44,w45];exact T1)) (ag (fun _=>(show aQ (v 0) (v 1)=true by rw [e0,e1];exact A1)) (ag (fun _=>(show aQ (v 48) (v 49)=true by rw [w48,w49,aJ];omega)) (ag (fun _=>(show fxV (v 12) (v 13)=true/\fxV (v 50) (v 51)=true by rw [w12,w13,w50,w51];exact ⟨dn _ _,dn _ _⟩)) (ag (fun _=>(show aQ (v 0) (v 1)=true by rw [e0,e1];exact A1)) (ag (fun _=>(show aQ (v 46) (v 47)=true by rw [w46,w47,aJ];omega)) (ag (fun _=>(show fxV (v 19) (v 20)=true/\fxV (v 61) (v 62)=true by rw [w19,w20,w61,w62];exact ⟨dn _ _,dn _ _⟩)) (ag (fun _=>(show aQ (v 0) (v 1)=true by rw [e0,e1];exact A1)) (ag (fun _=>(show aQ (v 46) (v 47)=true by rw [w46,w47,aJ];omega)) (ag (fun _=>(show fxV (v 12) (v 13)=true/\fxV (v 66) (v 67)=true by rw [w12,w13,w66,w67];exact ⟨dn _ _,dn _ _⟩)) (ag (fun _=>(show aQ (v 48) (v 49)=true by rw [w48,w49,aJ];omega)) (ag (fun _=>(show fxV (v 68) (v 69)=true/\fxV (v 71) (v 72)=true by rw [w68,w69,w71,w72];exact ⟨(ic _ _).2.2,dn _ _⟩)) (ag (fun _=>(show fxV (v 63) (v 64)=true/\fxV (v 73) (v 74)=true by rw [w63,w64,w73,w74];exact ⟨(ic _ _).2.2,(ic _ _).2.2⟩)) (ag (fun _=>(show aQ (v 46) (v 47)=true by rw [w46,w47,aJ];omega)) (ag (fun _=>(show qoP (v 76) (v 77) (v 61) (v 62) 60000 by rw [w76,w77,w61,w62];exact ⟨(ic _ _).2.2,dn _ _,ve _ _ (by omega),by decide,by decide⟩)) (bu))))))))))))))))))))))))))))))
 . intro x hx0;have hx':=bM (v:=v) (by rfl) hx0
   rw [hx'];show Value.tuple #[.int .i64 (v 98),.int .i64 (v 109)]=_;rw [y98,y109];unfold wrV;rw [hS00,hS01,hS02,hS03,hS10,hS11,hS12,hS13];rfl
end Go.Proofs.YtoniodlcogpdbaaGreat
namespace Go.Proofs.YtoniodlcogpdbaaGreat
open Go.RowKit Alm Sx
def J4:List Nd:=[
 .arg 0,
 .arg 1,
 .arg 2,
 .arg 3,
 .arg 4,
 .arg 5,
 .arg 6,
 .arg 7,
 .arg 8,
 .arg 9,
 .arg 10,
 .arg 11,
 .bin .sub .i64 (.c 60000) (.n 10),
 .bin .mul .i64 (.n 0) (.n 12),
 .bin .mul .i64 (.n 4) (.n 10),
 .bin .add .i64 (.n 13) (.n 14),
 .bin .quo .i64 (.n 15) (.c 60000),
 .bin .rem .i64 (.n 15) (.c 60000),
 .bin .lss .i64 (.n 17) (.c 0),
 .bin .sub .i64 (.n 16) (.c 1),
 .ite (.n 18) (.c 0) (.c 1),
 .ite (.n 18) (.n 19) (.n 16),
 .bin .mul .i64 (.n 1) (.n 12),
 .bin .mul .i64 (.n 5) (.n 10),
 .bin .add .i64 (.n 22) (.n 23),
 .bin .sub .i64 (.c 0) (.n 24),
 .bin .quo .i64 (.n 25) (.c 60000),
 .bin .rem .i64 (.n 25) (.c 60000),
 .bin .lss .i64 (.n 27) (.c 0),
 .bin .sub .i64 (.n 26) (.c 1),
 .ite (.n 28) (.c 0) (.c 1),
 .ite (.n 28) (.n 29) (.n 26),
 .bin .sub .i64 (.c 0) (.n 31),
 .bin .sub .i64 (.c 60000) (.n 11),
 .bin .mul .i64 (.n 0) (.n 33),
 .bin .mul .i64 (.n 4) (.n 11),
 .bin .add .i64 (.n 34) (.n 35),
 .bin .quo .i64 (.n 36) (.c 60000),
 .bin .rem .i64 (.n 36) (.c 60000),
 .bin .lss .i64 (.n 38) (.c 0),
 .bin .sub .i64 (.n 37) (.c 1),
 .ite (.n 39) (.c 0) (.c 1),
 .ite (.n 39) (.n 40) (.n 37),
 .bin .mul .i64 (.n 1) (.n 33),
 .bin .mul .i64 (.n 5) (.n 11),
 .bin .add .i64 (.n 43) (.n 44),
 .bin .sub .i64 (.c 0) (.n 45),
 .bin .quo .i64 (.n 46) (.c 60000),
 .bin .rem .i64 (.n 46) (.c 60000),
 .bin .lss .i64 (.n 48) (.c 0),
 .bin .sub .i64 (.n 47) (.c 1),
 .ite (.n 49) (.c 0) (.c 1),
 .ite (.n 49) (.n 50) (.n 47),
 .bin .sub .i64 (.c 0) (.n 52),
 .mn (.n 21) (.n 42),
 .bin .sub .i64 (.n 54) (.n 8),
 .mx (.n 32) (.n 53),
 .bin .add .i64 (.n 56) (.n 8),
 .bin .sub .i64 (.n 3) (.n 2),
 .bin .geq .i64 (.n 58) (.c 21600000),
 .ite (.n 59) (.c 0) (.c 1),
 .bin .sub .i64 (.n 7) (.n 6),
 .bin .geq .i64 (.n 61) (.c 21600000),
 .ite (.n 62) (.c 0) (.c 1),
 .ite (.n 60) (.n 63) (.c 0),
 .bin .sub .i64 (.n 6) (.n 2),
 .bin .rem .i64 (.n 65) (.c 21600000),
 .bin .lss .i64 (.n 66) (.c 0),
 .bin .add .i64 (.n 66) (.c 21600000),
 .ite (.n 67) (.c 0) (.c 1),
 .ite (.n 67) (.n 68) (.n 66),
 .bin .geq .i64 (.n 70) (.c 10800000),
 .bin .sub .i64 (.n 70) (.c 21600000),
 .ite (.n 71) (.c 0) (.c 1),
 .ite (.n 71) (.n 72) (.n 70),
 .bin .add .i64 (.n 2) (.n 74),
 .bin .add .i64 (.n 75) (.n 7),
 .bin .sub .i64 (.n 76) (.n 6),
 .bin .mul .i64 (.n 2) (.n 12),
 .bin .mul .i64 (.n 75) (.n 10),
 .bin .add .i64 (.n 78) (.n 79),
 .bin .quo .i64 (.n 80) (.c 60000),
 .bin .rem .i64 (.n 80) (.c 60000),
 .bin .lss .i64 (.n 82) (.c 0),
 .bin .sub .i64 (.n 81) (.c 1),
 .ite (.n 83) (.c 0) (.c 1),
 .ite (.n 83) (.n 84) (.n 81),
 .bin .mul .i64 (.n 3) (.n 12),
 .bin .mul .i64 (.n 77) (.n 10),
 .bin .add .i64 (.n 87) (.n 88),
 .bin .sub .i64 (.c 0) (.n 89),
 .bin .quo .i64 (.n 90) (.c 60000),
 .bin .rem .i64 (.n 90) (.c 60000),
 .bin .lss .i64 (.n 92) (.c 0),
 .bin .sub .i64 (.n 91) (.c 1),
 .ite (.n 93) (.c 0) (.c 1),
 .ite (.n 93) (.n 94) (.n 91),
 .bin .sub .i64 (.c 0) (.n 96),
 .bin .mul .i64 (.n 2) (.n 33),
 .bin .mul .i64 (.n 75) (.n 11),
 .bin .add .i64 (.n 98) (.n 99),
 .bin .quo .i64 (.n 100) (.c 60000),
 .bin .rem .i64 (.n 100) (.c 60000),
 .bin .lss .i64 (.n 102) (.c 0),
 .bin .sub .i64 (.n 101) (.c 1),
 .ite (.n 103) (.c 0) (.c 1),
 .ite (.n 103) (.n 104) (.n 101),
 .bin .mul .i64 (.n 3) (.n 33),
 .bin .mul .i64 (.n 77) (.n 11),
 .bin .add .i64 (.n 107) (.n 108),
 .bin .sub .i64 (.c 0) (.n 109),
 .bin .quo .i64 (.n 110) (.c 60000),
 .bin .rem .i64 (.n 110) (.c 60000),
 .bin .lss .i64 (.n 112) (.c 0),
 .bin .sub .i64 (.n 111) (.c 1),
 .ite (.n 113) (.c 0) (.c 1),
 .ite (.n 113) (.n 114) (.n 111),
 .bin .sub .i64 (.c 0) (.n 116),
 .mn (.n 86) (.n 106),
 .bin .sub .i64 (.n 118) (.n 9),
 .mx (.n 97) (.n 117),
 .bin .add .i64 (.n 120) (.n 9),
 .bin .sub .i64 (.n 121) (.n 119),
 .bin .geq .i64 (.n 122) (.c 21600000),
 .ite (.n 123) (.c 0) (.c 1),
 .bin .rem .i64 (.n 119) (.c 21600000),
 .bin .lss .i64 (.n 125) (.c 0),
 .bin .add .i64 (.n 125) (.c 21600000),
 .ite (.n 126) (.c 0) (.c 1),
 .ite (.n 126) (.n 127) (.n 125),
 .bin .add .i64 (.n 129) (.n 121),
 .bin .sub .i64 (.n 130) (.n 119),
 .ite (.n 123) (.c 0) (.n 129),
 .ite (.n 123) (.c 21600000) (.n 131),
 .ite (.n 64) (.c 0) (.c 1),
 .ite (.n 64) (.n 132) (.c 0),
 .ite (.n 64) (.n 133) (.c 21600000)]
def Uz:List Vc:=[
 ]
theorem U7:whole Tryz.prog [] 20 40 17 [(true,[some .i64,some .i64,some .i64,some .i64]),(true,[some .i64,some .i64,some .i64,some .i64]),(true,[some .i64,some .i64]),(true,[some .i64,some .i64])]=some (.p (.agg [.int .i64 (.n 55),.int .i64 (.n 57),.int .i64 (.n 135),.int .i64 (.n 136)]),⟨J4.reverse,Uz.reverse⟩):=by kernel_rfl
theorem Ud:wfN J4.reverse=true:=by kernel_rfl
theorem AU (a0 a1 a2 a3 b0 b1 b2 b3 f g u v1:Int) (w:World) (h:hrP a0 a1 a2 a3 b0 b1 b2 b3 f g u v1):Calls Tryz.prog 17 #[.agg #[.int .i64 a0,.int .i64 a1,.int .i64 a2,.int .i64 a3],.agg #[.int .i64 b0,.int .i64 b1,.int .i64 b2,.int .i64 b3],.agg #[.int .i64 f,.int .i64 g],.agg #[.int .i64 u,.int .i64 v1]] w fun e w'=>e=.returned (.agg #[.int .i64 ((hrV a0 a1 a2 a3 b0 b1 b2 b3 f g u v1).getD 0 0),.int .i64 ((hrV a0 a1 a2 a3 b0 b1 b2 b3 f g u v1).getD 1 0),.int .i64 ((hrV a0 a1 a2 a3 b0 b1 b2 b3 f g u v1).getD 2 0),.int .i64 ((hrV a0 a1 a2 a3 b0 b1 b2 b3 f g u v1).getD 3 0)])/\Below w.heap.size w w':=by
 refine Sx.calls (X:=cxE [a0,a1,a2,a3,b0,b1,b2,b3,f,g,u,v1]) dP (fun s hs=>by cases hs) U7 Ud (fun v hs=>?_) w
 have e0:v 0=a0:=aa hs 0 rfl;have e1:v 1=a1:=aa hs 1 rfl;have e2:v 2=a2:=aa hs 2 rfl;have e3:v 3=a3:=aa hs 3 rfl;have e4:v 4=b0:=aa hs 4 rfl;have e5:v 5=b1:=aa hs 5 rfl;have e6:v 6=b2:=aa hs 6 rfl;have e7:v 7=b3:=aa hs 7 rfl;have e8:v 8=f:=aa hs 8 rfl;have e9:v 9=g:=aa hs 9 rfl;have e10:v 10=u:=aa hs 10 rfl;have e11:v 11=v1:=aa hs 11 rfl;have hv:hrP (v 0) (v 1) (v 2) (v 3) (v 4) (v 5) (v 6) (v 7) (v 8) (v 9) (v 10) (v 11):=by rw [e0,e1,e2,e3,e4,e5,e6,e7,e8,e9,e10,e11];exact h
 obtain ⟨⟨ha0,ha1,ha2,ha3⟩,⟨hb0,hb1,hb2,hb3⟩,⟨hf,hg⟩,hu,hw⟩:=hv;unfold hrQ at ha0 ha1 ha2 ha3 hb0 hb1 hb2 hb3 hf hg;clear e0 e1 e2 e3 e4 e5 e6 e7 e8 e9 e10 e11 h;have s15:=iR (a:=v 0) (b:=v 4) (u:=v 10) (w:=v 12) (p:=v 13) (q:=v 14) (s:=v 15) (by omega) (by omega) (by omega) (aa hs 12 rfl) (aa hs 13 rfl) (aa hs 14 rfl) (aa hs 15 rfl)
 have f21:v 21=atF (v 0) (v 4) (v 10):=by rw [fK (x:=v 15) (m:=60000) (q:=v 16) (r:=v 17) (c:=v 18) (s:=v 19) (z:=v 21) (by omega) (by omega) (aa hs 16 rfl) (aa hs 17 rfl) (aa hs 18 rfl) (aa hs 19 rfl) (aa hs 21 rfl),s15.1];rfl
 have s24:=iR (a:=v 1) (b:=v 5) (u:=v 10) (w:=v 12) (p:=v 22) (q:=v 23) (s:=v 24) (by omega) (by omega) (by omega) (aa hs 12 rfl) (aa hs 22 rfl) (aa hs 23 rfl) (aa hs 24 rfl)
 have f32:v 32=atC (v 1) (v 5) (v 10):=by rw [iF (x:=v 24) (m:=60000) (y:=v 25) (q:=v 26) (r:=v 27) (c:=v 28) (s:=v 29) (t:=v 31) (z:=v 32) (by omega) (by omega) (aa hs 25 rfl) (aa hs 26 rfl) (aa hs 27 rfl) (aa hs 28 rfl) (aa hs 29 rfl) (aa hs 31 rfl) (aa hs 32 rfl),s24.1];rfl
 have s36:=iR (a:=v 0) (b:=v 4) (u:=v 11) (w:=v 33) (p:=v 34) (q:=v 35) (s:=v 36) (by omega) (by omega) (by omega) (aa hs 33 rfl) (aa hs 34 rfl) (aa hs 35 rfl) (aa hs 36 rfl)
 have f42:v 42=atF (v 0) (v 4) (v 11):=by rw [fK (x:=v 36) (m:=60000) (q:=v 37) (r:=v 38) (c:=v 39) (s:=v 40) (z:=v 42) (by omega) (by omega) (aa hs 37 rfl) (aa hs 38 rfl) (aa hs 39 rfl) (aa hs 40 rfl) (aa hs 42 rfl),s36.1];rfl
 have s45:=iR (a:=v 1) (b:=v 5) (u:=v 11) (w:=v 33) (p:=v 43) (q:=v 44) (s:=v 45) (by omega) (by omega) (by omega) (aa hs 33 rfl) (aa hs 43 rfl) (aa hs 44 rfl) (aa hs 45 rfl)
 have f53:v 53=atC (v 1) (v 5) (v 11):=by rw [iF (x:=v 45) (m:=60000) (y:=v 46) (q:=v 47) (r:=v 48) (c:=v 49) (s:=v 50) (t:=v 52) (z:=v 53) (by omega) (by omega) (aa hs 46 rfl) (aa hs 47 rfl) (aa hs 48 rfl) (aa hs 49 rfl) (aa hs 50 rfl) (aa hs 52 rfl) (aa hs 53 rfl),s45.1];rfl
 have w58:v 58=v 3-v 2:=by rw [show v 58=IntKind.i64.wrap (v 3-v 2) from aa hs 58 rfl,Go.IntWalk.i64_in _ (by omega)]
 have w61:v 61=v 7-v 6:=by rw [show v 61=IntKind.i64.wrap (v 7-v 6) from aa hs 61 rfl,Go.IntWalk.i64_in _ (by omega)]
 have w64:v 64=b2i (decide (hrB (v 2) (v 3) (v 6) (v 7))):=by
  rw [show v 64=if v 60≠0 then v 63 else (0:Int) from aa hs 64 rfl,show v 60=if v 59≠0 then (0:Int) else (1:Int) from aa hs 60 rfl,show v 63=if v 62≠0 then (0:Int) else (1:Int) from aa hs 63 rfl,show v 59=b2i (decide (v 58>=(21600000:Int))) from aa hs 59 rfl,show v 62=b2i (decide (v 61>=(21600000:Int))) from aa hs 62 rfl,w58,w61]
  unfold hrB
  by_cases q1:v 3-v 2>=21600000<;>by_cases q2:v 7-v 6>=21600000<;>simp [q1,q2,b2i]
 have w65:v 65=v 6-v 2:=by rw [show v 65=IntKind.i64.wrap (v 6-v 2) from aa hs 65 rfl,Go.IntWalk.i64_in _ (by omega)]
 have w70:v 70=v 65%21600000:=gN (r:=v 66) (c:=v 67) (s:=v 68) (by omega) (aa hs 66 rfl) (aa hs 67 rfl) (aa hs 68 rfl) (aa hs 70 rfl)
 have w74:=PP (x:=v 65) (w:=v 70) (g:=v 71) (s:=v 72) (z:=v 74) w70 (aa hs 71 rfl) (aa hs 72 rfl) (aa hs 74 rfl)
 have w75:v 75=v 2+sgt (v 6-v 2)/\-200000000<=v 75/\v 75<=200000000:=by
  have q:v 75=v 2+v 74:=by rw [show v 75=IntKind.i64.wrap (v 2+v 74) from aa hs 75 rfl,Go.IntWalk.i64_in _ (by omega)]
  refine ⟨?_,by omega,by omega⟩
  rw [q,w74.1,w65]
 have w77:v 77=v 2+sgt (v 6-v 2)+v 7-v 6/\-500000000<=v 77/\v 77<=500000000:=by
  have q:v 76=v 75+v 7:=by rw [show v 76=IntKind.i64.wrap (v 75+v 7) from aa hs 76 rfl,Go.IntWalk.i64_in _ (by omega)]
  have q2:v 77=v 76-v 6:=by rw [show v 77=IntKind.i64.wrap (v 76-v 6) from aa hs 77 rfl,Go.IntWalk.i64_in _ (by omega)]
  refine ⟨?_,by omega,by omega⟩
  rw [q2,q,w75.1]
 have s80:=iR (a:=v 2) (b:=v 75) (u:=v 10) (w:=v 12) (p:=v 78) (q:=v 79) (s:=v 80) (by omega) (by omega) (by omega) (aa hs 12 rfl) (aa hs 78 rfl) (aa hs 79 rfl) (aa hs 80 rfl)
 have f86:v 86=atF (v 2) (v 75) (v 10):=by rw [fK (x:=v 80) (m:=60000) (q:=v 81) (r:=v 82) (c:=v 83) (s:=v 84) (z:=v 86) (by omega) (by omega) (aa hs 81 rfl) (aa hs 82 rfl) (aa hs 83 rfl) (aa hs 84 rfl) (aa hs 86 rfl),s80.1];rfl
 have s89:=iR (a:=v 3) (b:=v 77) (u:=v 10) (w:=v 12) (p:=v 87) (q:=v 88) (s:=v 89) (by omega) (by omega) (by omega) (aa hs 12 rfl) (aa hs 87 rfl) (aa hs 88 rfl) (aa hs 89 rfl)
 have f97:v 97=atC (v 3) (v 77) (v 10):=by rw [iF (x:=v 89) (m:=60000) (y:=v 90) (q:=v 91) (r:=v 92) (c:=v 93) (s:=v 94) (t:=v 96) (z:=v 97) (by omega) (by omega) (aa hs 90 rfl) (aa hs 91 rfl) (aa hs 92 rfl) (aa hs 93 rfl) (aa hs 94 rfl) (aa hs 96 rfl) (aa hs 97 rfl),s89.1];rfl
 have s100:=iR (a:=v 2) (b:=v 75) (u:=v 11) (w:=v 33) (p:=v 98) (q:=v 99) (s:=v 100) (by omega) (by omega) (by omega) (aa hs 33 rfl) (aa hs 98 rfl) (aa hs 99 rfl) (aa hs 100 rfl)
 have f106:v 106=atF (v 2) (v 75) (v 11):=by rw [fK (x:=v 100) (m:=60000) (q:=v 101) (r:=v 102) (c:=v 103) (s:=v 104) (z:=v 106) (by omega) (by omega) (aa hs 101 rfl) (aa hs 102 rfl) (aa hs 103 rfl) (aa hs 104 rfl) (aa hs 106 rfl),s100.1];rfl
 have s109:=iR (a:=v 3) (b:=v 77) (u:=v 11) (w:=v 33) (p:=v 107) (q:=v 108) (s:=v 109) (by omega) (by omega) (by omega) (aa hs 33 rfl) (aa hs 107 rfl) (aa hs 108 rfl) (aa hs 109 rfl)
 have f117:v 117=atC (v 3) (v 77) (v 11):=by rw [iF (x:=v 109) (m:=60000) (y:=v 110) (q:=v 111) (r:=v 112) (c:=v 113) (s:=v 114) (t:=v 116) (z:=v 117) (by omega) (by omega) (aa hs 110 rfl) (aa hs 111 rfl) (aa hs 112 rfl) (aa hs 113 rfl) (aa hs 114 rfl) (aa hs 116 rfl) (aa hs 117 rfl),s109.1];rfl
 have d0_4_10:=lv (a:=v 0) (b:=v 4) (u:=v 10) (by omega) (by omega) (by omega)
 have d0_4_11:=lv (a:=v 0) (b:=v 4) (u:=v 11) (by omega) (by omega) (by omega)
 have d1_5_10:=lv (a:=v 1) (b:=v 5) (u:=v 10) (by omega) (by omega) (by omega)
 have d1_5_11:=lv (a:=v 1) (b:=v 5) (u:=v 11) (by omega) (by omega) (by omega)
 have d2_75_10:=lv (a:=v 2) (b:=v 75) (u:=v 10) (by omega) (by omega) (by omega)
 have d2_75_11:=lv (a:=v 2) (b:=v 75) (u:=v 11) (by omega) (by omega) (by omega)
 have d3_77_10:=lv (a:=v 3) (b:=v 77) (u:=v 10) (by omega) (by omega) (by omega)
 have d3_77_11:=lv (a:=v 3) (b:=v 77) (u:=v 11) (by omega) (by omega) (by omega)
 have m54:v 54=min (v 21) (v 42):=iI (aa hs 54 rfl);have m118:v 118=min (v 86) (v 106):=iI (aa hs 118 rfl);have m56:v 56=max (v 32) (v 53):=fH (aa hs 56 rfl);have m120:v 120=max (v 97) (v 117):=fH (aa hs 120 rfl);rw [f21,f42] at m54;rw [f32,f53] at m56;rw [f86,f106] at m118;rw [f97,f117] at m120;have z55:v 55=ovL (v 0) (v 4) (v 10) (v 11) (v 8):=by rw [show v 55=IntKind.i64.wrap (v 54-v 8) from aa hs 55 rfl,m54,Go.IntWalk.i64_in _ (by omega)];rfl
 have z57:v 57=ovH (v 1) (v 5) (v 10) (v 11) (v 8):=by rw [show v 57=IntKind.i64.wrap (v 56+v 8) from aa hs 57 rfl,m56,Go.IntWalk.i64_in _ (by omega)];rfl
 have z119:v 119=hrL (v 2) (v 6) (v 10) (v 11) (v 9)/\-2000000000<=v 119/\v 119<=2000000000:=by
  have q:v 119=v 118-v 9:=by rw [show v 119=IntKind.i64.wrap (v 118-v 9) from aa hs 119 rfl,Go.IntWalk.i64_in _ (by omega)]
  refine ⟨?_,by omega,by omega⟩
  rw [q,m118,w75.1];rfl
 have z121:v 121=hrH (v 2) (v 3) (v 6) (v 7) (v 10) (v 11) (v 9)/\-2000000000<=v 121/\v 121<=2000000000:=by
  have q:v 121=v 120+v 9:=by rw [show v 121=IntKind.i64.wrap (v 120+v 9) from aa hs 121 rfl,Go.IntWalk.i64_in _ (by omega)]
  refine ⟨?_,by omega,by omega⟩
  rw [q,m120,w77.1];rfl
 have w122:v 122=v 121-v 119:=by rw [show v 122=IntKind.i64.wrap (v 121-v 119) from aa hs 122 rfl,Go.IntWalk.i64_in _ (by omega)]
 have w123:v 123=b2i (decide (v 121-v 119>=(21600000:Int))):=by rw [show v 123=b2i (decide (v 122>=(21600000:Int))) from aa hs 123 rfl,w122]
 have w129:v 129=v 119%21600000:=gN (r:=v 125) (c:=v 126) (s:=v 127) (by omega) (aa hs 125 rfl) (aa hs 126 rfl) (aa hs 127 rfl) (aa hs 129 rfl)
 have w131:v 131=v 119%21600000+(v 121-v 119):=by
  have q:v 130=v 129+v 121:=by rw [show v 130=IntKind.i64.wrap (v 129+v 121) from aa hs 130 rfl,Go.IntWalk.i64_in _ (by omega)]
  rw [show v 131=IntKind.i64.wrap (v 130-v 119) from aa hs 131 rfl,Go.IntWalk.i64_in _ (by omega)];omega
 have x133:v 133=trH (v 119) (v 121):=by
  rw [show v 133=if v 123≠0 then (21600000:Int) else v 131 from aa hs 133 rfl,w123,w131]
  unfold trH
  by_cases q:v 121-v 119>=21600000<;>simp [q,b2i]
 have x132:v 132=trL (v 119) (v 121):=by
  rw [show v 132=if v 123≠0 then (0:Int) else v 129 from aa hs 132 rfl,w123,w129]
  unfold trL
  by_cases q:v 121-v 119>=21600000<;>simp [q,b2i]
 have x135:v 135=if hrB (v 2) (v 3) (v 6) (v 7) then trL (hrL (v 2) (v 6) (v 10) (v 11) (v 9)) (hrH (v 2) (v 3) (v 6) (v 7) (v 10) (v 11) (v 9)) else 0:=by
  rw [show v 135=if v 64≠0 then v 132 else (0:Int) from aa hs 135 rfl,w64,x132,z119.1,z121.1]
  by_cases q:hrB (v 2) (v 3) (v 6) (v 7)<;>simp [q,b2i]
 have x136:v 136=if hrB (v 2) (v 3) (v 6) (v 7) then trH (hrL (v 2) (v 6) (v 10) (v 11) (v 9)) (hrH (v 2) (v 3) (v 6) (v 7) (v 10) (v 11) (v 9)) else 21600000:=by
  rw [show v 136=if v 64≠0 then v 133 else (21600000:Int) from aa hs 136 rfl,w64,x133,z119.1,z121.1]
  by_cases q:hrB (v 2) (v 3) (v 6) (v 7)<;>simp [q,b2i]
 refine ⟨bB ?_,?_⟩
 . exact bu
 . intro x hx0;have hx':=bM (v:=v) (by rfl) hx0
   rw [hx'];show Value.agg #[.int .i64 (v 55),.int .i64 (v 57),.int .i64 (v 135),.int .i64 (v 136)]=_;rw [z55,z57,x135,x136];have E:hrV (v 0) (v 1) (v 2) (v 3) (v 4) (v 5) (v 6) (v 7) (v 8) (v 9) (v 10) (v 11)=hrV a0 a1 a2 a3 b0 b1 b2 b3 f g u v1:=by rw [show v 0=a0 from aa hs 0 rfl,show v 1=a1 from aa hs 1 rfl,show v 2=a2 from aa hs 2 rfl,show v 3=a3 from aa hs 3 rfl,show v 4=b0 from aa hs 4 rfl,show v 5=b1 from aa hs 5 rfl,show v 6=b2 from aa hs 6 rfl,show v 7=b3 from aa hs 7 rfl,show v 8=f from aa hs 8 rfl,show v 9=g from aa hs 9 rfl,show v 10=u from aa hs 10 rfl,show v 11=v1 from aa hs 11 rfl]
   rw [<-E];rfl
end Go.Proofs.YtoniodlcogpdbaaGreat
namespace Go.Proofs.YtoniodlcogpdbaaGreat
open Go.RowKit Alm Sx
theorem QJ:∀ n:Nat,n<=2700000->(n:Rat)*(1/10000000)<=zs n
 | 0,_=>by rw [gM];grind
 | n+1,h=>by
  have a:=QJ n (by omega)
  have b:=zs_up n (by omega)
  have c:((n+1:Nat):Rat)=(n:Rat)+1:=by norm_cast
  rw [c];clear h c;grind
theorem ZA (n:Nat) (h:n=300000):3/100<=zs n:=by
 have a:=QJ n (by omega)
 have c:(n:Rat)=300000:=by rw [h];rfl
 rw [c] at a;clear c h;grind
theorem NK (k:Int) (h:300000<=k/\k<=5400000):1<=cz k:=by
 have b:=(nJ k.toNat (by omega)).2
 rw [Int.toNat_of_nonneg (by omega)] at b
 have z0:=ZA 300000 rfl;have e0:sS 300000=zs 300000:=by unfold sS;rw [if_neg (by omega),if_pos (by omega)]
 have m:zs 300000<=sS k.toNat:=by
  rw [<-e0]
  by_cases q:k=300000
  . rw [q];exact Rat.le_refl
  . exact Rat.le_of_lt (nG 300000 k.toNat (by omega) (by omega))
 generalize zs 300000=Z at *
 generalize sS k.toNat=T at *
 rw [fu] at b;refine Int.not_lt.1 fun hh=>?_
 have hs:cz k+(if dK k then 0 else 1)<=1:=by split<;>omega
 have hr:((cz k+(if dK k then 0 else 1):Int):Rat)<=((1:Int):Rat):=Rat.intCast_le_intCast.2 hs
 generalize ((cz k+(if dK k then 0 else 1):Int):Rat)=X at *
 have one:((1:Int):Rat)=1:=rfl;rw [one] at hr;clear hh hs h e0 one;grind
theorem Oo (m:Int) (h:60000<=m/\m<=5100000):1<=bC (m+5400000) (m+5400000):=by
 unfold bC
 have e1:dD (m+5400000) (m+5400000) 16200000=false:=by
  unfold dD au;simp;omega
 rw [e1,if_neg (by decide)]
 have e2:bLo (m+5400000)=cz (5400000-m):=by
  unfold bLo;have e3:dm (m+5400000)=false:=by unfold dm au;simp;omega
  have e4:aI (m+5400000)=5400000-m:=by unfold aI au;simp only [];split<;>split<;>omega
  rw [e3,e4];rfl
 rw [e2];have:=NK (5400000-m) (by omega)
 omega
theorem RQ (m:Int):-1073741824<=bC m m/\bC m m<=bI m m/\bI m m<=1073741824:=by
 have:=U_S m m;unfold U uS at this;exact this
def dcQ (m:Int):List Int:=qoV (bC m m) (bI m m) (bC (m+5400000) (m+5400000)) (bI (m+5400000) (m+5400000)) 131
theorem uO {x d:Int} (hx:-1073741824<=x/\x<=1073741824) (hd:1<=d):(-140660178944<=qFl x 131 d/\qFl x 131 d<=140660178944)/\(-140660178944<=qCe x 131 d/\qCe x 131 d<=140660178944):=by
 unfold qFl qCe
 have g:∀ y:Int,-140660178944<=y->y<=140660178944->-140660178944<=y/d/\y/d<=140660178944:=by
  intro y h1 h2;refine ⟨(Int.le_ediv_iff_mul_le (by omega)).2 ?_,?_⟩
  . have:=Int.mul_le_mul_of_nonneg_left hd (show (0:Int)<=140660178944 by omega);omega
  . have:y/d<140660178945:=(Int.ediv_lt_iff_lt_mul (by omega)).2 (by have:=Int.mul_le_mul_of_nonneg_left hd (show (0:Int)<=140660178945 by omega);omega)
    omega
 have a:=g (x*131) (by omega) (by omega)
 have b:=g (-(x*131)) (by omega) (by omega)
 omega
theorem aaI (m:Int) (h:60000<=m/\m<=5100000):(dcQ m).getD 2 0=0/\(-140660178944<=(dcQ m).getD 1 0/\(dcQ m).getD 1 0<=140660178944)/\qoP (bC m m) (bI m m) (bC (m+5400000) (m+5400000)) (bI (m+5400000) (m+5400000)) 131:=by
 have a:=RQ m;have b:=RQ (m+5400000);have c:=Oo m h;generalize hA:bC m m=A at *
 generalize hB:bI m m=B at *
 generalize hC:bC (m+5400000) (m+5400000)=C at *
 generalize hD:bI (m+5400000) (m+5400000)=D at *
 have q1:=uO (x:=A) (d:=C) (by omega) (by omega)
 have q2:=uO (x:=A) (d:=D) (by omega) (by omega)
 have q3:=uO (x:=B) (d:=C) (by omega) (by omega)
 have q4:=uO (x:=B) (d:=D) (by omega) (by omega)
 have L:-140660178944<=qoL A B C D 131/\qoL A B C D 131<=140660178944:=by unfold qoL;omega
 have Hh:-140660178944<=qoH A B C D 131/\qoH A B C D 131<=140660178944:=by unfold qoH;omega
 have f1:dz (qoL A B C D 131)=true:=by unfold dz;simp;omega
 have f2:dz (qoH A B C D 131)=true:=by unfold dz;simp;omega
 have e:dcQ m=[qoL A B C D 131,qoH A B C D 131,0]:=by
  unfold dcQ qoV;rw [hA,hB,hC,hD,if_neg (by omega),if_pos ⟨f1,f2⟩]
 rw [e];exact ⟨rfl,Hh,(bS _ _).2 (by omega),(bS _ _).2 (by omega),by omega,by omega,by omega⟩
def dcM (a0 a1 b0 b1:Int):Int:=max (max (max a1 (-a0)) b1) (-b0)+60000
def dcB (a2 a3 b2 b3:Int):Prop:=a3-a2>=21600000∨b3-b2>=21600000
instance (a2 a3 b2 b3:Int):Decidable (dcB a2 a3 b2 b3):=by unfold dcB;infer_instance
def cvW (a2 a3 b2 b3:Int):Int:=max (a3-a2) ((b2-a2)%21600000+b3-b2)
def dcF (a2 a3 b2 b3:Int):Int:=if cvW b2 b3 a2 a3<cvW a2 a3 b2 b3 then b2 else a2
def dcW (a2 a3 b2 b3:Int):Int:=if cvW b2 b3 a2 a3<cvW a2 a3 b2 b3 then cvW b2 b3 a2 a3 else cvW a2 a3 b2 b3
def dcL (a2 a3 b2 b3:Int):Int:=if dcB a2 a3 b2 b3 then 0 else if dcW a2 a3 b2 b3<10800000 then trL (dcF a2 a3 b2 b3) (dcF a2 a3 b2 b3+dcW a2 a3 b2 b3) else 0
def dcH (a2 a3 b2 b3:Int):Int:=if dcB a2 a3 b2 b3 then 21600000 else if dcW a2 a3 b2 b3<10800000 then trH (dcF a2 a3 b2 b3) (dcF a2 a3 b2 b3+dcW a2 a3 b2 b3) else 21600000
def dcV (a0 a1 a2 a3 b0 b1 b2 b3 u v:Int):List Int:=if dcM a0 a1 b0 b1>5100000 then [0,0,0,0,24] else [ovL a0 b0 u v ((dcQ (dcM a0 a1 b0 b1)).getD 1 0),ovH a1 b1 u v ((dcQ (dcM a0 a1 b0 b1)).getD 1 0),dcL a2 a3 b2 b3,dcH a2 a3 b2 b3,0]
def dcP (a0 a1 a2 a3 b0 b1 b2 b3 u v:Int):Prop:=(hrQ a0/\hrQ a1/\hrQ a2/\hrQ a3)/\(hrQ b0/\hrQ b1/\hrQ b2/\hrQ b3)/\a0<=a1/\b0<=b1/\(0<=u/\u<=60000)/\(0<=v/\v<=60000)
theorem kif {c x y z:Int} {P:Prop} [Decidable P] (ec:c=b2i (decide P)) (ez:z=if c≠0 then x else y):z=if P then x else y:=by
 rw [ez,ec];by_cases q:P<;>simp [q,b2i]
def Ko:List Nd:=[
 .arg 0,
 .arg 1,
 .arg 2,
 .arg 3,
 .arg 4,
 .arg 5,
 .arg 6,
 .arg 7,
 .arg 8,
 .arg 9,
 .bin .sub .i64 (.c 0) (.n 0),
 .bin .sub .i64 (.c 0) (.n 4),
 .mx (.n 1) (.n 10),
 .mx (.n 12) (.n 5),
 .mx (.n 13) (.n 11),
 .bin .add .i64 (.n 14) (.c 60000),
 .bin .gtr .i64 (.n 15) (.c 5100000),
 .ite (.n 16) (.c 0) (.c 1),
 .app 5 0 [.n 15,.n 15],
 .app 5 1 [.n 15,.n 15],
 .app 5 2 [.n 15,.n 15],
 .app 6 0 [.n 15,.n 15],
 .app 6 1 [.n 15,.n 15],
 .app 6 2 [.n 15,.n 15],
 .app 12 0 [.n 18,.n 19,.n 21,.n 22,.c 131],
 .app 12 1 [.n 18,.n 19,.n 21,.n 22,.c 131],
 .app 12 2 [.n 18,.n 19,.n 21,.n 22,.c 131],
 .bin .neq .i64 (.n 26) (.c 0),
 .ite (.n 27) (.c 0) (.c 1),
 .bin .sub .i64 (.c 60000) (.n 8),
 .bin .mul .i64 (.n 0) (.n 29),
 .bin .mul .i64 (.n 4) (.n 8),
 .bin .add .i64 (.n 30) (.n 31),
 .bin .quo .i64 (.n 32) (.c 60000),
 .bin .rem .i64 (.n 32) (.c 60000),
 .bin .lss .i64 (.n 34) (.c 0),
 .bin .sub .i64 (.n 33) (.c 1),
 .ite (.n 35) (.c 0) (.c 1),
 .ite (.n 35) (.n 36) (.n 33),
 .bin .mul .i64 (.n 1) (.n 29),
 .bin .mul .i64 (.n 5) (.n 8),
 .bin .add .i64 (.n 39) (.n 40),
 .bin .sub .i64 (.c 0) (.n 41),
 .bin .quo .i64 (.n 42) (.c 60000),
 .bin .rem .i64 (.n 42) (.c 60000),
 .bin .lss .i64 (.n 44) (.c 0),
 .bin .sub .i64 (.n 43) (.c 1),
 .ite (.n 45) (.c 0) (.c 1),
 .ite (.n 45) (.n 46) (.n 43),
 .bin .sub .i64 (.c 0) (.n 48),
 .bin .sub .i64 (.c 60000) (.n 9),
 .bin .mul .i64 (.n 0) (.n 50),
 .bin .mul .i64 (.n 4) (.n 9),
 .bin .add .i64 (.n 51) (.n 52),
 .bin .quo .i64 (.n 53) (.c 60000),
 .bin .rem .i64 (.n 53) (.c 60000),
 .bin .lss .i64 (.n 55) (.c 0),
 .bin .sub .i64 (.n 54) (.c 1),
 .ite (.n 56) (.c 0) (.c 1),
 .ite (.n 56) (.n 57) (.n 54),
 .bin .mul .i64 (.n 1) (.n 50),
 .bin .mul .i64 (.n 5) (.n 9),
 .bin .add .i64 (.n 60) (.n 61),
 .bin .sub .i64 (.c 0) (.n 62),
 .bin .quo .i64 (.n 63) (.c 60000),
 .bin .rem .i64 (.n 63) (.c 60000),
 .bin .lss .i64 (.n 65) (.c 0),
 .bin .sub .i64 (.n 64) (.c 1),
 .ite (.n 66) (.c 0) (.c 1),
 .ite (.n 66) (.n 67) (.n 64),
 .bin .sub .i64 (.c 0) (.n 69),
 .mn (.n 38) (.n 59),
 .bin .sub .i64 (.n 71) (.n 25),
 .mx (.n 49) (.n 70),
 .bin .add .i64 (.n 73) (.n 25),
 .bin .sub .i64 (.n 3) (.n 2),
 .bin .geq .i64 (.n 75) (.c 21600000),
 .bin .sub .i64 (.n 7) (.n 6),
 .bin .geq .i64 (.n 77) (.c 21600000),
 .ite (.n 76) (.c 1) (.n 78),
 .ite (.n 79) (.c 0) (.c 1),
 .bin .sub .i64 (.n 6) (.n 2),
 .bin .rem .i64 (.n 81) (.c 21600000),
 .bin .lss .i64 (.n 82) (.c 0),
 .bin .add .i64 (.n 82) (.c 21600000),
 .ite (.n 83) (.c 0) (.c 1),
 .ite (.n 83) (.n 84) (.n 82),
 .bin .add .i64 (.n 86) (.n 7),
 .bin .sub .i64 (.n 87) (.n 6),
 .mx (.n 75) (.n 88),
 .bin .sub .i64 (.n 2) (.n 6),
 .bin .rem .i64 (.n 90) (.c 21600000),
 .bin .lss .i64 (.n 91) (.c 0),
 .bin .add .i64 (.n 91) (.c 21600000),
 .ite (.n 92) (.c 0) (.c 1),
 .ite (.n 92) (.n 93) (.n 91),
 .bin .add .i64 (.n 95) (.n 3),
 .bin .sub .i64 (.n 96) (.n 2),
 .mx (.n 77) (.n 97),
 .bin .lss .i64 (.n 98) (.n 89),
 .ite (.n 99) (.c 0) (.c 1),
 .ite (.n 99) (.n 6) (.n 2),
 .ite (.n 99) (.n 98) (.n 89),
 .bin .lss .i64 (.n 102) (.c 10800000),
 .bin .add .i64 (.n 101) (.n 102),
 .bin .sub .i64 (.n 104) (.n 101),
 .bin .geq .i64 (.n 105) (.c 21600000),
 .ite (.n 106) (.c 0) (.c 1),
 .bin .rem .i64 (.n 101) (.c 21600000),
 .bin .lss .i64 (.n 108) (.c 0),
 .bin .add .i64 (.n 108) (.c 21600000),
 .ite (.n 109) (.c 0) (.c 1),
 .ite (.n 109) (.n 110) (.n 108),
 .bin .add .i64 (.n 112) (.n 104),
 .bin .sub .i64 (.n 113) (.n 101),
 .ite (.n 106) (.c 0) (.n 112),
 .ite (.n 106) (.c 21600000) (.n 114),
 .ite (.n 103) (.c 0) (.c 1),
 .ite (.n 103) (.n 115) (.c 0),
 .ite (.n 103) (.n 116) (.c 21600000),
 .ite (.n 79) (.c 0) (.n 118),
 .ite (.n 79) (.c 21600000) (.n 119),
 .ite (.n 27) (.n 26) (.c 0),
 .ite (.n 27) (.c 0) (.n 72),
 .ite (.n 27) (.c 0) (.n 74),
 .ite (.n 27) (.c 0) (.n 120),
 .ite (.n 27) (.c 0) (.n 121),
 .ite (.n 16) (.c 24) (.n 122),
 .ite (.n 16) (.c 0) (.n 123),
 .ite (.n 16) (.c 0) (.n 124),
 .ite (.n 16) (.c 0) (.n 125),
 .ite (.n 16) (.c 0) (.n 126)]
def SL:List Vc:=[
 ⟨[(.n 17,true)],.pre 5 [.n 15,.n 15]⟩,
 ⟨[(.n 17,true)],.pre 6 [.n 15,.n 15]⟩,
 ⟨[(.n 17,true)],.pre 12 [.n 18,.n 19,.n 21,.n 22,.c 131]⟩]
theorem VU:whole Tryz.prog spQ 20 40 18 [(true,[some .i64,some .i64,some .i64,some .i64]),(true,[some .i64,some .i64,some .i64,some .i64]),(true,[some .i64,some .i64])]=some (.tup [.agg [.int .i64 (.n 128),.int .i64 (.n 129),.int .i64 (.n 130),.int .i64 (.n 131)],.c (.int .i64 (.n 127))],⟨Ko.reverse,SL.reverse⟩):=by kernel_rfl
theorem TM:wfN Ko.reverse=true:=by kernel_rfl
theorem Qp (a0 a1 a2 a3 b0 b1 b2 b3 u v1:Int) (w:World) (h:dcP a0 a1 a2 a3 b0 b1 b2 b3 u v1):Calls Tryz.prog 18 #[.agg #[.int .i64 a0,.int .i64 a1,.int .i64 a2,.int .i64 a3],.agg #[.int .i64 b0,.int .i64 b1,.int .i64 b2,.int .i64 b3],.agg #[.int .i64 u,.int .i64 v1]] w fun e w'=>e=.returned (.tuple #[.agg #[.int .i64 ((dcV a0 a1 a2 a3 b0 b1 b2 b3 u v1).getD 0 0),.int .i64 ((dcV a0 a1 a2 a3 b0 b1 b2 b3 u v1).getD 1 0),.int .i64 ((dcV a0 a1 a2 a3 b0 b1 b2 b3 u v1).getD 2 0),.int .i64 ((dcV a0 a1 a2 a3 b0 b1 b2 b3 u v1).getD 3 0)],.int .i64 ((dcV a0 a1 a2 a3 b0 b1 b2 b3 u v1).getD 4 0)])/\Below w.heap.size w w':=by
 refine Sx.calls (X:=cxF [a0,a1,a2,a3,b0,b1,b2,b3,u,v1]) dP (AZ _) VU TM (fun v hs=>?_) w
 have e0:v 0=a0:=aa hs 0 rfl;have e1:v 1=a1:=aa hs 1 rfl;have e2:v 2=a2:=aa hs 2 rfl;have e3:v 3=a3:=aa hs 3 rfl;have e4:v 4=b0:=aa hs 4 rfl;have e5:v 5=b1:=aa hs 5 rfl;have e6:v 6=b2:=aa hs 6 rfl;have e7:v 7=b3:=aa hs 7 rfl;have e8:v 8=u:=aa hs 8 rfl;have e9:v 9=v1:=aa hs 9 rfl;have hv:dcP (v 0) (v 1) (v 2) (v 3) (v 4) (v 5) (v 6) (v 7) (v 8) (v 9):=by rw [e0,e1,e2,e3,e4,e5,e6,e7,e8,e9];exact h
 obtain ⟨⟨ha0,ha1,ha2,ha3⟩,⟨hb0,hb1,hb2,hb3⟩,hA,hB,hu,hw⟩:=hv;unfold hrQ at ha0 ha1 ha2 ha3 hb0 hb1 hb2 hb3;clear e0 e1 e2 e3 e4 e5 e6 e7 e8 e9 h;have w10:v 10=-v 0:=by rw [show v 10=IntKind.i64.wrap ((0:Int)-v 0) from aa hs 10 rfl,Go.IntWalk.i64_in _ (by omega)];omega
 have w11:v 11=-v 4:=by rw [show v 11=IntKind.i64.wrap ((0:Int)-v 4) from aa hs 11 rfl,Go.IntWalk.i64_in _ (by omega)];omega
 have w15:v 15=dcM (v 0) (v 1) (v 4) (v 5):=by
  have q12:v 12=max (v 1) (v 10):=fH (aa hs 12 rfl);have q13:v 13=max (v 12) (v 5):=fH (aa hs 13 rfl);have q14:v 14=max (v 13) (v 11):=fH (aa hs 14 rfl);rw [show v 15=IntKind.i64.wrap (v 14+(60000:Int)) from aa hs 15 rfl,Go.IntWalk.i64_in _ (by omega),q14,q13,q12,w10,w11];rfl
 have s32:=iR (a:=v 0) (b:=v 4) (u:=v 8) (w:=v 29) (p:=v 30) (q:=v 31) (s:=v 32) (by omega) (by omega) (by omega) (aa hs 29 rfl) (aa hs 30 rfl) (aa hs 31 rfl) (aa hs 32 rfl)
 have f38:v 38=atF (v 0) (v 4) (v 8):=by rw [fK (x:=v 32) (m:=60000) (q:=v 33) (r:=v 34) (c:=v 35) (s:=v 36) (z:=v 38) (by omega) (by omega) (aa hs 33 rfl) (aa hs 34 rfl) (aa hs 35 rfl) (aa hs 36 rfl) (aa hs 38 rfl),s32.1];rfl
 have s41:=iR (a:=v 1) (b:=v 5) (u:=v 8) (w:=v 29) (p:=v 39) (q:=v 40) (s:=v 41) (by omega) (by omega) (by omega) (aa hs 29 rfl) (aa hs 39 rfl) (aa hs 40 rfl) (aa hs 41 rfl)
 have f49:v 49=atC (v 1) (v 5) (v 8):=by rw [iF (x:=v 41) (m:=60000) (y:=v 42) (q:=v 43) (r:=v 44) (c:=v 45) (s:=v 46) (t:=v 48) (z:=v 49) (by omega) (by omega) (aa hs 42 rfl) (aa hs 43 rfl) (aa hs 44 rfl) (aa hs 45 rfl) (aa hs 46 rfl) (aa hs 48 rfl) (aa hs 49 rfl),s41.1];rfl
 have s53:=iR (a:=v 0) (b:=v 4) (u:=v 9) (w:=v 50) (p:=v 51) (q:=v 52) (s:=v 53) (by omega) (by omega) (by omega) (aa hs 50 rfl) (aa hs 51 rfl) (aa hs 52 rfl) (aa hs 53 rfl)
 have f59:v 59=atF (v 0) (v 4) (v 9):=by rw [fK (x:=v 53) (m:=60000) (q:=v 54) (r:=v 55) (c:=v 56) (s:=v 57) (z:=v 59) (by omega) (by omega) (aa hs 54 rfl) (aa hs 55 rfl) (aa hs 56 rfl) (aa hs 57 rfl) (aa hs 59 rfl),s53.1];rfl
 have s62:=iR (a:=v 1) (b:=v 5) (u:=v 9) (w:=v 50) (p:=v 60) (q:=v 61) (s:=v 62) (by omega) (by omega) (by omega) (aa hs 50 rfl) (aa hs 60 rfl) (aa hs 61 rfl) (aa hs 62 rfl)
 have f70:v 70=atC (v 1) (v 5) (v 9):=by rw [iF (x:=v 62) (m:=60000) (y:=v 63) (q:=v 64) (r:=v 65) (c:=v 66) (s:=v 67) (t:=v 69) (z:=v 70) (by omega) (by omega) (aa hs 63 rfl) (aa hs 64 rfl) (aa hs 65 rfl) (aa hs 66 rfl) (aa hs 67 rfl) (aa hs 69 rfl) (aa hs 70 rfl),s62.1];rfl
 have d0_4_8:=lv (a:=v 0) (b:=v 4) (u:=v 8) (by omega) (by omega) (by omega)
 have d0_4_9:=lv (a:=v 0) (b:=v 4) (u:=v 9) (by omega) (by omega) (by omega)
 have d1_5_8:=lv (a:=v 1) (b:=v 5) (u:=v 8) (by omega) (by omega) (by omega)
 have d1_5_9:=lv (a:=v 1) (b:=v 5) (u:=v 9) (by omega) (by omega) (by omega)
 clear s32 s41 s53 s62;have w75:v 75=v 3-v 2:=by rw [show v 75=IntKind.i64.wrap (v 3-v 2) from aa hs 75 rfl,Go.IntWalk.i64_in _ (by omega)]
 have w77:v 77=v 7-v 6:=by rw [show v 77=IntKind.i64.wrap (v 7-v 6) from aa hs 77 rfl,Go.IntWalk.i64_in _ (by omega)]
 have w79:v 79=b2i (decide (dcB (v 2) (v 3) (v 6) (v 7))):=by
  rw [show v 79=if v 76≠0 then (1:Int) else v 78 from aa hs 79 rfl,show v 76=b2i (decide (v 75>=(21600000:Int))) from aa hs 76 rfl,show v 78=b2i (decide (v 77>=(21600000:Int))) from aa hs 78 rfl,w75,w77]
  unfold dcB
  by_cases q1:v 3-v 2>=21600000<;>by_cases q2:v 7-v 6>=21600000<;>simp [q1,q2,b2i]
 have w81:v 81=v 6-v 2:=by rw [show v 81=IntKind.i64.wrap (v 6-v 2) from aa hs 81 rfl,Go.IntWalk.i64_in _ (by omega)]
 have w86:v 86=v 81%21600000:=gN (r:=v 82) (c:=v 83) (s:=v 84) (by omega) (aa hs 82 rfl) (aa hs 83 rfl) (aa hs 84 rfl) (aa hs 86 rfl)
 have w87:v 87=v 86+v 7:=by rw [show v 87=IntKind.i64.wrap (v 86+v 7) from aa hs 87 rfl,Go.IntWalk.i64_in _ (by omega)]
 have w88:v 88=v 87-v 6:=by rw [show v 88=IntKind.i64.wrap (v 87-v 6) from aa hs 88 rfl,Go.IntWalk.i64_in _ (by omega)]
 have w90:v 90=v 2-v 6:=by rw [show v 90=IntKind.i64.wrap (v 2-v 6) from aa hs 90 rfl,Go.IntWalk.i64_in _ (by omega)]
 have w95:v 95=v 90%21600000:=gN (r:=v 91) (c:=v 92) (s:=v 93) (by omega) (aa hs 91 rfl) (aa hs 92 rfl) (aa hs 93 rfl) (aa hs 95 rfl)
 have w96:v 96=v 95+v 3:=by rw [show v 96=IntKind.i64.wrap (v 95+v 3) from aa hs 96 rfl,Go.IntWalk.i64_in _ (by omega)]
 have w97:v 97=v 96-v 2:=by rw [show v 97=IntKind.i64.wrap (v 96-v 2) from aa hs 97 rfl,Go.IntWalk.i64_in _ (by omega)]
 have c89:v 89=cvW (v 2) (v 3) (v 6) (v 7)/\-1000000000<=v 89/\v 89<=1000000000:=by
  have q:v 89=max (v 75) (v 88):=fH (aa hs 89 rfl);refine ⟨?_,by omega,by omega⟩
  rw [q];unfold cvW;omega
 have c98:v 98=cvW (v 6) (v 7) (v 2) (v 3)/\-1000000000<=v 98/\v 98<=1000000000:=by
  have q:v 98=max (v 77) (v 97):=fH (aa hs 98 rfl);refine ⟨?_,by omega,by omega⟩
  rw [q];unfold cvW;omega
 have w99:v 99=b2i (decide (cvW (v 6) (v 7) (v 2) (v 3)<cvW (v 2) (v 3) (v 6) (v 7))):=by rw [show v 99=b2i (decide (v 98<v 89)) from aa hs 99 rfl,c98.1,c89.1]
 have w101:v 101=dcF (v 2) (v 3) (v 6) (v 7):=kif (x:=v 6) (y:=v 2) w99 (aa hs 101 rfl);have F2:v 101=v 6∨v 101=v 2:=by rw [w101];unfold dcF;split;exact .inl rfl;exact .inr rfl
 have w102:v 102=dcW (v 2) (v 3) (v 6) (v 7):=by
  have q:v 102=if cvW (v 6) (v 7) (v 2) (v 3)<cvW (v 2) (v 3) (v 6) (v 7) then v 98 else v 89:=kif w99 (aa hs 102 rfl)
  rw [q,c98.1,c89.1];rfl
 have W2:v 102=v 98∨v 102=v 89:=by rw [show v 102=if v 99≠0 then v 98 else v 89 from aa hs 102 rfl];split;exact .inl rfl;exact .inr rfl
 have bc1:=c89.2;have bc2:=c98.2;have w104:v 104=v 101+v 102:=by rw [show v 104=IntKind.i64.wrap (v 101+v 102) from aa hs 104 rfl,Go.IntWalk.i64_in _ (by omega)]
 have w105:v 105=v 102:=by rw [show v 105=IntKind.i64.wrap (v 104-v 101) from aa hs 105 rfl,w104,Go.IntWalk.i64_in _ (by omega)];omega
 have w106:v 106=b2i (decide (v 101+v 102-v 101>=(21600000:Int))):=by rw [show v 106=b2i (decide (v 105>=(21600000:Int))) from aa hs 106 rfl,w105,show v 101+v 102-v 101=v 102 by omega]
 have w112:v 112=v 101%21600000:=gN (r:=v 108) (c:=v 109) (s:=v 110) (by omega) (aa hs 108 rfl) (aa hs 109 rfl) (aa hs 110 rfl) (aa hs 112 rfl)
 have w113:v 113=v 112+v 104:=by rw [show v 113=IntKind.i64.wrap (v 112+v 104) from aa hs 113 rfl,Go.IntWalk.i64_in _ (by omega)]
 have w114:v 114=v 101%21600000+(v 101+v 102-v 101):=by rw [show v 114=IntKind.i64.wrap (v 113-v 101) from aa hs 114 rfl,Go.IntWalk.i64_in _ (by omega)];omega
 have x115:v 115=trL (v 101) (v 101+v 102):=by
  have q:v 115=if v 101+v 102-v 101>=21600000 then 0 else v 112:=kif w106 (aa hs 115 rfl)
  rw [q,w112];rfl
 have x116:v 116=trH (v 101) (v 101+v 102):=by
  have q:v 116=if v 101+v 102-v 101>=21600000 then 21600000 else v 114:=kif w106 (aa hs 116 rfl)
  rw [q,w114];rfl
 have w103:v 103=b2i (decide (dcW (v 2) (v 3) (v 6) (v 7)<10800000)):=by rw [show v 103=b2i (decide (v 102<(10800000:Int))) from aa hs 103 rfl,w102]
 have y118:v 118=if dcW (v 2) (v 3) (v 6) (v 7)<10800000 then v 115 else 0:=kif w103 (aa hs 118 rfl)
 have y119:v 119=if dcW (v 2) (v 3) (v 6) (v 7)<10800000 then v 116 else 21600000:=kif w103 (aa hs 119 rfl)
 have x120:v 120=dcL (v 2) (v 3) (v 6) (v 7):=by
  have q:v 120=if dcB (v 2) (v 3) (v 6) (v 7) then 0 else v 118:=kif w79 (aa hs 120 rfl)
  rw [q,y118,x115,w101,w102];rfl
 have x121:v 121=dcH (v 2) (v 3) (v 6) (v 7):=by
  have q:v 121=if dcB (v 2) (v 3) (v 6) (v 7) then 21600000 else v 119:=kif w79 (aa hs 121 rfl)
  rw [q,y119,x116,w101,w102];rfl
 have wb:v 16=b2i (decide (dcM (v 0) (v 1) (v 4) (v 5)>5100000)):=by rw [show v 16=b2i (decide (v 15>(5100000:Int))) from aa hs 16 rfl,w15]
 have mlo:60000<=dcM (v 0) (v 1) (v 4) (v 5):=by unfold dcM;omega
 have fq:∀ i,i<3->v (24+i)=(dcQ (dcM (v 0) (v 1) (v 4) (v 5))).getD i 0:=by
  intro i hi
  match i,hi with
  | 0,_ =>
   show v 24=_;rw [show v 24=(qoV (v 18) (v 19) (v 21) (v 22) 131).getD 0 0 from aa hs 24 rfl,show v 18=bC (v 15) (v 15) from aa hs 18 rfl,show v 19=bI (v 15) (v 15) from aa hs 19 rfl,show v 21=bC (v 15+5400000) (v 15+5400000) from aa hs 21 rfl,show v 22=bI (v 15+5400000) (v 15+5400000) from aa hs 22 rfl,w15];rfl
  | 1,_ =>
   show v 25=_;rw [show v 25=(qoV (v 18) (v 19) (v 21) (v 22) 131).getD 1 0 from aa hs 25 rfl,show v 18=bC (v 15) (v 15) from aa hs 18 rfl,show v 19=bI (v 15) (v 15) from aa hs 19 rfl,show v 21=bC (v 15+5400000) (v 15+5400000) from aa hs 21 rfl,show v 22=bI (v 15+5400000) (v 15+5400000) from aa hs 22 rfl,w15];rfl
  | 2,_ =>
   show v 26=_;rw [show v 26=(qoV (v 18) (v 19) (v 21) (v 22) 131).getD 2 0 from aa hs 26 rfl,show v 18=bC (v 15) (v 15) from aa hs 18 rfl,show v 19=bI (v 15) (v 15) from aa hs 19 rfl,show v 21=bC (v 15+5400000) (v 15+5400000) from aa hs 21 rfl,show v 22=bI (v 15+5400000) (v 15+5400000) from aa hs 22 rfl,w15];rfl
 have f1:v 25=(dcQ (dcM (v 0) (v 1) (v 4) (v 5))).getD 1 0:=fq 1 (by decide)
 have f2:v 26=(dcQ (dcM (v 0) (v 1) (v 4) (v 5))).getD 2 0:=fq 2 (by decide)
 clear fq;have m71:v 71=min (v 38) (v 59):=iI (aa hs 71 rfl);have m73:v 73=max (v 49) (v 70):=fH (aa hs 73 rfl);rw [f38,f59] at m71;rw [f49,f70] at m73
 have Z:v 128=(dcV (v 0) (v 1) (v 2) (v 3) (v 4) (v 5) (v 6) (v 7) (v 8) (v 9)).getD 0 0/\v 129=(dcV (v 0) (v 1) (v 2) (v 3) (v 4) (v 5) (v 6) (v 7) (v 8) (v 9)).getD 1 0/\v 130=(dcV (v 0) (v 1) (v 2) (v 3) (v 4) (v 5) (v 6) (v 7) (v 8) (v 9)).getD 2 0/\v 131=(dcV (v 0) (v 1) (v 2) (v 3) (v 4) (v 5) (v 6) (v 7) (v 8) (v 9)).getD 3 0/\v 127=(dcV (v 0) (v 1) (v 2) (v 3) (v 4) (v 5) (v 6) (v 7) (v 8) (v 9)).getD 4 0:=by
  unfold dcV
  by_cases hb:dcM (v 0) (v 1) (v 4) (v 5)>5100000
  . rw [if_pos hb];have k:v 16=1:=by rw [wb,decide_eq_true hb];rfl
    refine ⟨?_,?_,?_,?_,?_⟩
    . rw [show v 128=if v 16≠0 then (0:Int) else v 123 from aa hs 128 rfl,if_pos (by omega)];rfl
    . rw [show v 129=if v 16≠0 then (0:Int) else v 124 from aa hs 129 rfl,if_pos (by omega)];rfl
    . rw [show v 130=if v 16≠0 then (0:Int) else v 125 from aa hs 130 rfl,if_pos (by omega)];rfl
    . rw [show v 131=if v 16≠0 then (0:Int) else v 126 from aa hs 131 rfl,if_pos (by omega)];rfl
    . rw [show v 127=if v 16≠0 then (24:Int) else v 122 from aa hs 127 rfl,if_pos (by omega)];rfl
  . rw [if_neg hb];have k:v 16=0:=by rw [wb,decide_eq_false hb];rfl
    have Q:=aaI _ ⟨mlo,by omega⟩
    rw [<-f1,<-f2] at Q;have zL:v 72=ovL (v 0) (v 4) (v 8) (v 9) (v 25):=by rw [show v 72=IntKind.i64.wrap (v 71-v 25) from aa hs 72 rfl,m71,Go.IntWalk.i64_in _ (by omega)];rfl
    have zH:v 74=ovH (v 1) (v 5) (v 8) (v 9) (v 25):=by rw [show v 74=IntKind.i64.wrap (v 73+v 25) from aa hs 74 rfl,m73,Go.IntWalk.i64_in _ (by omega)];rfl
    rw [f1] at zL zH;have ke:v 27=0:=by rw [show v 27=b2i (v 26 != (0:Int)) from aa hs 27 rfl,Q.1];rfl
    refine ⟨?_,?_,?_,?_,?_⟩
    . rw [show v 128=if v 16≠0 then (0:Int) else v 123 from aa hs 128 rfl,if_neg (by omega),show v 123=if v 27≠0 then (0:Int) else v 72 from aa hs 123 rfl,if_neg (by omega),zL];rfl
    . rw [show v 129=if v 16≠0 then (0:Int) else v 124 from aa hs 129 rfl,if_neg (by omega),show v 124=if v 27≠0 then (0:Int) else v 74 from aa hs 124 rfl,if_neg (by omega),zH];rfl
    . rw [show v 130=if v 16≠0 then (0:Int) else v 125 from aa hs 130 rfl,if_neg (by omega),show v 125=if v 27≠0 then (0:Int) else v 120 from aa hs 125 rfl,if_neg (by omega),x120];rfl
    . rw [show v 131=if v 16≠0 then (0:Int) else v 126 from aa hs 131 rfl,if_neg (by omega),show v 126=if v 27≠0 then (0:Int) else v 121 from aa hs 126 rfl,if_neg (by omega),x121];rfl
    . rw [show v 127=if v 16≠0 then (24:Int) else v 122 from aa hs 127 rfl,if_neg (by omega),show v 122=if v 27≠0 then v 26 else (0:Int) from aa hs 122 rfl,if_neg (by omega)];rfl
 have HB:v 17≠0->dcM (v 0) (v 1) (v 4) (v 5)<=5100000:=by
  intro q2;rw [show v 17=if v 16≠0 then (0:Int) else (1:Int) from aa hs 17 rfl,wb] at q2
  by_cases hb:dcM (v 0) (v 1) (v 4) (v 5)>5100000
  . simp [hb,b2i] at q2
  . omega
 refine ⟨bB ?_,?_⟩
 . exact ag (fun hp=>(show aQ (v 15) (v 15)=true by
    have hm:dcM (v 0) (v 1) (v 4) (v 5)<=5100000:=HB (aj hp).1;rw [w15,aJ];omega)) (ag (fun hp=>(show aQ (v 15) (v 15)=true by
    have hm:dcM (v 0) (v 1) (v 4) (v 5)<=5100000:=HB (aj hp).1;rw [w15,aJ];omega)) (ag (fun hp=>(show qoP (v 18) (v 19) (v 21) (v 22) 131 by
    have hm:dcM (v 0) (v 1) (v 4) (v 5)<=5100000:=HB (aj hp).1;rw [show v 18=bC (v 15) (v 15) from aa hs 18 rfl,show v 19=bI (v 15) (v 15) from aa hs 19 rfl,show v 21=bC (v 15+5400000) (v 15+5400000) from aa hs 21 rfl,show v 22=bI (v 15+5400000) (v 15+5400000) from aa hs 22 rfl,w15]
    exact (aaI _ ⟨mlo,hm⟩).2.2)) (bu)))
 . intro x hx0;have hx':=bM (v:=v) (by rfl) hx0
   rw [hx'];show Value.tuple #[.agg #[.int .i64 (v 128),.int .i64 (v 129),.int .i64 (v 130),.int .i64 (v 131)],.int .i64 (v 127)]=_;rw [Z.1,Z.2.1,Z.2.2.1,Z.2.2.2.1,Z.2.2.2.2];have E:dcV (v 0) (v 1) (v 2) (v 3) (v 4) (v 5) (v 6) (v 7) (v 8) (v 9)=dcV a0 a1 a2 a3 b0 b1 b2 b3 u v1:=by rw [show v 0=a0 from aa hs 0 rfl,show v 1=a1 from aa hs 1 rfl,show v 2=a2 from aa hs 2 rfl,show v 3=a3 from aa hs 3 rfl,show v 4=b0 from aa hs 4 rfl,show v 5=b1 from aa hs 5 rfl,show v 6=b2 from aa hs 6 rfl,show v 7=b3 from aa hs 7 rfl,show v 8=u from aa hs 8 rfl,show v 9=v1 from aa hs 9 rfl]
   rw [E]
