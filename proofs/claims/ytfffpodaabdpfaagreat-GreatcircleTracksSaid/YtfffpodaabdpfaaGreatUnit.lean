/- Exact points of the unit circle near all angles: the enclosures of sine and cosine hold them. -/
import Derived.Test.YtfffpodaabdpfaaGreatSides
set_option linter.unusedVariables false
namespace Go.Proofs.YtfffpodaabdpfaaGreat
open Alm
def ee:Rat:=1/576460752303423488
theorem ee_pos:0 < ee:=by unfold ee;decide +kernel
theorem d230_ee:4*d230≤1/4*ee:=by unfold d230 d256 ee;decide +kernel
theorem zs_30b (n:Nat) (hn:n=1800000):-ee≤zs n - 1/2∧zs n - 1/2≤ee:=by
 have h:=(near n (by omega)).1
 have d:=d230_ee
 have dp:0 < d230:=by unfold d230 d256;decide +kernel
 have p:-(1/2*ee)≤ps n - 1/2∧ps n - 1/2≤1/2*ee:=by
  have m:=ps_mul n
  have q:=ev_s30
  have l:=L0R_pos
  rw [← show ((n:Nat):Int)=1800000 by omega] at q
  generalize ev sP (n:Int)=E at *
  have q1:((E*2 - L0)*2^60≤L0*2)∧(-(L0*2)≤(E*2 - L0)*2^60):=by omega
  have r1:(((E*2 - L0)*2^60:Int):Rat)≤((L0*2:Int):Rat):=by exact_mod_cast q1.1
  have r2:((-(L0*2):Int):Rat)≤(((E*2 - L0)*2^60:Int):Rat):=by exact_mod_cast q1.2
  clear q q1 h d hn dp
  generalize L0=L at *
  simp only [Rat.intCast_mul,Rat.intCast_sub,Rat.intCast_neg] at r1 r2
  generalize (L:Rat)=l0 at *
  generalize ps n=x at *
  have hx:(E:Rat)=x*l0:=m.symm
  rw [hx] at r1 r2
  have k:(((2^60:Int)):Rat)=1152921504606846976:=by decide +kernel
  have k2:((2:Int):Rat)=2:=by decide +kernel
  rw [k,k2] at r1 r2
  have e1:ee=1/576460752303423488:=rfl
  rw [e1]
  refine ⟨?_,?_⟩
  · refine Rat.not_lt.1 fun hh=>?_
    have:0 < (1/2 - 1/2*(1/576460752303423488) - x)*l0:=Rat.mul_pos (by grind) l
    grind
  · refine Rat.not_lt.1 fun hh=>?_
    have:0 < (x - 1/2 - 1/2*(1/576460752303423488))*l0:=Rat.mul_pos (by grind) l
    grind
 have e:=ee_pos
 grind
theorem tS_sS (n:Nat) (h:n≤5400000):-ee≤tS n - sS n∧tS n - sS n≤ee:=by
 have e:=ee_pos
 unfold tS sS
 by_cases h1:n=1800000
 · rw [if_pos h1,if_pos (by omega)]
   exact zs_30b n h1
 · rw [if_neg h1]
   by_cases h2:n≤2700000
   · rw [if_pos h2,if_pos (by omega)];grind
   · rw [if_neg h2,if_neg (by omega)];grind
theorem tt_one (n:Nat):tS n*tS n+tC n*tC n=1:=by
 unfold tS tC
 split
 · have:=zunit n;grind
 · have:=zunit (5400000 - n);grind
theorem tC_tS (n:Nat) (h:n≤5400000):-ee≤tC n - tS (5400000 - n)∧tC n - tS (5400000 - n)≤ee:=by
 have e:=ee_pos
 unfold tS tC
 by_cases h1:n=2700000
 · rw [if_pos (show n≤2700000 by omega),if_pos (show 5400000 - n≤2700000 by omega)]
   have e1:5400000 - n=2700000:=by omega
   have m:=mid_near
   have d:=d230_ee
   rw [e1,h1]
   generalize zs 2700000=x at *
   generalize zc 2700000=y at *
   clear h h1 e1
   grind
 · by_cases h2:n≤2700000
   · rw [if_pos h2,if_neg (by omega),show 5400000 - (5400000 - n)=n by omega];grind
   · rw [if_neg h2,if_pos (by omega)];grind
def sg (n:Int):Rat:=if south n then -tS (foldQ n).toNat else tS (foldQ n).toNat
def cg (n:Int):Rat:=if south (n+5400000) then -tC (foldQ n).toNat else tC (foldQ n).toNat
theorem sg_one (n:Int):sg n*sg n+cg n*cg n=1:=by
 have t:=tt_one (foldQ n).toNat
 unfold sg cg
 split<;>split<;>grind
theorem fold_quarter (n:Int):foldQ (n+5400000)=5400000 - foldQ n:=by
 unfold foldQ wrapTurn
 simp only []
 repeat' split
 all_goals omega
theorem mag_in (n:Int) (x:Rat) (e:Rat) (h1:-e≤x - sS (foldQ n).toNat) (h2:x - sS (foldQ n).toNat≤e) :
 (bLo n:Rat)*u30 - e≤(if south n then -x else x)∧(if south n then -x else x)≤(bHi n:Rat)*u30+e:=by
 have b:=foldQ_bd n
 have s:=sS_bounds (foldQ n).toNat (by omega)
 rw [Int.toNat_of_nonneg b.1] at s
 unfold bLo bHi
 by_cases q:south n=true
 · rw [if_pos q,if_pos q,if_pos q]
   generalize sinV (foldQ n)+(if sinE (foldQ n) then 0 else 1)=H at *
   generalize sinV (foldQ n)=L at *
   rw [Rat.intCast_neg,Rat.intCast_neg]
   constructor<;>grind
 · rw [if_neg q,if_neg q,if_neg q]
   generalize sinV (foldQ n)+(if sinE (foldQ n) then 0 else 1)=H at *
   generalize sinV (foldQ n)=L at *
   constructor<;>grind
theorem sg_in (n:Int):(bLo n:Rat)*u30 - 2*ee≤sg n∧sg n≤(bHi n:Rat)*u30+2*ee:=by
 have b:=foldQ_bd n
 have t:=tS_sS (foldQ n).toNat (by omega)
 have e:=ee_pos
 exact mag_in n _ (2*ee) (by grind) (by grind)
theorem cg_in (n:Int):(bLo (n+5400000):Rat)*u30 - 2*ee≤cg n∧cg n≤(bHi (n+5400000):Rat)*u30+2*ee:=by
 have b:=foldQ_bd n
 have t:=tC_tS (foldQ n).toNat (by omega)
 have t2:=tS_sS (5400000 - (foldQ n).toNat) (by omega)
 have e:=fold_quarter n
 have e2:(foldQ (n+5400000)).toNat=5400000 - (foldQ n).toNat:=by rw [e];omega
 have p:=ee_pos
 exact mag_in (n+5400000) _ (2*ee) (by rw [e2];grind) (by rw [e2];grind)
def InE (L H:Int) (x e:Rat):Prop:=(L:Rat)*u30 - e≤x∧x≤(H:Rat)*u30+e
theorem en_sg (lo hi n:Int) (h:n=lo∨n=hi):InE (enLo lo hi) (enHi lo hi) (sg n) (2*ee):=by
 have s:=sg_in n
 have u:0 < u30:=by rw [u30_val];decide +kernel
 have a:enLo lo hi≤bLo n∧bHi n≤enHi lo hi:=by
  have b:=bnd_bd n
  unfold enLo enHi
  rcases h with rfl | rfl<;>(constructor<;>split<;>omega)
 have c1:(enLo lo hi:Rat)≤(bLo n:Rat):=Rat.intCast_le_intCast.2 a.1
 have c2:(bHi n:Rat)≤(enHi lo hi:Rat):=Rat.intCast_le_intCast.2 a.2
 have m1:=Rat.mul_le_mul_of_nonneg_right c1 (Rat.le_of_lt u)
 have m2:=Rat.mul_le_mul_of_nonneg_right c2 (Rat.le_of_lt u)
 unfold InE
 constructor<;>grind
theorem en_cg (lo hi n:Int) (h:n=lo∨n=hi):InE (enLo (lo+5400000) (hi+5400000)) (enHi (lo+5400000) (hi+5400000)) (cg n) (2*ee):=by
 have s:=cg_in n
 have u:0 < u30:=by rw [u30_val];decide +kernel
 have a:enLo (lo+5400000) (hi+5400000)≤bLo (n+5400000)∧bHi (n+5400000)≤enHi (lo+5400000) (hi+5400000):=by
  have b:=bnd_bd (n+5400000)
  unfold enLo enHi
  rcases h with rfl | rfl<;>(constructor<;>split<;>omega)
 have c1:(enLo (lo+5400000) (hi+5400000):Rat)≤(bLo (n+5400000):Rat):=Rat.intCast_le_intCast.2 a.1
 have c2:(bHi (n+5400000):Rat)≤(enHi (lo+5400000) (hi+5400000):Rat):=Rat.intCast_le_intCast.2 a.2
 have m1:=Rat.mul_le_mul_of_nonneg_right c1 (Rat.le_of_lt u)
 have m2:=Rat.mul_le_mul_of_nonneg_right c2 (Rat.le_of_lt u)
 unfold InE
 constructor<;>grind
end Go.Proofs.YtfffpodaabdpfaaGreat
