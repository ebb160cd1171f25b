/- Exact points of the unit circle near all angles: the enclosures of sine and cosine hold them. -/
import Derived.Test.YtdbaccfgkacffaaGreatZSides
set_option linter.unusedVariables false
set_option linter.unusedSimpArgs false
namespace Go.Proofs.YtdbaccfgkacffaaGreat
open Alm
def ee:Rat:=1/576460752303423488
theorem sJ:0<ee:=by unfold ee;decide +kernel
theorem Ip:4*bS<=1/4*ee:=by unfold bS aP ee;decide +kernel
theorem Yb (n:Nat) (hn:n=1800000):-ee<=zs n-1/2/\zs n-1/2<=ee:=by
 have h:=(near n (by omega)).1
 have d:=Ip;have dp:0<bS:=by unfold bS aP;decide +kernel
 have p:-(1/2*ee)<=ps n-1/2/\ps n-1/2<=1/2*ee:=by
  have m:=kU n;have q:=Na;have l:=o6;rw [<-show ((n:Nat):Int)=1800000 by omega] at q
  generalize ev sP (n:Int)=E at *
  have q1:((E*2-L0)*2^60<=L0*2)/\(-(L0*2)<=(E*2-L0)*2^60):=by omega
  have r1:(((E*2-L0)*2^60:Int):Rat)<=((L0*2:Int):Rat):=by exact_mod_cast q1.1
  have r2:((-(L0*2):Int):Rat)<=(((E*2-L0)*2^60:Int):Rat):=by exact_mod_cast q1.2
  clear q q1 h d hn dp;generalize L0=L at *
  simp only [Rat.intCast_mul,Rat.intCast_sub,Rat.intCast_neg] at r1 r2;generalize (L:Rat)=l0 at *
  generalize ps n=x at *
  have hx:(E:Rat)=x*l0:=m.symm;rw [hx] at r1 r2;have k:(((2^60:Int)):Rat)=1152921504606846976:=by decide +kernel
  have k2:((2:Int):Rat)=2:=by decide +kernel
  rw [k,k2] at r1 r2;have e1:ee=1/576460752303423488:=rfl;rw [e1];refine ⟨?_,?_⟩
  . refine Rat.not_lt.1 fun hh=>?_
    have:0<(1/2-1/2*(1/576460752303423488)-x)*l0:=Rat.mul_pos (by grind) l
    grind
  . refine Rat.not_lt.1 fun hh=>?_
    have:0<(x-1/2-1/2*(1/576460752303423488))*l0:=Rat.mul_pos (by grind) l
    grind
 have e:=sJ;grind
theorem Wt (n:Nat) (h:n<=5400000):-ee<=tS n-sS n/\tS n-sS n<=ee:=by
 have e:=sJ;unfold tS sS
 by_cases h1:n=1800000
 . rw [if_pos h1,if_pos (by omega)]
   exact Yb n h1
 . rw [if_neg h1]
   by_cases h2:n<=2700000
   . rw [if_pos h2,if_pos (by omega)];grind
   . rw [if_neg h2,if_neg (by omega)];grind
theorem X9 (n:Nat):tS n*tS n+tC n*tC n=1:=by
 unfold tS tC;split
 . have:=Dz n;grind
 . have:=Dz (5400000-n);grind
theorem acj (n:Nat) (h:n<=5400000):-ee<=tC n-tS (5400000-n)/\tC n-tS (5400000-n)<=ee:=by
 have e:=sJ;unfold tS tC
 by_cases h1:n=2700000
 . rw [if_pos (show n<=2700000 by omega),if_pos (show 5400000-n<=2700000 by omega)]
   have e1:5400000-n=2700000:=by omega
   have m:=pK;have d:=Ip;rw [e1,h1];generalize zs 2700000=x at *
   generalize zc 2700000=y at *
   clear h h1 e1;grind
 . by_cases h2:n<=2700000
   . rw [if_pos h2,if_neg (by omega),show 5400000-(5400000-n)=n by omega];grind
   . rw [if_neg h2,if_pos (by omega)];grind
def sg (n:Int):Rat:=if cu n then -tS (aI n).toNat else tS (aI n).toNat
def cg (n:Int):Rat:=if cu (n+5400000) then -tC (aI n).toNat else tC (aI n).toNat
theorem Gp (n:Int):sg n*sg n+cg n*cg n=1:=by
 have t:=X9 (aI n).toNat;unfold sg cg;split<;>split<;>grind
theorem Bu (n:Int):aI (n+5400000)=5400000-aI n:=by
 unfold aI au;simp only []
 repeat' split
 all_goals omega
theorem Rb (n:Int) (x:Rat) (e:Rat) (h1:-e<=x-sS (aI n).toNat) (h2:x-sS (aI n).toNat<=e) :
 (bLo n:Rat)*u30-e<=(if cu n then -x else x)/\(if cu n then -x else x)<=(bHi n:Rat)*u30+e:=by
 have b:=ky n;have s:=nD (aI n).toNat (by omega)
 rw [Int.toNat_of_nonneg b.1] at s;unfold bLo bHi
 by_cases q:cu n=true
 . rw [if_pos q,if_pos q,if_pos q];generalize di (aI n)+(if dQ (aI n) then 0 else 1)=H at *
   generalize di (aI n)=L at *
   rw [Rat.intCast_neg,Rat.intCast_neg]
   constructor<;>grind
 . rw [if_neg q,if_neg q,if_neg q];generalize di (aI n)+(if dQ (aI n) then 0 else 1)=H at *
   generalize di (aI n)=L at *
   constructor<;>grind
theorem aaI (n:Int):(bLo n:Rat)*u30-2*ee<=sg n/\sg n<=(bHi n:Rat)*u30+2*ee:=by
 have b:=ky n;have t:=Wt (aI n).toNat (by omega)
 have e:=sJ;exact Rb n _ (2*ee) (by grind) (by grind)
theorem aaJ (n:Int):(bLo (n+5400000):Rat)*u30-2*ee<=cg n/\cg n<=(bHi (n+5400000):Rat)*u30+2*ee:=by
 have b:=ky n;have t:=acj (aI n).toNat (by omega)
 have t2:=Wt (5400000-(aI n).toNat) (by omega)
 have e:=Bu n;have e2:(aI (n+5400000)).toNat=5400000-(aI n).toNat:=by rw [e];omega
 have p:=sJ;exact Rb (n+5400000) _ (2*ee) (by rw [e2];grind) (by rw [e2];grind)
def InE (L H:Int) (x e:Rat):Prop:=(L:Rat)*u30-e<=x/\x<=(H:Rat)*u30+e
theorem Ws (lo hi n:Int) (h:n=lo∨n=hi):InE (aX lo hi) (bu lo hi) (sg n) (2*ee):=by
 have s:=aaI n;have u:0<u30:=by rw [fo];decide +kernel
 have a:aX lo hi<=bLo n/\bHi n<=bu lo hi:=by
  have b:=jU n;unfold aX bu;rcases h with rfl|rfl<;>(constructor<;>split<;>omega)
 have c1:(aX lo hi:Rat)<=(bLo n:Rat):=Rat.intCast_le_intCast.2 a.1;have c2:(bHi n:Rat)<=(bu lo hi:Rat):=Rat.intCast_le_intCast.2 a.2;have m1:=Rat.mul_le_mul_of_nonneg_right c1 (Rat.le_of_lt u);have m2:=Rat.mul_le_mul_of_nonneg_right c2 (Rat.le_of_lt u);unfold InE
 constructor<;>grind
theorem Oe (lo hi n:Int) (h:n=lo∨n=hi):InE (aX (lo+5400000) (hi+5400000)) (bu (lo+5400000) (hi+5400000)) (cg n) (2*ee):=by
 have s:=aaJ n;have u:0<u30:=by rw [fo];decide +kernel
 have a:aX (lo+5400000) (hi+5400000)<=bLo (n+5400000)/\bHi (n+5400000)<=bu (lo+5400000) (hi+5400000):=by
  have b:=jU (n+5400000);unfold aX bu;rcases h with rfl|rfl<;>(constructor<;>split<;>omega)
 have c1:(aX (lo+5400000) (hi+5400000):Rat)<=(bLo (n+5400000):Rat):=Rat.intCast_le_intCast.2 a.1;have c2:(bHi (n+5400000):Rat)<=(bu (lo+5400000) (hi+5400000):Rat):=Rat.intCast_le_intCast.2 a.2;have m1:=Rat.mul_le_mul_of_nonneg_right c1 (Rat.le_of_lt u);have m2:=Rat.mul_le_mul_of_nonneg_right c2 (Rat.le_of_lt u);unfold InE
 constructor<;>grind
