/- Exact points of the unit circle near all angles: the enclosures of sine and cosine hold them. -/
import Derived.Test.YtbcnifkfaknnaaaGreatZSides
import Derived.Test.YtbcnifkfaknnaaaGreatZSp
set_option linter.unusedVariables false
set_option linter.unusedSimpArgs false
namespace Go.Proofs.YtbcnifkfaknnaaaGreat
open Alm
def ee:Rat:=1/1606938044258990275541962092341162602522202993782792835301376
theorem dm:0<ee:=by unfold ee;decide +kernel
theorem pJ:4*bM<=1/4*ee:=by unfold bM aU ee;decide +kernel
theorem PH:((ev sP 1800000*2-L0).natAbs:Int)*2^201<=L0*2:=by decide +kernel
theorem TC (n:Nat) (hn:n=1800000):-ee<=zs n-1/2/\zs n-1/2<=ee:=by
 have h:=(near n (by omega)).1
 have d:=pJ;have dp:0<bM:=by unfold bM aU;decide +kernel
 have p:-(1/2*ee)<=ps n-1/2/\ps n-1/2<=1/2*ee:=by
  have m:=gD n;have q:=PH;have l:=pE;rw [<-show ((n:Nat):Int)=1800000 by omega] at q
  generalize ev sP (n:Int)=E at *
  have q1:((E*2-L0)*2^201<=L0*2)/\(-(L0*2)<=(E*2-L0)*2^201):=by omega
  have r1:(((E*2-L0)*2^201:Int):Rat)<=((L0*2:Int):Rat):=Rat.intCast_le_intCast.2 q1.1;have r2:((-(L0*2):Int):Rat)<=(((E*2-L0)*2^201:Int):Rat):=Rat.intCast_le_intCast.2 q1.2;clear q q1 h d hn dp;generalize L0=L at *
  simp only [Rat.intCast_mul,Rat.intCast_sub,Rat.intCast_neg] at r1 r2;generalize (L:Rat)=l0 at *
  generalize ps n=x at *
  have hx:(E:Rat)=x*l0:=m.symm;rw [hx] at r1 r2;have k:(((2^201:Int)):Rat)=3213876088517980551083924184682325205044405987565585670602752:=by decide +kernel
  have k2:((2:Int):Rat)=2:=by decide +kernel
  rw [k,k2] at r1 r2;have e1:ee=1/1606938044258990275541962092341162602522202993782792835301376:=rfl;rw [e1];refine ⟨?_,?_⟩
  . refine Rat.not_lt.1 fun hh=>?_
    have:0<(1/2-1/2*(1/1606938044258990275541962092341162602522202993782792835301376)-x)*l0:=Rat.mul_pos (by grind) l
    grind
  . refine Rat.not_lt.1 fun hh=>?_
    have:0<(x-1/2-1/2*(1/1606938044258990275541962092341162602522202993782792835301376))*l0:=Rat.mul_pos (by grind) l
    grind
 have e:=dm;grind
theorem Gr (n:Nat) (h:n<=5400000):-ee<=tS n-sS n/\tS n-sS n<=ee:=by
 have e:=dm;unfold tS sS
 by_cases h1:n=1800000
 . rw [if_pos h1,if_pos (by omega)]
   exact TC n h1
 . rw [if_neg h1]
   by_cases h2:n<=2700000
   . rw [if_pos h2,if_pos (by omega)];grind
   . rw [if_neg h2,if_neg (by omega)];grind
theorem Vh (n:Nat):tS n*tS n+tC n*tC n=1:=by
 unfold tS tC;split
 . have:=jk n;grind
 . have:=jk (5400000-n);grind
theorem RS (n:Nat) (h:n<=5400000):-ee<=tC n-tS (5400000-n)/\tC n-tS (5400000-n)<=ee:=by
 have e:=dm;unfold tS tC
 by_cases h1:n=2700000
 . rw [if_pos (show n<=2700000 by omega),if_pos (show 5400000-n<=2700000 by omega)]
   have e1:5400000-n=2700000:=by omega
   have m:=jb;have d:=pJ;rw [e1,h1];generalize zs 2700000=x at *
   generalize zc 2700000=y at *
   clear h h1 e1;grind
 . by_cases h2:n<=2700000
   . rw [if_pos h2,if_neg (by omega),show 5400000-(5400000-n)=n by omega];grind
   . rw [if_neg h2,if_pos (by omega)];grind
def sg (n:Int):Rat:=if bu n then -tS (aI n).toNat else tS (aI n).toNat
def cg (n:Int):Rat:=if bu (n+5400000) then -tC (aI n).toNat else tC (aI n).toNat
theorem jw (n:Int):sg n*sg n+cg n*cg n=1:=by
 have t:=Vh (aI n).toNat;unfold sg cg;split<;>split<;>grind
theorem fo (n:Int):aI (n+5400000)=5400000-aI n:=by
 unfold aI aj;simp only []
 repeat' split
 all_goals omega
theorem LA (n:Int) (x:Rat) (e:Rat) (h1:-e<=x-sS (aI n).toNat) (h2:x-sS (aI n).toNat<=e) :
 (bLo n:Rat)*u30-e<=(if bu n then -x else x)/\(if bu n then -x else x)<=(bHi n:Rat)*u30+e:=by
 have b:=ic n;have s:=qV (aI n).toNat (by omega)
 rw [Int.toNat_of_nonneg b.1] at s;unfold bLo bHi
 by_cases q:bu n=true
 . rw [if_pos q,if_pos q,if_pos q];generalize fq (aI n)+(if gu (aI n) then 0 else 1)=H at *
   generalize fq (aI n)=L at *
   rw [Rat.intCast_neg,Rat.intCast_neg]
   constructor<;>grind
 . rw [if_neg q,if_neg q,if_neg q];generalize fq (aI n)+(if gu (aI n) then 0 else 1)=H at *
   generalize fq (aI n)=L at *
   constructor<;>grind
theorem XI (n:Int):(bLo n:Rat)*u30-2*ee<=sg n/\sg n<=(bHi n:Rat)*u30+2*ee:=by
 have b:=ic n;have t:=Gr (aI n).toNat (by omega)
 have e:=dm;exact LA n _ (2*ee) (by grind) (by grind)
theorem RA (n:Int):(bLo (n+5400000):Rat)*u30-2*ee<=cg n/\cg n<=(bHi (n+5400000):Rat)*u30+2*ee:=by
 have b:=ic n;have t:=RS (aI n).toNat (by omega)
 have t2:=Gr (5400000-(aI n).toNat) (by omega)
 have e:=fo n;have e2:(aI (n+5400000)).toNat=5400000-(aI n).toNat:=by rw [e];omega
 have p:=dm;exact LA (n+5400000) _ (2*ee) (by rw [e2];grind) (by rw [e2];grind)
def InE (L H:Int) (x e:Rat):Prop:=(L:Rat)*u30-e<=x/\x<=(H:Rat)*u30+e
theorem XE (lo hi n:Int) (h:n=lo∨n=hi):InE (dF lo hi) (dH lo hi) (sg n) (2*ee):=by
 have s:=XI n;have u:0<u30:=by rw [gL];decide +kernel
 have a:dF lo hi<=bLo n/\bHi n<=dH lo hi:=by
  have b:=jA n;unfold dF dH;rcases h with rfl|rfl<;>(constructor<;>split<;>omega)
 have c1:(dF lo hi:Rat)<=(bLo n:Rat):=Rat.intCast_le_intCast.2 a.1;have c2:(bHi n:Rat)<=(dH lo hi:Rat):=Rat.intCast_le_intCast.2 a.2;have m1:=Rat.mul_le_mul_of_nonneg_right c1 (Rat.le_of_lt u);have m2:=Rat.mul_le_mul_of_nonneg_right c2 (Rat.le_of_lt u);unfold InE
 constructor<;>grind
theorem KX (lo hi n:Int) (h:n=lo∨n=hi):InE (dF (lo+5400000) (hi+5400000)) (dH (lo+5400000) (hi+5400000)) (cg n) (2*ee):=by
 have s:=RA n;have u:0<u30:=by rw [gL];decide +kernel
 have a:dF (lo+5400000) (hi+5400000)<=bLo (n+5400000)/\bHi (n+5400000)<=dH (lo+5400000) (hi+5400000):=by
  have b:=jA (n+5400000);unfold dF dH;rcases h with rfl|rfl<;>(constructor<;>split<;>omega)
 have c1:(dF (lo+5400000) (hi+5400000):Rat)<=(bLo (n+5400000):Rat):=Rat.intCast_le_intCast.2 a.1;have c2:(bHi (n+5400000):Rat)<=(dH (lo+5400000) (hi+5400000):Rat):=Rat.intCast_le_intCast.2 a.2;have m1:=Rat.mul_le_mul_of_nonneg_right c1 (Rat.le_of_lt u);have m2:=Rat.mul_le_mul_of_nonneg_right c2 (Rat.le_of_lt u);unfold InE
 constructor<;>grind
end Go.Proofs.YtbcnifkfaknnaaaGreat
namespace Alm
theorem vV {l h x e:Rat} (lh:l<=h) (a:l-e<=x) (b:x<=h+e) (he:0<=e):∃ y,l<=y/\y<=h/\-e<=x-y/\x-y<=e:=by
 by_cases p:x<l
 . exact ⟨l,by grind,lh,by grind,by grind⟩
 . by_cases q:h<x
   . exact ⟨h,lh,by grind,by grind,by grind⟩
   . exact ⟨x,by grind,by grind,by grind,by grind⟩
end Alm
namespace Go.Proofs.YtbcnifkfaknnaaaGreat
open Alm Sx
abbrev IV:=Int × Int
def uN (p:IV):IV:=(-p.2,-p.1)
def uS (a b:Int):IV:=(dF a b,dH a b)
def uC (a b:Int):IV:=(dF (a+5400000) (b+5400000),dH (a+5400000) (b+5400000))
def U (p:IV):Prop:=-1073741824<=p.1/\p.1<=p.2/\p.2<=1073741824
theorem GU:0<u30:=by rw [gL];decide +kernel
theorem Qk:(1073741824:Rat)*u30=1:=by rw [gL];decide +kernel
theorem NL {x y:Rat} (h:x*x+y*y=1):-1<=x/\x<=1:=by
 have yy:0<=y*y:=by
  rcases Rat.le_total (a:=0) (b:=y) with q|q
  . exact Rat.mul_nonneg q q
  . have:=Rat.mul_nonneg (show 0<=-y by grind) (show 0<=-y by grind)
    grind
 constructor
 . refine Rat.not_lt.1 fun hh=>?_
   have:=Rat.mul_pos (show 0 < -1-x by grind) (show 0<1-x by grind)
   grind
 . refine Rat.not_lt.1 fun hh=>?_
   have:=Rat.mul_pos (show 0<x-1 by grind) (show 0<x+1 by grind)
   grind
theorem iV (x:Rat):0<=x*x:=by
 rcases Rat.le_total (a:=0) (b:=x) with q|q
 . exact Rat.mul_nonneg q q
 . have:=Rat.mul_nonneg (show 0<=-x by grind) (show 0<=-x by grind)
   grind
end Go.Proofs.YtbcnifkfaknnaaaGreat
namespace Alm
end Alm
namespace Go.Proofs.YtbcnifkfaknnaaaGreat
open Alm Sx
