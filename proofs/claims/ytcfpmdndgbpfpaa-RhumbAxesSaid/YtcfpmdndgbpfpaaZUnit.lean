/- Exact points of the unit circle near all angles: the enclosures of sine and cosine hold them. -/
import Derived.Test.YtcfpmdndgbpfpaaZSides
import Derived.Test.YtcfpmdndgbpfpaaZSp
set_option linter.unusedVariables false
set_option linter.unusedSimpArgs false
namespace Go.Proofs.Ytcfpmdndgbpfpaa
open Alm
def ee:Rat:=1/1606938044258990275541962092341162602522202993782792835301376
theorem gK:0<ee:=by unfold ee;decide +kernel
theorem uY:4*bg<=1/4*ee:=by unfold bg aH ee;decide +kernel
theorem Km:((ev sP 1800000*2-L0).natAbs:Int)*2^201<=L0*2:=by decide +kernel
theorem OI (n:Nat) (hn:n=1800000):-ee<=zs n-1/2/\zs n-1/2<=ee:=by
 have h:=(near n (by omega)).1
 have d:=uY;have dp:0<bg:=by unfold bg aH;decide +kernel
 have p:-(1/2*ee)<=ps n-1/2/\ps n-1/2<=1/2*ee:=by
  have m:=eU n;have q:=Km;have l:=mJ;rw [<-show ((n:Nat):Int)=1800000 by omega] at q
  generalize ev sP (n:Int)=E at *
  have q1:((E*2-L0)*2^201<=L0*2)/\(-(L0*2)<=(E*2-L0)*2^201):=by omega
  have r1:(((E*2-L0)*2^201:Int):Rat)<=((L0*2:Int):Rat):=Rat.intCast_le_intCast.2 q1.1;have r2:((-(L0*2):Int):Rat)<=(((E*2-L0)*2^201:Int):Rat):=Rat.intCast_le_intCast.2 q1.2;clear q q1 h d hn dp;generalize L0=L at *
  simp only [Rat.intCast_mul,Rat.intCast_sub,Rat.intCast_neg] at r1 r2;generalize (L:Rat)=l0 at *
  generalize ps n=x at *
  have hx:(E:Rat)=x*l0:=m.symm;rw [hx] at r1 r2;have k:(((2^201:Int)):Rat)=3213876088517980551083924184682325205044405987565585670602752:=by decide +kernel
  have k2:((2:Int):Rat)=2:=by decide +kernel
  rw [k,k2] at r1 r2;have e1:ee=1/1606938044258990275541962092341162602522202993782792835301376:=rfl;rw [e1];refine ⟨?_,?_⟩
  . refine Rat.not_lt.1 fun hh=>?_
    have:0<(1/2-1/2*(1/1606938044258990275541962092341162602522202993782792835301376)-x)*l0:=Rat.mul_pos (by grind) l
    grind
  . refine Rat.not_lt.1 fun hh=>?_
    have:0<(x-1/2-1/2*(1/1606938044258990275541962092341162602522202993782792835301376))*l0:=Rat.mul_pos (by grind) l
    grind
 have e:=gK;grind
theorem Q5 (n:Nat) (h:n<=5400000):-ee<=tS n-sS n/\tS n-sS n<=ee:=by
 have e:=gK;unfold tS sS
 by_cases h1:n=1800000
 . rw [if_pos h1,if_pos (by omega)]
   exact OI n h1
 . rw [if_neg h1]
   by_cases h2:n<=2700000
   . rw [if_pos h2,if_pos (by omega)];grind
   . rw [if_neg h2,if_neg (by omega)];grind
theorem Pg (n:Nat):tS n*tS n+tC n*tC n=1:=by
 unfold tS tC;split
 . have:=iR n;grind
 . have:=iR (5400000-n);grind
theorem SN (n:Nat) (h:n<=5400000):-ee<=tC n-tS (5400000-n)/\tC n-tS (5400000-n)<=ee:=by
 have e:=gK;unfold tS tC
 by_cases h1:n=2700000
 . rw [if_pos (show n<=2700000 by omega),if_pos (show 5400000-n<=2700000 by omega)]
   have e1:5400000-n=2700000:=by omega
   have m:=jA;have d:=uY;rw [e1,h1];generalize zs 2700000=x at *
   generalize zc 2700000=y at *
   clear h h1 e1;grind
 . by_cases h2:n<=2700000
   . rw [if_pos h2,if_neg (by omega),show 5400000-(5400000-n)=n by omega];grind
   . rw [if_neg h2,if_pos (by omega)];grind
def sg (n:Int):Rat:=if dG n then -tS (aO n).toNat else tS (aO n).toNat
def cg (n:Int):Rat:=if dG (n+5400000) then -tC (aO n).toNat else tC (aO n).toNat
theorem OE (n:Int):sg n*sg n+cg n*cg n=1:=by
 have t:=Pg (aO n).toNat;unfold sg cg;split<;>split<;>grind
theorem vX (n:Int):aO (n+5400000)=5400000-aO n:=by
 unfold aO ay;simp only []
 repeat' split
 all_goals omega
theorem Py (n:Int) (x:Rat) (e:Rat) (h1:-e<=x-sS (aO n).toNat) (h2:x-sS (aO n).toNat<=e) :
 (bLo n:Rat)*u30-e<=(if dG n then -x else x)/\(if dG n then -x else x)<=(bHi n:Rat)*u30+e:=by
 have b:=kY n;have s:=mV (aO n).toNat (by omega)
 rw [Int.toNat_of_nonneg b.1] at s;unfold bLo bHi
 by_cases q:dG n=true
 . rw [if_pos q,if_pos q,if_pos q];generalize dJ (aO n)+(if fC (aO n) then 0 else 1)=H at *
   generalize dJ (aO n)=L at *
   rw [Rat.intCast_neg,Rat.intCast_neg]
   constructor<;>grind
 . rw [if_neg q,if_neg q,if_neg q];generalize dJ (aO n)+(if fC (aO n) then 0 else 1)=H at *
   generalize dJ (aO n)=L at *
   constructor<;>grind
theorem QQ (n:Int):(bLo (n+5400000):Rat)*u30-2*ee<=cg n/\cg n<=(bHi (n+5400000):Rat)*u30+2*ee:=by
 have b:=kY n;have t:=SN (aO n).toNat (by omega)
 have t2:=Q5 (5400000-(aO n).toNat) (by omega)
 have e:=vX n;have e2:(aO (n+5400000)).toNat=5400000-(aO n).toNat:=by rw [e];omega
 have p:=gK;exact Py (n+5400000) _ (2*ee) (by rw [e2];grind) (by rw [e2];grind)
end Go.Proofs.Ytcfpmdndgbpfpaa
namespace Alm
end Alm
namespace Go.Proofs.Ytcfpmdndgbpfpaa
open Alm Sx
abbrev IV:=Int × Int
def uN (p:IV):IV:=(-p.2,-p.1)
def U (p:IV):Prop:=-1073741824<=p.1/\p.1<=p.2/\p.2<=1073741824
theorem Ig {x y:Rat} (h:x*x+y*y=1):-1<=x/\x<=1:=by
 have yy:0<=y*y:=by
  rcases Rat.le_total (a:=0) (b:=y) with q|q
  . exact Rat.mul_nonneg q q
  . have:=Rat.mul_nonneg (show 0<=-y by grind) (show 0<=-y by grind)
    grind
 constructor
 . refine Rat.not_lt.1 fun hh=>?_
   have:=Rat.mul_pos (show 0 < -1-x by grind) (show 0<1-x by grind)
   grind
 . refine Rat.not_lt.1 fun hh=>?_
   have:=Rat.mul_pos (show 0<x-1 by grind) (show 0<x+1 by grind)
   grind
theorem RF (x:Rat):0<=x*x:=by
 rcases Rat.le_total (a:=0) (b:=x) with q|q
 . exact Rat.mul_nonneg q q
 . have:=Rat.mul_nonneg (show 0<=-x by grind) (show 0<=-x by grind)
   grind
end Go.Proofs.Ytcfpmdndgbpfpaa
namespace Alm
end Alm
namespace Go.Proofs.Ytcfpmdndgbpfpaa
open Alm Sx
