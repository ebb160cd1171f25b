/- Exact points of the unit circle near all angles: the enclosures of sine and cosine hold them. -/
import Derived.Test.YtknhbpnclokciaaZSides
import Derived.Test.YtknhbpnclokciaaZSp
set_option linter.unusedVariables false
set_option linter.unusedSimpArgs false
namespace Go.Proofs.Ytknhbpnclokciaa
open Alm
theorem ZE (n:Nat):tS n*tS n+tC n*tC n=1:=by
 unfold tS tC;split
 . have:=xQ n;grind
 . have:=xQ (5400000-n);grind
def sg (n:Int):Rat:=if fA n then -tS (aH n).toNat else tS (aH n).toNat
def cg (n:Int):Rat:=if fA (n+5400000) then -tC (aH n).toNat else tC (aH n).toNat
theorem Ay (n:Int):sg n*sg n+cg n*cg n=1:=by
 have t:=ZE (aH n).toNat;unfold sg cg;split<;>split<;>grind
end Go.Proofs.Ytknhbpnclokciaa
namespace Alm
theorem lg {x y:Int} (hx:-1073741824<=x/\x<=1073741824) (hy:-1073741824<=y/\y<=1073741824):-1152921504606846976<=x*y/\x*y<=1152921504606846976:=by
 have a:=Int.mul_nonneg (show 0<=1073741824-x by omega) (show 0<=1073741824-y by omega)
 have b:=Int.mul_nonneg (show 0<=1073741824+x by omega) (show 0<=1073741824+y by omega)
 have c:=Int.mul_nonneg (show 0<=1073741824-x by omega) (show 0<=1073741824+y by omega)
 have d:=Int.mul_nonneg (show 0<=1073741824+x by omega) (show 0<=1073741824-y by omega)
 constructor<;>grind
end Alm
namespace Go.Proofs.Ytknhbpnclokciaa
open Alm Sx
abbrev IV:=Int × Int
def uM (p q:IV):IV:=((aD 0 [p.1,p.2,q.1,q.2]).getD 0 0,(aD 0 [p.1,p.2,q.1,q.2]).getD 1 0)
def uD (p q:IV):IV:=((aD 2 [p.1,p.2,q.1,q.2]).getD 0 0,(aD 2 [p.1,p.2,q.1,q.2]).getD 1 0)
def uN (p:IV):IV:=(-p.2,-p.1)
def uS (a b:Int):IV:=(fJ a b,fZ a b)
def uC (a b:Int):IV:=(fJ (a+5400000) (b+5400000),fZ (a+5400000) (b+5400000))
def U (p:IV):Prop:=-1073741824<=p.1/\p.1<=p.2/\p.2<=1073741824
theorem U_S (a b:Int):U (uS a b):=I9 a b
theorem U_C (a b:Int):U (uC a b):=I9 _ _
theorem U_M {p q:IV} (hp:U p) (hq:U q):uM p q=(gI p.1 p.2 q.1 q.2,iq p.1 p.2 q.1 q.2)/\(aD 0 [p.1,p.2,q.1,q.2]).getD 2 0=0/\U (uM p q):=by
 obtain ⟨a,b⟩:=p;obtain ⟨c,d⟩:=q;unfold U at hp hq;simp only at hp hq;have m1:=lg (x:=a) (y:=c) (by omega) (by omega)
 have m2:=lg (x:=a) (y:=d) (by omega) (by omega)
 have m3:=lg (x:=b) (y:=c) (by omega) (by omega)
 have m4:=lg (x:=b) (y:=d) (by omega) (by omega)
 have lo:-1073741824<=gI a b c d:=by unfold gI mn4;generalize a*c=w1 at *;generalize a*d=w2 at *;generalize b*c=w3 at *;generalize b*d=w4 at *;omega
 have hi:iq a b c d<=1073741824:=by unfold iq mx4;generalize a*c=w1 at *;generalize a*d=w2 at *;generalize b*c=w3 at *;generalize b*d=w4 at *;omega
 have le:=uX a b c d;have ok:-2147483648<=gI a b c d/\gI a b c d<=iq a b c d/\iq a b c d<=2147483648:=by omega
 have e:uM (a,b) (c,d)=(gI a b c d,iq a b c d):=by
  show (jS _ _,jU _ _)=_;unfold jS jU;rw [if_pos ok,if_pos ok]
 refine ⟨e,?_,?_⟩
 . show jI _ _=0;unfold jI;rw [if_pos ok]
 . rw [e];exact ⟨lo,le,hi⟩
theorem dz {p:IV} (h:U p):fxV p.1 p.2=true:=(bO _ _).2 (by unfold U at h;omega)
theorem QE {x y:Rat} (h:x*x+y*y=1):-1<=x/\x<=1:=by
 have yy:0<=y*y:=by
  rcases Rat.le_total (a:=0) (b:=y) with q|q
  . exact Rat.mul_nonneg q q
  . have:=Rat.mul_nonneg (show 0<=-y by grind) (show 0<=-y by grind)
    grind
 constructor
 . refine Rat.not_lt.1 fun hh=>?_
   have:=Rat.mul_pos (show 0 < -1-x by grind) (show 0<1-x by grind)
   grind
 . refine Rat.not_lt.1 fun hh=>?_
   have:=Rat.mul_pos (show 0<x-1 by grind) (show 0<x+1 by grind)
   grind
