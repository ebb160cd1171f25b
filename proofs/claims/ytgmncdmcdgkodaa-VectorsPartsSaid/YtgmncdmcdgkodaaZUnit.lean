/- Exact points of the unit circle near all angles: the enclosures of sine and cosine hold them. -/
import Derived.Test.YtgmncdmcdgkodaaZSides
import Derived.Test.YtgmncdmcdgkodaaZSp
set_option linter.unusedVariables false
set_option linter.unusedSimpArgs false
namespace Go.Proofs.Ytgmncdmcdgkodaa
open Alm
def ee:Rat:=1/1606938044258990275541962092341162602522202993782792835301376
theorem bX:0<ee:=by unfold ee;decide +kernel
theorem uE:4*bD<=1/4*ee:=by unfold bD aH ee;decide +kernel
theorem Iw (n:Nat):tS n*tS n+tC n*tC n=1:=by
 unfold tS tC;split
 . have:=qB n;grind
 . have:=qB (5400000-n);grind
def sg (n:Int):Rat:=if ja n then -tS (aV n).toNat else tS (aV n).toNat
def cg (n:Int):Rat:=if ja (n+5400000) then -tC (aV n).toNat else tC (aV n).toNat
theorem yI (n:Int):sg n*sg n+cg n*cg n=1:=by
 have t:=Iw (aV n).toNat;unfold sg cg;split<;>split<;>grind
def InE (L H:Int) (x e:Rat):Prop:=(L:Rat)*u30-e<=x/\x<=(H:Rat)*u30+e
end Go.Proofs.Ytgmncdmcdgkodaa
namespace Alm
theorem iH {x y:Int} (hx:-1073741824<=x/\x<=1073741824) (hy:-1073741824<=y/\y<=1073741824):-1152921504606846976<=x*y/\x*y<=1152921504606846976:=by
 have a:=Int.mul_nonneg (show 0<=1073741824-x by omega) (show 0<=1073741824-y by omega)
 have b:=Int.mul_nonneg (show 0<=1073741824+x by omega) (show 0<=1073741824+y by omega)
 have c:=Int.mul_nonneg (show 0<=1073741824-x by omega) (show 0<=1073741824+y by omega)
 have d:=Int.mul_nonneg (show 0<=1073741824+x by omega) (show 0<=1073741824-y by omega)
 constructor<;>grind
end Alm
namespace Go.Proofs.Ytgmncdmcdgkodaa
open Alm Sx
abbrev IV:=Int × Int
def uM (p q:IV):IV:=((ak 0 [p.1,p.2,q.1,q.2]).getD 0 0,(ak 0 [p.1,p.2,q.1,q.2]).getD 1 0)
def uA (p q:IV):IV:=((ak 1 [p.1,p.2,q.1,q.2]).getD 0 0,(ak 1 [p.1,p.2,q.1,q.2]).getD 1 0)
def uD (p q:IV):IV:=((ak 2 [p.1,p.2,q.1,q.2]).getD 0 0,(ak 2 [p.1,p.2,q.1,q.2]).getD 1 0)
def uS (a b:Int):IV:=(fI a b,fK a b)
def uC (a b:Int):IV:=(fI (a+5400000) (b+5400000),fK (a+5400000) (b+5400000))
def U (p:IV):Prop:=-1073741824<=p.1/\p.1<=p.2/\p.2<=1073741824
theorem U_S (a b:Int):U (uS a b):=Dq a b
theorem U_C (a b:Int):U (uC a b):=Dq _ _
theorem U_M {p q:IV} (hp:U p) (hq:U q):uM p q=(dV p.1 p.2 q.1 q.2,dW p.1 p.2 q.1 q.2)/\(ak 0 [p.1,p.2,q.1,q.2]).getD 2 0=0/\U (uM p q):=by
 obtain ⟨a,b⟩:=p;obtain ⟨c,d⟩:=q;unfold U at hp hq;simp only at hp hq;have m1:=iH (x:=a) (y:=c) (by omega) (by omega)
 have m2:=iH (x:=a) (y:=d) (by omega) (by omega)
 have m3:=iH (x:=b) (y:=c) (by omega) (by omega)
 have m4:=iH (x:=b) (y:=d) (by omega) (by omega)
 have lo:-1073741824<=dV a b c d:=by unfold dV mn4;generalize a*c=w1 at *;generalize a*d=w2 at *;generalize b*c=w3 at *;generalize b*d=w4 at *;omega
 have hi:dW a b c d<=1073741824:=by unfold dW mx4;generalize a*c=w1 at *;generalize a*d=w2 at *;generalize b*c=w3 at *;generalize b*d=w4 at *;omega
 have le:=Gt a b c d;have ok:-2147483648<=dV a b c d/\dV a b c d<=dW a b c d/\dW a b c d<=2147483648:=by omega
 have e:uM (a,b) (c,d)=(dV a b c d,dW a b c d):=by
  show (fB _ _,dY _ _)=_;unfold fB dY;rw [if_pos ok,if_pos ok]
 refine ⟨e,?_,?_⟩
 . show jJ _ _=0;unfold jJ;rw [if_pos ok]
 . rw [e];exact ⟨lo,le,hi⟩
theorem U_A {p q:IV} (hp:U p) (hq:U q):uA p q=(p.1+q.1,p.2+q.2)/\(ak 1 [p.1,p.2,q.1,q.2]).getD 2 0=0/\fxV (uA p q).1 (uA p q).2=true:=by
 unfold U at hp hq;have ok:-2147483648<=p.1+q.1/\p.1+q.1<=p.2+q.2/\p.2+q.2<=2147483648:=by omega
 have e:uA p q=(p.1+q.1,p.2+q.2):=by
  show (fB _ _,dY _ _)=_;unfold fB dY;rw [if_pos ok,if_pos ok]
 refine ⟨e,?_,?_⟩
 . show jJ _ _=0;unfold jJ;rw [if_pos ok]
 . rw [e];exact (bM _ _).2 ok
theorem U_D {p q:IV} (hp:U p) (hq:U q):uD p q=(p.1-q.2,p.2-q.1)/\(ak 2 [p.1,p.2,q.1,q.2]).getD 2 0=0/\fxV (uD p q).1 (uD p q).2=true:=by
 unfold U at hp hq;have ok:-2147483648<=p.1-q.2/\p.1-q.2<=p.2-q.1/\p.2-q.1<=2147483648:=by omega
 have e:uD p q=(p.1-q.2,p.2-q.1):=by
  show (fB _ _,dY _ _)=_;unfold fB dY;rw [if_pos ok,if_pos ok]
 refine ⟨e,?_,?_⟩
 . show jJ _ _=0;unfold jJ;rw [if_pos ok]
 . rw [e];exact (bM _ _).2 ok
theorem ma {p:IV} (h:U p):fxV p.1 p.2=true:=(bM _ _).2 (by unfold U at h;omega)
theorem fM:0<u30:=by rw [dL];decide +kernel
theorem gz:(1073741824:Rat)*u30=1:=by rw [dL];decide +kernel
theorem Ex {x y:Rat} (h:x*x+y*y=1):-1<=x/\x<=1:=by
 have yy:0<=y*y:=by
  rcases Rat.le_total (a:=0) (b:=y) with q|q
  . exact Rat.mul_nonneg q q
  . have:=Rat.mul_nonneg (show 0<=-y by grind) (show 0<=-y by grind)
    grind
 constructor
 . refine Rat.not_lt.1 fun hh=>?_
   have:=Rat.mul_pos (show 0 < -1-x by grind) (show 0<1-x by grind)
   grind
 . refine Rat.not_lt.1 fun hh=>?_
   have:=Rat.mul_pos (show 0<x-1 by grind) (show 0<x+1 by grind)
   grind
theorem bf (x:Rat):0<=x*x:=by
 rcases Rat.le_total (a:=0) (b:=x) with q|q
 . exact Rat.mul_nonneg q q
 . have:=Rat.mul_nonneg (show 0<=-x by grind) (show 0<=-x by grind)
   grind
