/- The enclosure of the cosine over an arc of latitudes, against exact cosines. -/
import Derived.Test.YtcfpmdndgbpfpaaZRhK
import Derived.Test.YtcfpmdndgbpfpaaZUAdd
import Derived.Test.YtcfpmdndgbpfpaaZBin
set_option linter.unusedVariables false
set_option linter.unusedSimpArgs false
namespace Go.Proofs.Ytcfpmdndgbpfpaa
open Go.RowKit Alm Sx
theorem MS (n:Int):iA n n=bLo n/\iW n n=bHi n:=by
 unfold iA iW
 constructor
 . by_cases h:bQ n n 16200000=true
   . rw [if_pos h];unfold bQ ay at h;have e:=(kr n 16200000 (by have:=of_decide_eq_true h;omega)).1
     rw [e];decide +kernel
   . rw [if_neg h];omega
 . by_cases h:bQ n n 5400000=true
   . rw [if_pos h];unfold bQ ay at h;have e:=(kr n 5400000 (by have:=of_decide_eq_true h;omega)).2
     rw [e];decide +kernel
   . rw [if_neg h];omega
theorem Lh (x:Int) (h0:0<=x) (h1:x<=5400000):bLo (x+5400000)=bLo (5400000-x)/\bHi (x+5400000)=bHi (5400000-x):=by
 by_cases z:x=0
 . subst z;exact ⟨rfl,rfl⟩
 . have w1:ay (x+5400000)=x+5400000:=by unfold ay;omega
   have w2:ay (5400000-x)=5400000-x:=by unfold ay;omega
   have f:aO (x+5400000)=aO (5400000-x):=by unfold aO;rw [w1,w2];simp only [];split<;>split<;>(first|omega|(split<;>omega)|(split<;>split<;>omega))
   have s:dG (x+5400000)=dG (5400000-x):=by unfold dG;rw [w1,w2];simp;omega
   unfold bLo bHi;rw [f,s];exact ⟨rfl,rfl⟩
def qf:Rat:=1073741824*(11*ee)
theorem qD:0<=qf/\qf<=1/1000000000000:=by unfold qf ee;constructor<;>decide +kernel
theorem Lp (L H:Int) (c z e u:Rat) (h1:(L:Rat)*u-2*e<=c) (h2:c<=(H:Rat)*u+2*e) (k1:-(9*e)<=c-z) (k2:c-z<=9*e) (hu:1073741824*u=1):(L:Rat)<=1073741824*z+1073741824*(11*e)/\1073741824*z<=(H:Rat)+1073741824*(11*e):=by
 have a:(L:Rat)=1073741824*((L:Rat)*u):=by rw [show 1073741824*((L:Rat)*u)=(L:Rat)*(1073741824*u) by grind,hu];grind
 have b:(H:Rat)=1073741824*((H:Rat)*u):=by rw [show 1073741824*((H:Rat)*u)=(H:Rat)*(1073741824*u) by grind,hu];grind
 constructor
 . rw [a];grind
 . rw [b];grind
theorem RH:1073741824*u30=1:=by unfold u30;decide +kernel
theorem PU (n:Nat) (h:n<=5340000):(bLo ((n:Int)+5400000):Rat)<=1073741824*zc n+qf/\1073741824*zc n<=(bHi ((n:Int)+5400000):Rat)+qf:=by
 have c:=QQ (n:Int);have z:=(gz (n:Int)).2;have w:(ay (n:Int)).toNat=n:=by unfold ay;omega
 rw [w] at z;exact Lp _ _ _ _ _ _ c.1 c.2 z.1 z.2 RH
theorem Cs (a b x:Int) (h0:-5340000<=a) (hb:b<=5340000) (hx:a<=x) (hx2:x<=b):(iA (a+5400000) (b+5400000):Rat)<=1073741824*zcI x+qf/\1073741824*zcI x<=(iW (a+5400000) (b+5400000):Rat)+qf:=by
 have p:=Lb (a+5400000) (b+5400000) (x+5400000) (x+5400000) (by omega) (by omega) (by omega)
 have e:=MS (x+5400000);rw [e.1,e.2] at p
 have k:(bLo (x+5400000):Rat)<=1073741824*zcI x+qf/\1073741824*zcI x<=(bHi (x+5400000):Rat)+qf:=by
  have c:=PU x.natAbs (by omega)
  unfold zcI
  by_cases s:0<=x
  . rw [show ((x.natAbs:Nat):Int)=x by omega] at c;exact c
  . have f:=Lh (-x) (by omega) (by omega)
    rw [show ((x.natAbs:Nat):Int)=-x by omega,f.1,f.2,show 5400000 - -x=x+5400000 by omega] at c
    exact c
 exact ⟨Rat.le_trans (vk p.1) k.1,Rat.le_trans k.2 (by have:=vk p.2;grind)⟩
