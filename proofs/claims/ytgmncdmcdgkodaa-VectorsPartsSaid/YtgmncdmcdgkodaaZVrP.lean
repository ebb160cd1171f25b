/- Plain: enclosures of unit vectors: products, cross products, sums of squares. -/
import Derived.Test.YtgmncdmcdgkodaaZTrc
import Derived.Test.YtgmncdmcdgkodaaZTr2
import Derived.Test.YtgmncdmcdgkodaaZVe
set_option linter.unusedVariables false
set_option linter.unusedSimpArgs false
namespace Go.Proofs.Ytgmncdmcdgkodaa
open Go.RowKit Alm Sx
theorem Tr.le {p:IV} {x e f:Rat} {k m:Int} (h:Tr p x k e) (hk:k<=m) (he:e<=f):Tr p x m f:=by
 obtain ⟨a,b,c,d⟩:=h;exact ⟨a,by omega,by clear b hk a;grind,by clear b hk a c;grind⟩
theorem qd:100000*ee<=1/4000000000:=by unfold ee;decide +kernel
structure Cu (X Y Z:IV) (x y z:Rat) (k:Int) (f:Rat):Prop where
 tx:Tr X x k f
 ty:Tr Y y k f
 tz:Tr Z z k f
 le:x*x+y*y+z*z<=1
theorem ze {x y z:Rat} (h:x*x+y*y+z*z<=1):O1 x/\O1 y/\O1 z:=by
 have k:∀ t:Rat,t*t<=1->O1 t:=fun t h=>by
  unfold O1
  constructor
  . refine Rat.not_lt.1 fun hh=>?_
    have:=Rat.mul_pos (show 0 < -t-1 by grind) (show 0 < -t+1 by grind)
    grind
  . refine Rat.not_lt.1 fun hh=>?_
    have:=Rat.mul_pos (show 0<t-1 by grind) (show 0<t+1 by grind)
    grind
 have a:=bf x;have b:=bf y;have c:=bf z;exact ⟨k x (by grind),k y (by grind),k z (by grind)⟩
theorem Cu.fx {X Y Z:IV} {x y z f:Rat} {k:Int} (A:Cu X Y Z x y z k f) (hk:k<=100) (hf:f<=1000*ee):fxV X.1 X.2=true/\fxV Y.1 Y.2=true/\fxV Z.1 Z.2=true:=by
 have e2:=qd;have e:=bX;obtain ⟨ox,oy,oz⟩:=ze A.le;unfold O1 at ox oy oz;exact ⟨yZ A.tx (by grind) (by grind) (by grind) (by omega),yZ A.ty (by grind) (by grind) (by grind) (by omega),yZ A.tz (by grind) (by grind) (by grind) (by omega)⟩
theorem Fw {n k:Int} (h0:0<=n) (h:n<=k) (h1:k<=2305843009213693952):rtV n<=rtV k:=by
 obtain ⟨a0,a1,_⟩:=ko n h0 (by omega)
 obtain ⟨b0,_,b2⟩:=ko k (by omega) h1
 refine Int.not_lt.1 fun hh=>?_
 have:=Int.mul_le_mul (show rtV k+1<=rtV n by omega) (show rtV k+1<=rtV n by omega) (by omega) a0
 omega
theorem Pm {s:IV} (h:fxV s.1 s.2=true) (h0:0<=s.1):er4 s=0/\uR s=(rtL s.1 s.2,rtH s.1 s.2)/\0<=rtL s.1 s.2:=by
 rw [bM] at h;obtain ⟨a0,a1,a2⟩:=ko (max 0 s.1*1073741824) (by omega) (by omega)
 obtain ⟨b0,b1,b2⟩:=ko (s.2*1073741824) (by omega) (by omega)
 have up:=Fw (n:=max 0 s.1*1073741824) (k:=s.2*1073741824) (by omega) (by omega) (by omega)
 have big:rtV (s.2*1073741824)<=2000000000:=by
  refine Int.not_lt.1 fun hh=>?_
  have:=Int.mul_le_mul (show 2000000000<=rtV (s.2*1073741824) by omega) (show 2000000000<=rtV (s.2*1073741824) by omega) (by decide) b0
  omega
 have M:0<=rtL s.1 s.2/\rtL s.1 s.2<=rtH s.1 s.2/\rtH s.1 s.2<=2147483648:=by
  unfold rtL rtH;refine ⟨a0,?_,?_⟩<;>split<;>omega
 have F:=kF (L:=rtL s.1 s.2) (H:=rtH s.1 s.2) ⟨by omega,M.2.1,M.2.2⟩
 refine ⟨F.2.2,?_,M.1⟩;show (fB _ _,dY _ _)=_;rw [F.1,F.2.1]
