/- Plain: enclosures of unit vectors: products, cross products, sums of squares. -/
import Derived.Test.YtbdlccacamalpaaZTrc
import Derived.Test.YtbdlccacamalpaaZTr2
import Derived.Test.YtbdlccacamalpaaZVe
set_option linter.unusedVariables false
set_option linter.unusedSimpArgs false
namespace Go.Proofs.Ytbdlccacamalpaa
open Go.RowKit Alm Sx
theorem FK (n:Int):gu n n=bLo n/\gq n n=bHi n:=by
 unfold gu gq
 constructor
 . by_cases h:gD n n 16200000=true
   . rw [if_pos h];unfold gD ai at h;have e:=(Ji n 16200000 (by have:=of_decide_eq_true h;omega)).1
     rw [e];decide +kernel
   . rw [if_neg h];omega
 . by_cases h:gD n n 5400000=true
   . rw [if_pos h];unfold gD ai at h;have e:=(Ji n 5400000 (by have:=of_decide_eq_true h;omega)).2
     rw [e];decide +kernel
   . rw [if_neg h];omega
theorem ym (n:Int):Tr (uS n n) (sg n) 1 (2*ee):=by
 have b:=ni n;have e:=FK n;refine ⟨?_,?_,NG n n n (.inl rfl)⟩<;>show _<=_<;>unfold uS<;>simp only<;>omega
theorem yu (n:Int):Tr (uC n n) (cg n) 1 (2*ee):=by
 have b:=ni (n+5400000);have e:=FK (n+5400000);refine ⟨?_,?_,NM n n n (.inl rfl)⟩<;>show _<=_<;>unfold uC<;>simp only<;>omega
theorem Tr.le {p:IV} {x e f:Rat} {k m:Int} (h:Tr p x k e) (hk:k<=m) (he:e<=f):Tr p x m f:=by
 obtain ⟨a,b,c,d⟩:=h;exact ⟨a,by omega,by clear b hk a;grind,by clear b hk a c;grind⟩
theorem wU:100000*ee<=1/4000000000:=by unfold ee;decide +kernel
structure Un (X Y Z:IV) (x y z:Rat):Prop where
 tx:Tr X x 5 (8*ee)
 ty:Tr Y y 5 (8*ee)
 tz:Tr Z z 5 (8*ee)
 ux:U X
 uy:U Y
 uz:U Z
 one:x*x+y*y+z*z=1
theorem I9 {x y z:Rat} (h:x*x+y*y+z*z=1):O1 x/\O1 y/\O1 z:=by
 have k:∀ t:Rat,t*t<=1->O1 t:=fun t h=>by
  unfold O1
  constructor
  . refine Rat.not_lt.1 fun hh=>?_
    have:=Rat.mul_pos (show 0 < -t-1 by grind) (show 0 < -t+1 by grind)
    grind
  . refine Rat.not_lt.1 fun hh=>?_
    have:=Rat.mul_pos (show 0<t-1 by grind) (show 0<t+1 by grind)
    grind
 have a:=bX x;have b:=bX y;have c:=bX z;exact ⟨k x (by grind),k y (by grind),k z (by grind)⟩
theorem zU (l m:Int):Un (uM (uC l l) (uC m m)) (uM (uC l l) (uS m m)) (uS l l) (cg l*cg m) (cg l*sg m) (sg l):=by
 have e:=bC;have e2:=wU;have M1:=mO (yu l) (yu m) (g1 l).1 (g1 m).1 ⟨by grind,by grind⟩ ⟨by grind,by grind⟩ (by decide) (by decide)
 have M2:=mO (yu l) (ym m) (g1 l).1 (g1 m).2 ⟨by grind,by grind⟩ ⟨by grind,by grind⟩ (by decide) (by decide)
 refine ⟨M1.2.1.le (by decide) (by grind),M2.2.1.le (by decide) (by grind),(ym l).le (by decide) (by grind),(U_M (U_C _ _) (U_C _ _)).2.2,(U_M (U_C _ _) (U_S _ _)).2.2,U_S _ _,?_⟩
 have a:=iT l;have b:=congrArg (·*(cg l*cg l)) (iT m);grind
theorem Si {a b c d:Rat} (h1:a*a+c*c<=1) (h2:b*b+d*d<=1):-1<=a*b+c*d/\a*b+c*d<=1:=by
 have k1:=bX (a-b);have k2:=bX (a+b);have k3:=bX (c-d);have k4:=bX (c+d)
 constructor<;>grind
structure Cu (X Y Z:IV) (x y z:Rat) (k:Int) (f:Rat):Prop where
 tx:Tr X x k f
 ty:Tr Y y k f
 tz:Tr Z z k f
 le:x*x+y*y+z*z<=1
theorem Un.cu {X Y Z:IV} {x y z:Rat} (A:Un X Y Z x y z):Cu X Y Z x y z 5 (8*ee):=⟨A.tx,A.ty,A.tz,by have:=A.one;grind⟩
theorem Et {x y z:Rat} (h:x*x+y*y+z*z<=1):O1 x/\O1 y/\O1 z:=by
 have k:∀ t:Rat,t*t<=1->O1 t:=fun t h=>by
  unfold O1
  constructor
  . refine Rat.not_lt.1 fun hh=>?_
    have:=Rat.mul_pos (show 0 < -t-1 by grind) (show 0 < -t+1 by grind)
    grind
  . refine Rat.not_lt.1 fun hh=>?_
    have:=Rat.mul_pos (show 0<t-1 by grind) (show 0<t+1 by grind)
    grind
 have a:=bX x;have b:=bX y;have c:=bX z;exact ⟨k x (by grind),k y (by grind),k z (by grind)⟩
theorem E9 {X Y Z X' Y' Z':IV} {x y z x' y' z' f g:Rat} {k m:Int} (A:Cu X Y Z x y z k f) (B:Cu X' Y' Z' x' y' z' m g) (hk:0<=k/\k<=100) (hm:0<=m/\m<=100) (hf:0<=f/\f<=1000*ee) (hg:0<=g/\g<=1000*ee) :
 (er0 X X'=0/\er0 Y Y'=0/\er1 (uM X X') (uM Y Y')=0/\er0 Z Z'=0/\er1 (dt2 X Y X' Y') (uM Z Z')=0)/\Tr (dtI X Y Z X' Y' Z') (x*x'+y*y'+z*z') (3*k+3*m+9) (6*f+6*g):=by
 have e:=bC;have e2:=wU;obtain ⟨ox,oy,oz⟩:=Et A.le;obtain ⟨px,py,pz⟩:=Et B.le;have a:=A.le;have b:=B.le;have sx:=bX x;have sy:=bX y;have sz:=bX z;have tx:=bX x';have ty:=bX y';have tz:=bX z'
 have f4:f<=1/4000000000:=by clear a b sx sy sz tx ty tz;grind
 have g4:g<=1/4000000000:=by clear a b sx sy sz tx ty tz;grind
 have M1:=mO A.tx B.tx ox px ⟨hf.1,f4⟩ ⟨hg.1,g4⟩ (by omega) (by omega)
 have M2:=mO A.ty B.ty oy py ⟨hf.1,f4⟩ ⟨hg.1,g4⟩ (by omega) (by omega)
 have M3:=mO A.tz B.tz oz pz ⟨hf.1,f4⟩ ⟨hg.1,g4⟩ (by omega) (by omega)
 have am:=Si (a:=x) (b:=x') (c:=y) (d:=y') (by grind) (by grind)
 have ef:2*f+2*g<=1/4000000000:=by clear a b sx sy sz tx ty tz am;grind
 have S1:=FW M1.2.1 M2.2.1 (by grind) (by grind) ef ef (by omega) (by omega)
 have k1:=bX (x-x');have k2:=bX (x+x');have k3:=bX (y-y');have k4:=bX (y+y');have k5:=bX (z-z');have k6:=bX (z+z');have S2:=FW S1.2.1 M3.2.1 (by grind) (by grind) (by clear a b sx sy sz tx ty tz am k1 k2 k3 k4 k5 k6;grind) ef (by omega) (by omega)
 exact ⟨⟨M1.1,M2.1,S1.1,M3.1,S2.1⟩,S2.2.1.le (by omega) (by clear a b sx sy sz tx ty tz am k1 k2 k3 k4 k5 k6;grind)⟩
theorem Cu.fx {X Y Z:IV} {x y z f:Rat} {k:Int} (A:Cu X Y Z x y z k f) (hk:k<=100) (hf:f<=1000*ee):fxV X.1 X.2=true/\fxV Y.1 Y.2=true/\fxV Z.1 Z.2=true:=by
 have e2:=wU;have e:=bC;obtain ⟨ox,oy,oz⟩:=Et A.le;unfold O1 at ox oy oz;exact ⟨Ec A.tx (by grind) (by grind) (by grind) (by omega),Ec A.ty (by grind) (by grind) (by grind) (by omega),Ec A.tz (by grind) (by grind) (by grind) (by omega)⟩
theorem TJ {X Y Z:IV} {x y z f:Rat} {k:Int} (A:Cu X Y Z x y z k f) (hk:0<=k/\k<=100) (hf:0<=f/\f<=1000*ee) :
 (er3 X=0/\er3 Y=0/\er1 (uQ X) (uQ Y)=0/\er3 Z=0/\er1 (sm2 X Y) (uQ Z)=0)/\Tr (smI X Y Z) (x*x+y*y+z*z) (6*k+9) (12*f)/\0<=(smI X Y Z).1:=by
 have e:=bC;have e2:=wU;obtain ⟨ox,oy,oz⟩:=Et A.le;have a:=A.le;have sx:=bX x;have sy:=bX y;have sz:=bX z;have f4:f<=1/4000000000:=by clear a sx sy sz;grind
 have f5:4*f<=1/4000000000:=by clear a sx sy sz;grind
 have f6:8*f<=1/4000000000:=by clear a sx sy sz;grind
 have M1:=Qj A.tx ox ⟨hf.1,f4⟩ (by omega)
 have M2:=Qj A.ty oy ⟨hf.1,f4⟩ (by omega)
 have M3:=Qj A.tz oz ⟨hf.1,f4⟩ (by omega)
 have S1:=FW M1.2.1 M2.2.1 (by grind) (by grind) f5 f5 (by omega) (by omega)
 have S2:=FW S1.2.1 M3.2.1 (by grind) (by grind) (by clear a sx sy sz;grind) f5 (by omega) (by omega)
 refine ⟨⟨M1.1,M2.1,S1.1,M3.1,S2.1⟩,S2.2.1.le (by omega) (by clear a sx sy sz;grind),?_⟩
 show 0<=(uA (uA (uQ X) (uQ Y)) (uQ Z)).1;rw [S2.2.2,S1.2.2,M1.2.2.1,M2.2.2.1,M3.2.2.1];have:=M1.2.2.2;have:=M2.2.2.2;have:=M3.2.2.2;show 0<=sqL X.1 X.2+sqL Y.1 Y.2+sqL Z.1 Z.2;omega
theorem GV {n k:Int} (h0:0<=n) (h:n<=k) (h1:k<=2305843009213693952):rtV n<=rtV k:=by
 obtain ⟨a0,a1,_⟩:=gV n h0 (by omega)
 obtain ⟨b0,_,b2⟩:=gV k (by omega) h1
 refine Int.not_lt.1 fun hh=>?_
 have:=Int.mul_le_mul (show rtV k+1<=rtV n by omega) (show rtV k+1<=rtV n by omega) (by omega) a0
 omega
theorem I6 {s:IV} (h:fxV s.1 s.2=true) (h0:0<=s.1):er4 s=0/\uR s=(rtL s.1 s.2,rtH s.1 s.2)/\0<=rtL s.1 s.2:=by
 rw [bT] at h;obtain ⟨a0,a1,a2⟩:=gV (max 0 s.1*1073741824) (by omega) (by omega)
 obtain ⟨b0,b1,b2⟩:=gV (s.2*1073741824) (by omega) (by omega)
 have up:=GV (n:=max 0 s.1*1073741824) (k:=s.2*1073741824) (by omega) (by omega) (by omega)
 have big:rtV (s.2*1073741824)<=2000000000:=by
  refine Int.not_lt.1 fun hh=>?_
  have:=Int.mul_le_mul (show 2000000000<=rtV (s.2*1073741824) by omega) (show 2000000000<=rtV (s.2*1073741824) by omega) (by decide) b0
  omega
 have M:0<=rtL s.1 s.2/\rtL s.1 s.2<=rtH s.1 s.2/\rtH s.1 s.2<=2147483648:=by
  unfold rtL rtH;refine ⟨a0,?_,?_⟩<;>split<;>omega
 have F:=jh (L:=rtL s.1 s.2) (H:=rtH s.1 s.2) ⟨by omega,M.2.1,M.2.2⟩
 refine ⟨F.2.2,?_,M.1⟩;show (fU _ _,fJ _ _)=_;rw [F.1,F.2.1]
