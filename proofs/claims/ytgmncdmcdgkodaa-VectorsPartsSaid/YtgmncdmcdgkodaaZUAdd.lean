/- The points of the unit circle near angles obey the law of addition, nearly. -/
import Derived.Test.YtgmncdmcdgkodaaZUnit
set_option linter.unusedVariables false
set_option linter.unusedSimpArgs false
namespace Go.Proofs.Ytgmncdmcdgkodaa
open Alm
def Nr (x y e:Rat):Prop:=-e<=x-y/\x-y<=e
theorem Nr.refl (x:Rat):Nr x x 0:=by unfold Nr;constructor<;>grind
theorem Nr.symm {x y e:Rat} (h:Nr x y e):Nr y x e:=by unfold Nr at *;constructor<;>grind
theorem Nr.trans {x y z e f:Rat} (h:Nr x y e) (k:Nr y z f):Nr x z (e+f):=by unfold Nr at *;constructor<;>grind
theorem Nr.neg {x y e:Rat} (h:Nr x y e):Nr (-x) (-y) e:=by unfold Nr at *;constructor<;>grind
theorem Nr.add {x y z w e f:Rat} (h:Nr x y e) (k:Nr z w f):Nr (x+z) (y+w) (e+f):=by unfold Nr at *;constructor<;>grind
theorem Nr.le {x y e f:Rat} (h:Nr x y e) (k:e<=f):Nr x y f:=by unfold Nr at *;constructor<;>grind
def O1 (x:Rat):Prop:=-1<=x/\x<=1
theorem Nr.mul {x x' y y' e f:Rat} (hx:Nr x x' e) (hy:Nr y y' f) (b1:O1 x) (b2:O1 y') (he:0<=e) (hf:0<=f):Nr (x*y) (x'*y') (e+f):=by
 unfold Nr O1 at *
 have w1:=Rat.mul_nonneg (show 0<=1-x by grind) (show 0<=f-(y-y') by grind)
 have w2:=Rat.mul_nonneg (show 0<=1-x by grind) (show 0<=f+(y-y') by grind)
 have w3:=Rat.mul_nonneg (show 0<=1+x by grind) (show 0<=f-(y-y') by grind)
 have w4:=Rat.mul_nonneg (show 0<=1+x by grind) (show 0<=f+(y-y') by grind)
 have v1:=Rat.mul_nonneg (show 0<=1-y' by grind) (show 0<=e-(x-x') by grind)
 have v2:=Rat.mul_nonneg (show 0<=1-y' by grind) (show 0<=e+(x-x') by grind)
 have v3:=Rat.mul_nonneg (show 0<=1+y' by grind) (show 0<=e-(x-x') by grind)
 have v4:=Rat.mul_nonneg (show 0<=1+y' by grind) (show 0<=e+(x-x') by grind)
 constructor<;>grind
theorem xX (m:Nat):∀ n:Nat,zc (m+n)=zc m*zc n-zs m*zs n/\zs (m+n)=zs m*zc n+zc m*zs n
 | 0=>by rw [Nat.add_zero,eF,dx];constructor<;>grind
 | n+1=>by
  obtain ⟨h1,h2⟩:=xX m n;rw [show m+(n+1)=(m+n)+1 from rfl,dz,cz,dz,cz,h1,h2]
  constructor<;>grind
theorem Qn {m n:Nat} (h:n<=m):zc (m-n)=zc m*zc n+zs m*zs n/\zs (m-n)=zs m*zc n-zc m*zs n:=by
 obtain ⟨h1,h2⟩:=xX (m-n) n;rw [Nat.sub_add_cancel h] at h1 h2;have u:=qB n;generalize zc (m-n)=x at *
 generalize zs (m-n)=y at *
 rw [h1,h2]
 constructor<;>grind
theorem z1 (n:Nat):O1 (zc n)/\O1 (zs n):=⟨jP n,gP n⟩
theorem t1 (n:Nat):O1 (tC n)/\O1 (tS n):=by
 unfold tC tS
 constructor<;>split<;>first|exact jP _|exact gP _
theorem zQ:Nr (zc 5400000) 0 (1/2*ee)/\Nr (zs 5400000) 1 (1/2*ee):=by
 have d:=jf;have s:=uE;have e:=bX;have e1:ee<=1:=by unfold ee;decide +kernel
 have a:=xX 2700000 2700000;have u:=qB 2700000;have b:=z1 2700000;rw [show (2700000+2700000:Nat)=5400000 from rfl] at a
 rw [a.1,a.2];clear a;unfold O1 at b;unfold Nr;generalize zs 2700000=x at *
 generalize zc 2700000=y at *
 generalize bD=dd at *
 have k1:=Rat.mul_nonneg (show 0<=4*dd-(x-y) by grind) (show 0<=2-(x+y) by grind)
 have k2:=Rat.mul_nonneg (show 0<=4*dd+(x-y) by grind) (show 0<=2-(x+y) by grind)
 have k3:=Rat.mul_nonneg (show 0<=4*dd-(x-y) by grind) (show 0<=2+(x+y) by grind)
 have k4:=Rat.mul_nonneg (show 0<=4*dd+(x-y) by grind) (show 0<=2+(x+y) by grind)
 have k5:=Rat.mul_nonneg (show 0<=4*dd-(x-y) by grind) (show 0<=4*dd+(x-y) by grind)
 have k6:=Rat.mul_nonneg (show 0<=1/4*ee-4*dd by grind) (show 0<=1/4*ee+4*dd by grind)
 have k7:=Rat.mul_nonneg (show 0<=ee by grind) (show 0<=1-ee by grind)
 have k8:=bf (x-y);refine ⟨⟨by grind,by grind⟩,⟨by grind,by grind⟩⟩
theorem Qg {m n:Nat} (h:n<=m) {p q k:Rat} (hp:Nr (zc m) p k) (hq:Nr (zs m) q k) (hk:0<=k):Nr (zc (m-n)) (p*zc n+q*zs n) (2*k)/\Nr (zs (m-n)) (q*zc n-p*zs n) (2*k):=by
 obtain ⟨a,b⟩:=Qn h;obtain ⟨o1,o2⟩:=z1 n;obtain ⟨u1,u2⟩:=z1 m;have m1:=Nr.mul hp (Nr.refl (zc n)) u1 o1 hk Rat.le_refl;have m2:=Nr.mul hq (Nr.refl (zs n)) u2 o2 hk Rat.le_refl;have m3:=Nr.mul hq (Nr.refl (zc n)) u2 o1 hk Rat.le_refl;have m4:=Nr.mul hp (Nr.refl (zs n)) u1 o2 hk Rat.le_refl;rw [a,b];unfold Nr at *
 refine ⟨⟨by grind,by grind⟩,⟨by grind,by grind⟩⟩
theorem tz (k:Nat) (h:k<=5400000):Nr (tS k) (zs k) ee/\Nr (tC k) (zc k) ee:=by
 have e:=bX;unfold tS tC
 by_cases q:k<=2700000
 . rw [if_pos q,if_pos q];exact ⟨(Nr.refl _).le (by grind),(Nr.refl _).le (by grind)⟩
 . rw [if_neg q,if_neg q];obtain ⟨a,b⟩:=Qg h zQ.1 zQ.2 (by grind)
   unfold Nr at *
   refine ⟨⟨?_,?_⟩,⟨?_,?_⟩⟩<;>grind
theorem g1 (n:Int):O1 (cg n)/\O1 (sg n):=by
 have o:=yI n;exact ⟨Ex (y:=sg n) (by grind),Ex o⟩
