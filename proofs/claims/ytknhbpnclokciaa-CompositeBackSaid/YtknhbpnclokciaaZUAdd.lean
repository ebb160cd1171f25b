/- The points of the unit circle near angles obey the law of addition, nearly. -/
import Derived.Test.YtknhbpnclokciaaZUnit
set_option linter.unusedVariables false
set_option linter.unusedSimpArgs false
namespace Go.Proofs.Ytknhbpnclokciaa
open Alm
def Nr (x y e:Rat):Prop:=-e<=x-y/\x-y<=e
theorem Nr.refl (x:Rat):Nr x x 0:=by unfold Nr;constructor<;>grind
theorem Nr.symm {x y e:Rat} (h:Nr x y e):Nr y x e:=by unfold Nr at *;constructor<;>grind
theorem Nr.trans {x y z e f:Rat} (h:Nr x y e) (k:Nr y z f):Nr x z (e+f):=by unfold Nr at *;constructor<;>grind
theorem Nr.neg {x y e:Rat} (h:Nr x y e):Nr (-x) (-y) e:=by unfold Nr at *;constructor<;>grind
theorem Nr.add {x y z w e f:Rat} (h:Nr x y e) (k:Nr z w f):Nr (x+z) (y+w) (e+f):=by unfold Nr at *;constructor<;>grind
theorem Nr.le {x y e f:Rat} (h:Nr x y e) (k:e<=f):Nr x y f:=by unfold Nr at *;constructor<;>grind
def O1 (x:Rat):Prop:=-1<=x/\x<=1
theorem Nr.mul {x x' y y' e f:Rat} (hx:Nr x x' e) (hy:Nr y y' f) (b1:O1 x) (b2:O1 y') (he:0<=e) (hf:0<=f):Nr (x*y) (x'*y') (e+f):=by
 unfold Nr O1 at *
 have w1:=Rat.mul_nonneg (show 0<=1-x by grind) (show 0<=f-(y-y') by grind)
 have w2:=Rat.mul_nonneg (show 0<=1-x by grind) (show 0<=f+(y-y') by grind)
 have w3:=Rat.mul_nonneg (show 0<=1+x by grind) (show 0<=f-(y-y') by grind)
 have w4:=Rat.mul_nonneg (show 0<=1+x by grind) (show 0<=f+(y-y') by grind)
 have v1:=Rat.mul_nonneg (show 0<=1-y' by grind) (show 0<=e-(x-x') by grind)
 have v2:=Rat.mul_nonneg (show 0<=1-y' by grind) (show 0<=e+(x-x') by grind)
 have v3:=Rat.mul_nonneg (show 0<=1+y' by grind) (show 0<=e-(x-x') by grind)
 have v4:=Rat.mul_nonneg (show 0<=1+y' by grind) (show 0<=e+(x-x') by grind)
 constructor<;>grind
theorem Au (m:Nat):∀ n:Nat,zc (m+n)=zc m*zc n-zs m*zs n/\zs (m+n)=zs m*zc n+zc m*zs n
 | 0=>by rw [Nat.add_zero,iH,fQ];constructor<;>grind
 | n+1=>by
  obtain ⟨h1,h2⟩:=Au m n;rw [show m+(n+1)=(m+n)+1 from rfl,eX,eY,eX,eY,h1,h2]
  constructor<;>grind
theorem z1 (n:Nat):O1 (zc n)/\O1 (zs n):=⟨lN n,jL n⟩
theorem t1 (n:Nat):O1 (tC n)/\O1 (tS n):=by
 unfold tC tS
 constructor<;>split<;>first|exact lN _|exact jL _
theorem g1 (n:Int):O1 (cg n)/\O1 (sg n):=by
 have o:=Ay n;exact ⟨QE (y:=sg n) (by grind),QE o⟩
