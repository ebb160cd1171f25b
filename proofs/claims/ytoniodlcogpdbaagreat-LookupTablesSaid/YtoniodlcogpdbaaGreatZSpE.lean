/- The contracts of package fixed's Make and of the reference's, for positive divisors. -/
import Derived.Test.YtoniodlcogpdbaaGreatZWidesB
import Derived.Test.YtoniodlcogpdbaaGreatZVecs
import Derived.Deep.Light
import Derived.Test.YtoniodlcogpdbaaGreatZSpN
import Derived.Test.YtoniodlcogpdbaaGreatZRef1
import Derived.Test.YtoniodlcogpdbaaGreatZPAsin
set_option linter.unusedVariables false
set_option linter.unusedSimpArgs false
namespace Alm
def MkP (x d:Int):Prop:=(0<d/\d<=1099511627776)/\(-1099511627776<=x/\x<=1099511627776)/\((-4294967296<=x/\x<=4294967296)∨(-d<=x/\x<=d))
end Alm
namespace Go.Proofs.YtoniodlcogpdbaaGreat
open Go.RowKit Alm
end Go.Proofs.YtoniodlcogpdbaaGreat
namespace Alm
end Alm
namespace Go.Proofs.YtoniodlcogpdbaaGreat
open Go.RowKit Alm Sx
def aM:Nat->List Int->List Int
 | 9,[a,b,n]=>[ade a b n,adO a b n,0]
 | 10,[n]=>[rtV n]
 | 11,[x,d]=>DW (qFl x 1073741824 d) (qCe x 1073741824 d)
 | 36,[a,b]=>[if yK a b=0 then Br a else 0,if yK a b=0 then vT b else 0,yK a b]
 | f,xs=>fZ f xs
def MO:Nat->List Int->Prop
 | 9,[a,b,n]=>fxV a b=true/\dz n=true
 | 10,[n]=>0<=n/\n<4398046511104
 | 11,[x,d]=>MkP x d
 | 36,[a,b]=>fxV a b=true
 | f,xs=>preB f xs
def cxE (args:List Int):Cx:=⟨aM,MO,args⟩
theorem Eu {f:Nat} (h:f≠9/\f≠10/\f≠11/\f≠36) (xs:List Int):aM f xs=fZ f xs:=by
 unfold aM;split
 . exact absurd rfl h.1
 . exact absurd rfl h.2.1
 . exact absurd rfl h.2.2.1
 . exact absurd rfl h.2.2.2
 . rfl
theorem En {f:Nat} (h:f≠9/\f≠10/\f≠11/\f≠36) (xs:List Int):MO f xs=preB f xs:=by
 unfold MO;split
 . exact absurd rfl h.1
 . exact absurd rfl h.2.1
 . exact absurd rfl h.2.2.1
 . exact absurd rfl h.2.2.2
 . rfl
theorem WO (args:List Int):Cq (cxE args):=⟨fun f xs h=>Eu (by omega) xs,fun f xs h hp=>by
 show MO f xs;rw [En (by omega)];exact hp⟩
theorem iY {args:List Int} {s:Sx.Spec} (h:s.id≠9/\s.id≠10/\s.id≠11/\s.id≠36) (H:aR Tryz.prog (cxB args) s):aR Tryz.prog (cxE args) s:=by
 obtain ⟨a,b⟩:=H;refine ⟨a,fun xs hp w=>?_⟩
 have hp':preB s.id xs:=by
  have:MO s.id xs:=hp
  rwa [En h] at this
 have:=b xs hp' w;rw [show (cxE args).sem s.id xs=(cxB args).sem s.id xs from Eu h xs]
 exact this
theorem Po {xs:List Int} (hp:MO 36 xs):∃ a b,xs=[a,b]/\fxV a b=true:=by
 match xs,hp with
 | [a,b],hp=>exact ⟨a,b,rfl,hp⟩
def Wh:Sx.Spec:=⟨114,36,[(true,[some .i64,some .i64])],[(true,[some .i64,some .i64]),(false,[some .i64])]⟩
def TY:Sx.Spec:=⟨54,36,[(true,[some .i64,some .i64])],[(true,[some .i64,some .i64]),(false,[some .i64])]⟩
def abe (t:Tab):Nd->Option Rf
 | .app 9 2 [_,_,_]=>some (.c 0)
 | x=>Nb t x
theorem jC (args:List Int):jG (cxE args) abe:=by
 intro v t x r ht h;unfold abe at h;split at h
 . cases h;rfl
 . exact vB (WO args) v t x r ht h
