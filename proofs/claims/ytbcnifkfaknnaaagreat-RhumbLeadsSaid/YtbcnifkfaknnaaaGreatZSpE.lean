/- More known functions: products with integers, small roots. -/
import Derived.Test.YtbcnifkfaknnaaaGreatZSpN
import Derived.Test.YtbcnifkfaknnaaaGreatZRef1
import Derived.Test.YtbcnifkfaknnaaaGreatZMake
import Derived.Deep.Light
set_option linter.unusedVariables false
set_option linter.unusedSimpArgs false
namespace Alm
end Alm
namespace Go.Proofs.YtbcnifkfaknnaaaGreat
open Go.RowKit Alm Sx
def fA:Nat->List Int->List Int
 | 9,[a,b,n]=>[gH a b n,gU a b n,0]
 | 10,[n]=>[rtV n]
 | 11,[x,d]=>JK (qFl x 1073741824 d) (qCe x 1073741824 d)
 | 36,[a,b]=>[if UM a b=0 then ZN a else 0,if UM a b=0 then Z5 b else 0,UM a b]
 | f,xs=>LV f xs
def Fz:Nat->List Int->Prop
 | 9,[a,b,n]=>fxV a b=true/\cK n=true
 | 10,[n]=>0<=n/\n<4398046511104
 | 11,[x,d]=>MkP x d
 | 36,[a,b]=>fxV a b=true
 | f,xs=>preB f xs
def cxE (args:List Int):Cx:=⟨fA,Fz,args⟩
theorem Kw {f:Nat} (h:f≠9/\f≠10/\f≠11/\f≠36) (xs:List Int):fA f xs=LV f xs:=by
 unfold fA;split
 . exact absurd rfl h.1
 . exact absurd rfl h.2.1
 . exact absurd rfl h.2.2.1
 . exact absurd rfl h.2.2.2
 . rfl
theorem MJ {f:Nat} (h:f≠9/\f≠10/\f≠11/\f≠36) (xs:List Int):Fz f xs=preB f xs:=by
 unfold Fz;split
 . exact absurd rfl h.1
 . exact absurd rfl h.2.1
 . exact absurd rfl h.2.2.1
 . exact absurd rfl h.2.2.2
 . rfl
def Mm:Nat->List Int->Bool
 | 0,[a,b,c,d]=>fxV a b&&fxV c d
 | 1,[a,b,c,d]=>fxV a b&&fxV c d
 | 2,[a,b,c,d]=>fxV a b&&fxV c d
 | 7,[a,b,c,d]=>fxV a b&&fxV c d
 | 3,[a,b]=>fxV a b
 | 4,[a,b]=>fxV a b&&decide (0<=b)
 | 5,[a,b]=>kL a b
 | 6,[a,b]=>kL a b
 | 8,[_,_]=>true
 | 9,[a,b,n]=>fxV a b&&cK n
 | 10,[n]=>decide (0<=n/\n<4398046511104)
 | 11,[x,d]=>decide ((0<d/\d<=1099511627776)/\(-1099511627776<=x/\x<=1099511627776)/\((-4294967296<=x/\x<=4294967296)∨(-d<=x/\x<=d)))
 | 36,[a,b]=>fxV a b
 | 20,[]=>true
 | _,_=>false
theorem M8 (f:Nat) (xs:List Int) (h:Mm f xs=true):Fz f xs:=by
 unfold Mm at h;split at h
 all_goals first
  | (simp only [Bool.and_eq_true] at h;exact h)
  | (simp only [Bool.and_eq_true] at h;exact ⟨h.1,of_decide_eq_true h.2⟩)
  | (have h2:=of_decide_eq_true h;exact h2)
  | exact h
  | trivial
  | cases h
theorem Hz {args:List Int} {s:Sx.Spec} (h:s.id≠9/\s.id≠10/\s.id≠11/\s.id≠36) (H:bR Tryz.prog (cxB args) s):bR Tryz.prog (cxE args) s:=by
 obtain ⟨a,b⟩:=H;refine ⟨a,fun xs hp w=>?_⟩
 have hp':preB s.id xs:=by
  have:Fz s.id xs:=hp
  rwa [MJ h] at this
 have:=b xs hp' w;rw [show (cxE args).sem s.id xs=(cxB args).sem s.id xs from Kw h xs]
 exact this
theorem YZ {xs:List Int} (hp:Fz 9 xs):∃ a b n,xs=[a,b,n]/\fxV a b=true/\cK n=true:=by
 match xs,hp with
 | [a,b,n],hp=>exact ⟨a,b,n,rfl,hp⟩
def Ev:Sx.Spec:=⟨18,9,[(true,[some .i64,some .i64]),(false,[some .i64])],[(false,[some .i64]),(false,[some .i64]),(false,[some .i64])]⟩
theorem yx (args:List Int):bR Tryz.prog (cxE args) Ev:=by
 refine ⟨ours _ _ _ Tryz.func18 rfl (by kernel_rfl),fun xs hp w=>?_⟩
 obtain ⟨a,b,n,rfl,h1,h2⟩:=YZ hp;exact Qt a b n w h1 h2
