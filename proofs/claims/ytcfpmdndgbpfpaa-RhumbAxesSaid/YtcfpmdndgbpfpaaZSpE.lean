/- More known functions: products with integers, small roots. -/
import Derived.Test.YtcfpmdndgbpfpaaZSpN
import Derived.Test.YtcfpmdndgbpfpaaZRef1
import Derived.Test.YtcfpmdndgbpfpaaZMake
import Derived.Test.YtcfpmdndgbpfpaaZPAsin
import Derived.Deep.Light
set_option linter.unusedVariables false
set_option linter.unusedSimpArgs false
namespace Alm
end Alm
namespace Go.Proofs.Ytcfpmdndgbpfpaa
open Go.RowKit Alm Sx
def oJ:Nat->List Int->List Int
 | 9,[a,b,n]=>[pY a b n,rV a b n,0]
 | 10,[n]=>[rtV n]
 | 11,[x,d]=>DT (qFl x 1073741824 d) (qCe x 1073741824 d)
 | 36,[a,b]=>[if Oz a b=0 then TJ a else 0,if Oz a b=0 then Ua b else 0,Oz a b]
 | f,xs=>Gr f xs
def zW:Nat->List Int->Prop
 | 9,[a,b,n]=>fxV a b=true/\jm n=true
 | 10,[n]=>0<=n/\n<4398046511104
 | 11,[x,d]=>MkP x d
 | 36,[a,b]=>fxV a b=true
 | f,xs=>preB f xs
def cxE (args:List Int):Cx:=⟨oJ,zW,args⟩
theorem II {f:Nat} (h:f≠9/\f≠10/\f≠11/\f≠36) (xs:List Int):oJ f xs=Gr f xs:=by
 unfold oJ;split
 . exact absurd rfl h.1
 . exact absurd rfl h.2.1
 . exact absurd rfl h.2.2.1
 . exact absurd rfl h.2.2.2
 . rfl
theorem GU {f:Nat} (h:f≠9/\f≠10/\f≠11/\f≠36) (xs:List Int):zW f xs=preB f xs:=by
 unfold zW;split
 . exact absurd rfl h.1
 . exact absurd rfl h.2.1
 . exact absurd rfl h.2.2.1
 . exact absurd rfl h.2.2.2
 . rfl
def Gp:Nat->List Int->Bool
 | 0,[a,b,c,d]=>fxV a b&&fxV c d
 | 1,[a,b,c,d]=>fxV a b&&fxV c d
 | 2,[a,b,c,d]=>fxV a b&&fxV c d
 | 7,[a,b,c,d]=>fxV a b&&fxV c d
 | 3,[a,b]=>fxV a b
 | 4,[a,b]=>fxV a b&&decide (0<=b)
 | 5,[a,b]=>sQ a b
 | 6,[a,b]=>sQ a b
 | 8,[_,_]=>true
 | 9,[a,b,n]=>fxV a b&&jm n
 | 10,[n]=>decide (0<=n/\n<4398046511104)
 | 11,[x,d]=>decide ((0<d/\d<=1099511627776)/\(-1099511627776<=x/\x<=1099511627776)/\((-4294967296<=x/\x<=4294967296)∨(-d<=x/\x<=d)))
 | 36,[a,b]=>fxV a b
 | 20,[]=>true
 | _,_=>false
theorem IK (f:Nat) (xs:List Int) (h:Gp f xs=true):zW f xs:=by
 unfold Gp at h;split at h
 all_goals first
  | (simp only [Bool.and_eq_true] at h;exact h)
  | (simp only [Bool.and_eq_true] at h;exact ⟨h.1,of_decide_eq_true h.2⟩)
  | (have h2:=of_decide_eq_true h;exact h2)
  | exact h
  | trivial
  | cases h
theorem MG {args:List Int} {s:Sx.Spec} (h:s.id≠9/\s.id≠10/\s.id≠11/\s.id≠36) (H:bE Try.prog (cxB args) s):bE Try.prog (cxE args) s:=by
 obtain ⟨a,b⟩:=H;refine ⟨a,fun xs hp w=>?_⟩
 have hp':preB s.id xs:=by
  have:zW s.id xs:=hp
  rwa [GU h] at this
 have:=b xs hp' w;rw [show (cxE args).sem s.id xs=(cxB args).sem s.id xs from II h xs]
 exact this
theorem Sw {xs:List Int} (hp:zW 9 xs):∃ a b n,xs=[a,b,n]/\fxV a b=true/\jm n=true:=by
 match xs,hp with
 | [a,b,n],hp=>exact ⟨a,b,n,rfl,hp⟩
def GH:Sx.Spec:=⟨23,9,[(true,[some .i64,some .i64]),(false,[some .i64])],[(false,[some .i64]),(false,[some .i64]),(false,[some .i64])]⟩
theorem El (args:List Int):bE Try.prog (cxE args) GH:=by
 refine ⟨ours _ _ _ Try.func23 rfl (by kernel_rfl),fun xs hp w=>?_⟩
 obtain ⟨a,b,n,rfl,h1,h2⟩:=Sw hp;exact KN a b n w h1 h2
