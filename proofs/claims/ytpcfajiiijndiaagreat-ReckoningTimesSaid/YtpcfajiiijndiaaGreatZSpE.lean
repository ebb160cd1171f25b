/- More known functions: products with integers, small roots. -/
import Derived.Test.YtpcfajiiijndiaaGreatZSpN
import Derived.Test.YtpcfajiiijndiaaGreatZRef1
import Derived.Test.YtpcfajiiijndiaaGreatZMake
import Derived.Deep.Light
set_option linter.unusedVariables false
set_option linter.unusedSimpArgs false
namespace Alm
end Alm
namespace Go.Proofs.YtpcfajiiijndiaaGreat
open Go.RowKit Alm Sx
def EL:Nat->List Int->List Int
 | 9,[a,b,n]=>[iW a b n,iO a b n,0]
 | 10,[n]=>[rtV n]
 | 11,[x,d]=>sZ (qFl x 1073741824 d) (qCe x 1073741824 d)
 | 36,[a,b]=>[if FC a b=0 then GN a else 0,if FC a b=0 then He b else 0,FC a b]
 | f,xs=>kC f xs
def tX:Nat->List Int->Prop
 | 9,[a,b,n]=>fxV a b=true/\aC n=true
 | 10,[n]=>0<=n/\n<4398046511104
 | 11,[x,d]=>MkP x d
 | 36,[a,b]=>fxV a b=true
 | f,xs=>preB f xs
def cxE (args:List Int):Cx:=⟨EL,tX,args⟩
theorem sK {f:Nat} (h:f≠9/\f≠10/\f≠11/\f≠36) (xs:List Int):EL f xs=kC f xs:=by
 unfold EL;split
 . exact absurd rfl h.1
 . exact absurd rfl h.2.1
 . exact absurd rfl h.2.2.1
 . exact absurd rfl h.2.2.2
 . rfl
theorem rW {f:Nat} (h:f≠9/\f≠10/\f≠11/\f≠36) (xs:List Int):tX f xs=preB f xs:=by
 unfold tX;split
 . exact absurd rfl h.1
 . exact absurd rfl h.2.1
 . exact absurd rfl h.2.2.1
 . exact absurd rfl h.2.2.2
 . rfl
def yO:Nat->List Int->Bool
 | 0,[a,b,c,d]=>fxV a b&&fxV c d
 | 1,[a,b,c,d]=>fxV a b&&fxV c d
 | 2,[a,b,c,d]=>fxV a b&&fxV c d
 | 7,[a,b,c,d]=>fxV a b&&fxV c d
 | 3,[a,b]=>fxV a b
 | 4,[a,b]=>fxV a b&&decide (0<=b)
 | 5,[a,b]=>aL a b
 | 6,[a,b]=>aL a b
 | 8,[_,_]=>true
 | 9,[a,b,n]=>fxV a b&&aC n
 | 10,[n]=>decide (0<=n/\n<4398046511104)
 | 11,[x,d]=>decide ((0<d/\d<=1099511627776)/\(-1099511627776<=x/\x<=1099511627776)/\((-4294967296<=x/\x<=4294967296)∨(-d<=x/\x<=d)))
 | 36,[a,b]=>fxV a b
 | 20,[]=>true
 | _,_=>false
theorem zZ (f:Nat) (xs:List Int) (h:yO f xs=true):tX f xs:=by
 unfold yO at h;split at h
 all_goals first
  | (simp only [Bool.and_eq_true] at h;exact h)
  | (simp only [Bool.and_eq_true] at h;exact ⟨h.1,of_decide_eq_true h.2⟩)
  | (have h2:=of_decide_eq_true h;exact h2)
  | exact h
  | trivial
  | cases h
theorem FT (args:List Int):Bb (cxE args):=⟨fun f xs h=>sK (by omega) xs,fun f xs h hp=>by
 show tX f xs;rw [rW (by omega)];exact hp⟩
theorem Ea {args:List Int} {s:Sx.Spec} (h:s.id≠9/\s.id≠10/\s.id≠11/\s.id≠36) (H:bg Tryz.prog (cxB args) s):bg Tryz.prog (cxE args) s:=by
 obtain ⟨a,b⟩:=H;refine ⟨a,fun xs hp w=>?_⟩
 have hp':preB s.id xs:=by
  have:tX s.id xs:=hp
  rwa [rW h] at this
 have:=b xs hp' w;rw [show (cxE args).sem s.id xs=(cxB args).sem s.id xs from sK h xs]
 exact this
theorem Gm {xs:List Int} (hp:tX 9 xs):∃ a b n,xs=[a,b,n]/\fxV a b=true/\aC n=true:=by
 match xs,hp with
 | [a,b,n],hp=>exact ⟨a,b,n,rfl,hp⟩
def zo:Sx.Spec:=⟨79,9,[(true,[some .i64,some .i64]),(false,[some .i64])],[(false,[some .i64]),(false,[some .i64]),(false,[some .i64])]⟩
theorem yg (args:List Int):bg Tryz.prog (cxE args) zo:=by
 refine ⟨ours _ _ _ Tryz.func79 rfl (by kernel_rfl),fun xs hp w=>?_⟩
 obtain ⟨a,b,n,rfl,h1,h2⟩:=Gm hp;exact vS a b n w h1 h2
def FX (t:Tab):Nd->Option Rf
 | .app 9 2 [_,_,_]=>some (.c 0)
 | x=>Ep t x
theorem bI (args:List Int):gN (cxE args) FX:=by
 intro v t x r ht h;unfold FX at h;split at h
 . cases h;rfl
 . exact Dn (FT args) v t x r ht h
