/- More known functions: products with integers, small roots. -/
import Derived.Test.YtknhbpnclokciaaZSpN
import Derived.Test.YtknhbpnclokciaaZRef1
import Derived.Test.YtknhbpnclokciaaZMake
import Derived.Test.YtknhbpnclokciaaZPAsin
import Derived.Deep.Light
set_option linter.unusedVariables false
set_option linter.unusedSimpArgs false
namespace Alm
end Alm
namespace Go.Proofs.Ytknhbpnclokciaa
open Go.RowKit Alm Sx
def eD:Nat->List Int->List Int
 | 9,[a,b,n]=>[sD a b n,rZ a b n,0]
 | 10,[n]=>[rtV n]
 | 11,[x,d]=>D7 (qFl x 1073741824 d) (qCe x 1073741824 d)
 | 36,[a,b]=>[if Ch a b=0 then Ru a else 0,if Ch a b=0 then Gu b else 0,Ch a b]
 | f,xs=>aD f xs
def BX:Nat->List Int->Prop
 | 9,[a,b,n]=>fxV a b=true/\gT n=true
 | 10,[n]=>0<=n/\n<4398046511104
 | 11,[x,d]=>MkP x d
 | 36,[a,b]=>fxV a b=true
 | f,xs=>preB f xs
def cxE (args:List Int):Cx:=⟨eD,BX,args⟩
theorem BP {f:Nat} (h:f≠9/\f≠10/\f≠11/\f≠36) (xs:List Int):eD f xs=aD f xs:=by
 unfold eD;split
 . exact absurd rfl h.1
 . exact absurd rfl h.2.1
 . exact absurd rfl h.2.2.1
 . exact absurd rfl h.2.2.2
 . rfl
theorem BV {f:Nat} (h:f≠9/\f≠10/\f≠11/\f≠36) (xs:List Int):BX f xs=preB f xs:=by
 unfold BX;split
 . exact absurd rfl h.1
 . exact absurd rfl h.2.1
 . exact absurd rfl h.2.2.1
 . exact absurd rfl h.2.2.2
 . rfl
def KD:Nat->List Int->Bool
 | 0,[a,b,c,d]=>fxV a b&&fxV c d
 | 1,[a,b,c,d]=>fxV a b&&fxV c d
 | 2,[a,b,c,d]=>fxV a b&&fxV c d
 | 7,[a,b,c,d]=>fxV a b&&fxV c d
 | 3,[a,b]=>fxV a b
 | 4,[a,b]=>fxV a b&&decide (0<=b)
 | 5,[a,b]=>dI a b
 | 6,[a,b]=>dI a b
 | 8,[_,_]=>true
 | 9,[a,b,n]=>fxV a b&&gT n
 | 10,[n]=>decide (0<=n/\n<4398046511104)
 | 11,[x,d]=>decide ((0<d/\d<=1099511627776)/\(-1099511627776<=x/\x<=1099511627776)/\((-4294967296<=x/\x<=4294967296)∨(-d<=x/\x<=d)))
 | 36,[a,b]=>fxV a b
 | 20,[]=>true
 | _,_=>false
theorem Nr (f:Nat) (xs:List Int) (h:KD f xs=true):BX f xs:=by
 unfold KD at h;split at h
 all_goals first
  | (simp only [Bool.and_eq_true] at h;exact h)
  | (simp only [Bool.and_eq_true] at h;exact ⟨h.1,of_decide_eq_true h.2⟩)
  | (have h2:=of_decide_eq_true h;exact h2)
  | exact h
  | trivial
  | cases h
theorem VO (args:List Int):yI (cxE args):=⟨fun f xs h=>BP (by omega) xs,fun f xs h hp=>by
 show BX f xs;rw [BV (by omega)];exact hp⟩
theorem zH {args:List Int} {s:Sx.Spec} (h:s.id≠9/\s.id≠10/\s.id≠11/\s.id≠36) (H:aQ Try.prog (cxB args) s):aQ Try.prog (cxE args) s:=by
 obtain ⟨a,b⟩:=H;refine ⟨a,fun xs hp w=>?_⟩
 have hp':preB s.id xs:=by
  have:BX s.id xs:=hp
  rwa [BV h] at this
 have:=b xs hp' w;rw [show (cxE args).sem s.id xs=(cxB args).sem s.id xs from BP h xs]
 exact this
theorem Z8 {xs:List Int} (hp:BX 36 xs):∃ a b,xs=[a,b]/\fxV a b=true:=by
 match xs,hp with
 | [a,b],hp=>exact ⟨a,b,rfl,hp⟩
def Ub:Sx.Spec:=⟨52,36,[(true,[some .i64,some .i64])],[(true,[some .i64,some .i64]),(false,[some .i64])]⟩
def ae9 (t:Tab):Nd->Option Rf
 | .app 9 2 [_,_,_]=>some (.c 0)
 | x=>Ot t x
theorem vF (args:List Int):nZ (cxE args) ae9:=by
 intro v t x r ht h;unfold ae9 at h;split at h
 . cases h;rfl
 . exact Bf (VO args) v t x r ht h
