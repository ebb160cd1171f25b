/- The contracts of package fixed's Make and of the reference's, for positive divisors. -/
import Derived.Test.YtdbaccfgkacffaaGreatZWidesB
import Derived.Test.YtdbaccfgkacffaaGreatZVecs
import Derived.Deep.Light
import Derived.Test.YtdbaccfgkacffaaGreatZSpN
import Derived.Test.YtdbaccfgkacffaaGreatZRef2
import Derived.Test.YtdbaccfgkacffaaGreatZPAsin
set_option linter.unusedVariables false
set_option linter.unusedSimpArgs false
namespace Alm
def MkP (x d:Int):Prop:=(0<d/\d<=1099511627776)/\(-1099511627776<=x/\x<=1099511627776)/\((-4294967296<=x/\x<=4294967296)∨(-d<=x/\x<=d))
end Alm
namespace Go.Proofs.YtdbaccfgkacffaaGreat
open Go.RowKit Alm
end Go.Proofs.YtdbaccfgkacffaaGreat
namespace Alm
end Alm
namespace Go.Proofs.YtdbaccfgkacffaaGreat
open Go.RowKit Alm Sx
def aM:Nat->List Int->List Int
 | 9,[a,b,n]=>[adT a b n,ad5 a b n,0]
 | 10,[n]=>[rtV n]
 | 11,[x,d]=>Ej (qFl x 1073741824 d) (qCe x 1073741824 d)
 | 36,[a,b]=>[if xO a b=0 then zZ a else 0,if xO a b=0 then vO b else 0,xO a b]
 | f,xs=>gq f xs
def MJ:Nat->List Int->Prop
 | 9,[a,b,n]=>fxV a b=true/\dU n=true
 | 10,[n]=>0<=n/\n<4398046511104
 | 11,[x,d]=>MkP x d
 | 36,[a,b]=>fxV a b=true
 | f,xs=>preB f xs
def cxE (args:List Int):Cx:=⟨aM,MJ,args⟩
theorem DF {f:Nat} (h:f≠9/\f≠10/\f≠11/\f≠36) (xs:List Int):aM f xs=gq f xs:=by
 unfold aM;split
 . exact absurd rfl h.1
 . exact absurd rfl h.2.1
 . exact absurd rfl h.2.2.1
 . exact absurd rfl h.2.2.2
 . rfl
theorem BR {f:Nat} (h:f≠9/\f≠10/\f≠11/\f≠36) (xs:List Int):MJ f xs=preB f xs:=by
 unfold MJ;split
 . exact absurd rfl h.1
 . exact absurd rfl h.2.1
 . exact absurd rfl h.2.2.1
 . exact absurd rfl h.2.2.2
 . rfl
theorem WH (args:List Int):uk (cxE args):=⟨fun f xs h=>DF (by omega) xs,fun f xs h hp=>by
 show MJ f xs;rw [BR (by omega)];exact hp⟩
theorem iJ {args:List Int} {s:Sx.Spec} (h:s.id≠9/\s.id≠10/\s.id≠11/\s.id≠36) (H:aO Tryz.prog (cxB args) s):aO Tryz.prog (cxE args) s:=by
 obtain ⟨a,b⟩:=H;refine ⟨a,fun xs hp w=>?_⟩
 have hp':preB s.id xs:=by
  have:MJ s.id xs:=hp
  rwa [BR h] at this
 have:=b xs hp' w;rw [show (cxE args).sem s.id xs=(cxB args).sem s.id xs from DF h xs]
 exact this
theorem Rp {xs:List Int} (hp:MJ 36 xs):∃ a b,xs=[a,b]/\fxV a b=true:=by
 match xs,hp with
 | [a,b],hp=>exact ⟨a,b,rfl,hp⟩
def Tn:Sx.Spec:=⟨174,36,[(true,[some .i64,some .i64])],[(true,[some .i64,some .i64]),(false,[some .i64])]⟩
def SK:Sx.Spec:=⟨167,36,[(true,[some .i64,some .i64])],[(true,[some .i64,some .i64]),(false,[some .i64])]⟩
def abH (t:Tab):Nd->Option Rf
 | .app 9 2 [_,_,_]=>some (.c 0)
 | x=>EY t x
theorem jI (args:List Int):jA (cxE args) abH:=by
 intro v t x r ht h;unfold abH at h;split at h
 . cases h;rfl
 . exact qH (WH args) v t x r ht h
