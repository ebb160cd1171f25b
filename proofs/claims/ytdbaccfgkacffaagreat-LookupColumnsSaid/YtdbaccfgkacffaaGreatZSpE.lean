/- The contracts of package fixed's Make and of the reference's, for positive divisors. -/
import Derived.Test.YtdbaccfgkacffaaGreatZWidesB
import Derived.Test.YtdbaccfgkacffaaGreatZVecs
import Derived.Deep.Light
import Derived.Test.YtdbaccfgkacffaaGreatZSpN
import Derived.Test.YtdbaccfgkacffaaGreatZRef2
import Derived.Test.YtdbaccfgkacffaaGreatZPAsin
set_option linter.unusedVariables false
set_option linter.unusedSimpArgs false
namespace Alm
def MkP (x d:Int):Prop:=(0<d/\d<=1099511627776)/\(-1099511627776<=x/\x<=1099511627776)/\((-4294967296<=x/\x<=4294967296)∨(-d<=x/\x<=d))
end Alm
namespace Go.Proofs.YtdbaccfgkacffaaGreat
open Go.RowKit Alm
end Go.Proofs.YtdbaccfgkacffaaGreat
namespace Alm
end Alm
namespace Go.Proofs.YtdbaccfgkacffaaGreat
open Go.RowKit Alm Sx
def aL:Nat->List Int->List Int
 | 9,[a,b,n]=>[adv a b n,adt a b n,0]
 | 10,[n]=>[rtV n]
 | 11,[x,d]=>EQ (qFl x 1073741824 d) (qCe x 1073741824 d)
 | 36,[a,b]=>[if xU a b=0 then Bq a else 0,if xU a b=0 then xz b else 0,xU a b]
 | f,xs=>fZ f xs
def Km:Nat->List Int->Prop
 | 9,[a,b,n]=>fxV a b=true/\dQ n=true
 | 10,[n]=>0<=n/\n<4398046511104
 | 11,[x,d]=>MkP x d
 | 36,[a,b]=>fxV a b=true
 | f,xs=>preB f xs
def cxE (args:List Int):Cx:=⟨aL,Km,args⟩
theorem EP {f:Nat} (h:f≠9/\f≠10/\f≠11/\f≠36) (xs:List Int):aL f xs=fZ f xs:=by
 unfold aL;split
 . exact absurd rfl h.1
 . exact absurd rfl h.2.1
 . exact absurd rfl h.2.2.1
 . exact absurd rfl h.2.2.2
 . rfl
theorem Dx {f:Nat} (h:f≠9/\f≠10/\f≠11/\f≠36) (xs:List Int):Km f xs=preB f xs:=by
 unfold Km;split
 . exact absurd rfl h.1
 . exact absurd rfl h.2.1
 . exact absurd rfl h.2.2.1
 . exact absurd rfl h.2.2.2
 . rfl
theorem Ww (args:List Int):AA (cxE args):=⟨fun f xs h=>EP (by omega) xs,fun f xs h hp=>by
 show Km f xs;rw [Dx (by omega)];exact hp⟩
theorem iW {args:List Int} {s:Sx.Spec} (h:s.id≠9/\s.id≠10/\s.id≠11/\s.id≠36) (H:aT Tryz.prog (cxB args) s):aT Tryz.prog (cxE args) s:=by
 obtain ⟨a,b⟩:=H;refine ⟨a,fun xs hp w=>?_⟩
 have hp':preB s.id xs:=by
  have:Km s.id xs:=hp
  rwa [Dx h] at this
 have:=b xs hp' w;rw [show (cxE args).sem s.id xs=(cxB args).sem s.id xs from EP h xs]
 exact this
theorem O6 {xs:List Int} (hp:Km 36 xs):∃ a b,xs=[a,b]/\fxV a b=true:=by
 match xs,hp with
 | [a,b],hp=>exact ⟨a,b,rfl,hp⟩
def R5:Sx.Spec:=⟨174,36,[(true,[some .i64,some .i64])],[(true,[some .i64,some .i64]),(false,[some .i64])]⟩
def VS:Sx.Spec:=⟨167,36,[(true,[some .i64,some .i64])],[(true,[some .i64,some .i64]),(false,[some .i64])]⟩
def Z0 (t:Tab):Nd->Option Rf
 | .app 9 2 [_,_,_]=>some (.c 0)
 | x=>Lc t x
theorem jF (args:List Int):jA (cxE args) Z0:=by
 intro v t x r ht h;unfold Z0 at h;split at h
 . cases h;rfl
 . exact uF (Ww args) v t x r ht h
