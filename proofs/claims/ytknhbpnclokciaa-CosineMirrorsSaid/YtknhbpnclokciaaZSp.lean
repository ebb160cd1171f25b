/- The known functions of the symbolic runs: what they return, what they ask. -/
import Derived.Test.YtknhbpnclokciaaZSxL
import Derived.Test.YtknhbpnclokciaaZVecs
import Derived.Test.YtknhbpnclokciaaZArc8
set_option linter.unusedVariables false
set_option linter.unusedSimpArgs false
namespace Go.Proofs.Ytknhbpnclokciaa
open Go.RowKit Alm Sx
def D7 (L H:Int):List Int:=[jS L H,jU L H,jI L H]
def aD:Nat->List Int->List Int
 | 0,[a,b,c,d]=>D7 (gI a b c d) (iq a b c d)
 | 1,[a,b,c,d]=>D7 (a+c) (b+d)
 | 2,[a,b,c,d]=>D7 (a-d) (b-c)
 | 3,[a,b]=>D7 (sqL a b) (sqH a b)
 | 4,[a,b]=>D7 (rtL a b) (rtH a b)
 | 5,[a,b]=>[fJ a b,fZ a b,0]
 | 6,[a,b]=>[fJ (a+5400000) (b+5400000),fZ (a+5400000) (b+5400000),0]
 | 7,[a,b,c,d]=>[fB a b c d,gG a b c d,0]
 | 8,[a,b]=>[b2i (fxV a b)]
 | 20,[]=>[1]
 | _,_=>[]
def preB:Nat->List Int->Prop
 | 0,[a,b,c,d]=>fxV a b=true/\fxV c d=true
 | 1,[a,b,c,d]=>fxV a b=true/\fxV c d=true
 | 2,[a,b,c,d]=>fxV a b=true/\fxV c d=true
 | 3,[a,b]=>fxV a b=true
 | 4,[a,b]=>fxV a b=true/\0<=b
 | 5,[a,b]=>dI a b=true
 | 6,[a,b]=>dI a b=true
 | 7,[a,b,c,d]=>fxV a b=true/\fxV c d=true
 | 8,[_,_]=>True
 | 20,[]=>True
 | _,_=>False
def cxB (args:List Int):Cx:=⟨aD,preB,args⟩
theorem Dh {f:Nat} {xs:List Int} (h:f=0∨f=1∨f=2∨f=7) (hp:preB f xs):∃ a b c d,xs=[a,b,c,d]/\fxV a b=true/\fxV c d=true:=by
 rcases h with rfl|rfl|rfl|rfl <;>
 . match xs,hp with
   | [a,b,c,d],hp=>exact ⟨a,b,c,d,rfl,hp⟩
theorem yN {f:Nat} {xs:List Int} (h:f=3∨f=4∨f=5∨f=6∨f=8) (hp:preB f xs):∃ a b,xs=[a,b]:=by
 rcases h with rfl|rfl|rfl|rfl|rfl <;>
 . match xs,hp with
   | [a,b],hp=>exact ⟨a,b,rfl⟩
theorem afn {xs:List Int} (hp:preB 20 xs):xs=[]:=by
 match xs,hp with
 | [],_=>rfl
theorem abw (L H:Int):(jI L H=0∨jI L H=5)/\(jI L H≠0->jS L H=0/\jU L H=0)/\fxV (jS L H) (jU L H)=true:=by
 unfold jI jS jU;split
 . rename_i h;exact ⟨Or.inl rfl,fun h=>absurd rfl h,(bO _ _).2 h⟩
 . exact ⟨Or.inr rfl,fun _=>⟨rfl,rfl⟩,by decide⟩
end Go.Proofs.Ytknhbpnclokciaa
namespace Go.Proofs.Ytknhbpnclokciaa
open Go.RowKit Alm Sx
theorem dB:Try.prog.follows .mixedOrders=true:=by kernel_rfl
theorem ours (f : Nat) (fn : Func) (c : Code) (h1 : Try.prog.funcs[f]? = some fn) (h2 : fn.body = some c) (h3 : (fn.name == "runtime.NumGoroutine") = false) : FC Try.prog f := ⟨fn, c, h1, h2, h3⟩
def ack:Sx.Spec:=⟨59,0,[(true,[some .i64,some .i64]),(true,[some .i64,some .i64])],[(true,[some .i64,some .i64]),(false,[some .i64])]⟩
def adA:Sx.Spec:=⟨71,1,[(true,[some .i64,some .i64]),(true,[some .i64,some .i64])],[(true,[some .i64,some .i64]),(false,[some .i64])]⟩
def aea:Sx.Spec:=⟨66,2,[(true,[some .i64,some .i64]),(true,[some .i64,some .i64])],[(true,[some .i64,some .i64]),(false,[some .i64])]⟩
def aca:Sx.Spec:=⟨56,5,[(true,[some .i64,some .i64])],[(true,[some .i64,some .i64]),(false,[some .i64])]⟩
def ade:Sx.Spec:=⟨58,6,[(true,[some .i64,some .i64])],[(true,[some .i64,some .i64]),(false,[some .i64])]⟩
def Xw:Sx.Spec:=⟨70,7,[(true,[some .i64,some .i64]),(true,[some .i64,some .i64])],[(true,[some .i64,some .i64]),(false,[some .i64])]⟩
def Hy:Sx.Spec:=⟨72,8,[(true,[some .i64,some .i64])],[(false,[none])]⟩
theorem VR (args:List Int):aQ Try.prog (cxB args) ack:=by
 refine ⟨ours _ _ _ Try.func59 rfl (by kernel_rfl),fun xs hp w=>?_⟩
 obtain ⟨a,b,c,d,rfl,h1,h2⟩:=Dh (f:=0) (by simp) hp
 exact Yu a b c d w h1 h2
theorem Ut (args:List Int):aQ Try.prog (cxB args) adA:=by
 refine ⟨ours _ _ _ Try.func71 rfl (by kernel_rfl),fun xs hp w=>?_⟩
 obtain ⟨a,b,c,d,rfl,h1,h2⟩:=Dh (f:=1) (by simp) hp
 exact Y5 a b c d w h1 h2
theorem TG (args:List Int):aQ Try.prog (cxB args) aea:=by
 refine ⟨ours _ _ _ Try.func66 rfl (by kernel_rfl),fun xs hp w=>?_⟩
 obtain ⟨a,b,c,d,rfl,h1,h2⟩:=Dh (f:=2) (by simp) hp
 exact aaz a b c d w h1 h2
theorem Um (args:List Int):aQ Try.prog (cxB args) aca:=by
 refine ⟨ours _ _ _ Try.func56 rfl (by kernel_rfl),fun xs hp w=>?_⟩
 obtain ⟨a,b,rfl⟩:=yN (f:=5) (by simp) hp
 exact acZ a b w hp
theorem UF (args:List Int):aQ Try.prog (cxB args) ade:=by
 refine ⟨ours _ _ _ Try.func58 rfl (by kernel_rfl),fun xs hp w=>?_⟩
 obtain ⟨a,b,rfl⟩:=yN (f:=6) (by simp) hp
 exact adJ a b w hp
theorem Qk (args:List Int):aQ Try.prog (cxB args) Xw:=by
 refine ⟨ours _ _ _ Try.func70 rfl (by kernel_rfl),fun xs hp w=>?_⟩
 obtain ⟨a,b,c,d,rfl,h1,h2⟩:=Dh (f:=7) (by simp) hp
 exact NE a b c d w h1 h2
theorem iP (b:Bool):Value.bool (decide (b2i b≠0))=.bool b:=by rw [kZ]
theorem Mv (args:List Int):aQ Try.prog (cxB args) Hy:=by
 refine ⟨ours _ _ _ Try.func72 rfl (by kernel_rfl),fun xs hp w=>?_⟩
 obtain ⟨a,b,rfl⟩:=yN (f:=8) (by simp) hp
 refine (dQ a b w).mono ?_;rintro e w' ⟨he,hb⟩;exact ⟨by rw [he];exact congrArg Ending.returned (iP _).symm,hb⟩
end Go.Proofs.Ytknhbpnclokciaa
namespace Go.Proofs.Ytknhbpnclokciaa
open Go.RowKit Alm Sx
