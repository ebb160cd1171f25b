/- The known functions of the symbolic runs: what they return, what they ask. -/
import Derived.Test.YtcfpmdndgbpfpaaZSxL
import Derived.Test.YtcfpmdndgbpfpaaZVecs
import Derived.Test.YtcfpmdndgbpfpaaZArcHi
set_option linter.unusedVariables false
set_option linter.unusedSimpArgs false
namespace Go.Proofs.Ytcfpmdndgbpfpaa
open Go.RowKit Alm Sx
def DT (L H:Int):List Int:=[Uu L H,Us L H,TP L H]
def Gr:Nat->List Int->List Int
 | 0,[a,b,c,d]=>DT (TK a b c d) (TW a b c d)
 | 1,[a,b,c,d]=>DT (a+c) (b+d)
 | 2,[a,b,c,d]=>DT (a-d) (b-c)
 | 3,[a,b]=>DT (sqL a b) (sqH a b)
 | 4,[a,b]=>DT (rtL a b) (rtH a b)
 | 5,[a,b]=>[iA a b,iW a b,0]
 | 6,[a,b]=>[iA (a+5400000) (b+5400000),iW (a+5400000) (b+5400000),0]
 | 7,[a,b,c,d]=>[bv a b c d,bT a b c d,0]
 | 8,[a,b]=>[b2i (fxV a b)]
 | 20,[]=>[1]
 | _,_=>[]
def preB:Nat->List Int->Prop
 | 0,[a,b,c,d]=>fxV a b=true/\fxV c d=true
 | 1,[a,b,c,d]=>fxV a b=true/\fxV c d=true
 | 2,[a,b,c,d]=>fxV a b=true/\fxV c d=true
 | 3,[a,b]=>fxV a b=true
 | 4,[a,b]=>fxV a b=true/\0<=b
 | 5,[a,b]=>sQ a b=true
 | 6,[a,b]=>sQ a b=true
 | 7,[a,b,c,d]=>fxV a b=true/\fxV c d=true
 | 8,[_,_]=>True
 | 20,[]=>True
 | _,_=>False
def cxB (args:List Int):Cx:=⟨Gr,preB,args⟩
theorem TU {f:Nat} {xs:List Int} (h:f=0∨f=1∨f=2∨f=7) (hp:preB f xs):∃ a b c d,xs=[a,b,c,d]/\fxV a b=true/\fxV c d=true:=by
 rcases h with rfl|rfl|rfl|rfl <;>
 . match xs,hp with
   | [a,b,c,d],hp=>exact ⟨a,b,c,d,rfl,hp⟩
theorem Ug {f:Nat} {xs:List Int} (h:f=3∨f=4∨f=5∨f=6∨f=8) (hp:preB f xs):∃ a b,xs=[a,b]:=by
 rcases h with rfl|rfl|rfl|rfl|rfl <;>
 . match xs,hp with
   | [a,b],hp=>exact ⟨a,b,rfl⟩
end Go.Proofs.Ytcfpmdndgbpfpaa
namespace Go.Proofs.Ytcfpmdndgbpfpaa
open Go.RowKit Alm Sx
theorem iY:Try.prog.follows .mixedOrders=true:=by kernel_rfl
theorem ours (f : Nat) (fn : Func) (c : Code) (h1 : Try.prog.funcs[f]? = some fn) (h2 : fn.body = some c) (h3 : (fn.name == "runtime.NumGoroutine") = false) : zx Try.prog f := ⟨fn, c, h1, h2, h3⟩
def S9:Sx.Spec:=⟨39,6,[(true,[some .i64,some .i64])],[(true,[some .i64,some .i64]),(false,[some .i64])]⟩
def Mt:Sx.Spec:=⟨24,7,[(true,[some .i64,some .i64]),(true,[some .i64,some .i64])],[(true,[some .i64,some .i64]),(false,[some .i64])]⟩
theorem Ld (args:List Int):bE Try.prog (cxB args) S9:=by
 refine ⟨ours _ _ _ Try.func39 rfl (by kernel_rfl),fun xs hp w=>?_⟩
 obtain ⟨a,b,rfl⟩:=Ug (f:=6) (by simp) hp
 exact RZ a b w hp
theorem IW (args:List Int):bE Try.prog (cxB args) Mt:=by
 refine ⟨ours _ _ _ Try.func24 rfl (by kernel_rfl),fun xs hp w=>?_⟩
 obtain ⟨a,b,c,d,rfl,h1,h2⟩:=TU (f:=7) (by simp) hp
 exact Fs a b c d w h1 h2
end Go.Proofs.Ytcfpmdndgbpfpaa
namespace Go.Proofs.Ytcfpmdndgbpfpaa
open Go.RowKit Alm Sx
