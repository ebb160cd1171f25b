/- The known functions of the symbolic runs: what they return, what they ask. -/
import Derived.Test.YtcfpmdndgbpfpaaZSxL
import Derived.Test.YtcfpmdndgbpfpaaZVecs
import Derived.Test.YtcfpmdndgbpfpaaZArcHi
set_option linter.unusedVariables false
set_option linter.unusedSimpArgs false
namespace Go.Proofs.Ytcfpmdndgbpfpaa
open Go.RowKit Alm Sx
def Af (L H:Int):List Int:=[I9 L H,Jg L H,Jd L H]
def BX:Nat->List Int->List Int
 | 0,[a,b,c,d]=>Af (Jv a b c d) (Jk a b c d)
 | 1,[a,b,c,d]=>Af (a+c) (b+d)
 | 2,[a,b,c,d]=>Af (a-d) (b-c)
 | 3,[a,b]=>Af (sqL a b) (sqH a b)
 | 4,[a,b]=>Af (rtL a b) (rtH a b)
 | 5,[a,b]=>[zh a b,zZ a b,0]
 | 6,[a,b]=>[zh (a+5400000) (b+5400000),zZ (a+5400000) (b+5400000),0]
 | 7,[a,b,c,d]=>[fo a b c d,gT a b c d,0]
 | 8,[a,b]=>[b2i (fxV a b)]
 | 20,[]=>[1]
 | _,_=>[]
def preB:Nat->List Int->Prop
 | 0,[a,b,c,d]=>fxV a b=true/\fxV c d=true
 | 1,[a,b,c,d]=>fxV a b=true/\fxV c d=true
 | 2,[a,b,c,d]=>fxV a b=true/\fxV c d=true
 | 3,[a,b]=>fxV a b=true
 | 4,[a,b]=>fxV a b=true/\0<=b
 | 5,[a,b]=>rz a b=true
 | 6,[a,b]=>rz a b=true
 | 7,[a,b,c,d]=>fxV a b=true/\fxV c d=true
 | 8,[_,_]=>True
 | 20,[]=>True
 | _,_=>False
def cxB (args:List Int):Cx:=⟨BX,preB,args⟩
theorem I8 {f:Nat} {xs:List Int} (h:f=0∨f=1∨f=2∨f=7) (hp:preB f xs):∃ a b c d,xs=[a,b,c,d]/\fxV a b=true/\fxV c d=true:=by
 rcases h with rfl|rfl|rfl|rfl <;>
 . match xs,hp with
   | [a,b,c,d],hp=>exact ⟨a,b,c,d,rfl,hp⟩
theorem Jc {f:Nat} {xs:List Int} (h:f=3∨f=4∨f=5∨f=6∨f=8) (hp:preB f xs):∃ a b,xs=[a,b]:=by
 rcases h with rfl|rfl|rfl|rfl|rfl <;>
 . match xs,hp with
   | [a,b],hp=>exact ⟨a,b,rfl⟩
end Go.Proofs.Ytcfpmdndgbpfpaa
namespace Go.Proofs.Ytcfpmdndgbpfpaa
open Go.RowKit Alm Sx
theorem iH:Try.prog.follows .mixedOrders=true:=by kernel_rfl
theorem ours (f : Nat) (fn : Func) (c : Code) (h1 : Try.prog.funcs[f]? = some fn) (h2 : fn.body = some c) (h3 : (fn.name == "runtime.NumGoroutine") = false) : um Try.prog f := ⟨fn, c, h1, h2, h3⟩
def H7:Sx.Spec:=⟨39,6,[(true,[some .i64,some .i64])],[(true,[some .i64,some .i64]),(false,[some .i64])]⟩
def FH:Sx.Spec:=⟨24,7,[(true,[some .i64,some .i64]),(true,[some .i64,some .i64])],[(true,[some .i64,some .i64]),(false,[some .i64])]⟩
theorem E8 (args:List Int):bC Try.prog (cxB args) H7:=by
 refine ⟨ours _ _ _ Try.func39 rfl (by kernel_rfl),fun xs hp w=>?_⟩
 obtain ⟨a,b,rfl⟩:=Jc (f:=6) (by simp) hp
 exact IM a b w hp
theorem Bl (args:List Int):bC Try.prog (cxB args) FH:=by
 refine ⟨ours _ _ _ Try.func24 rfl (by kernel_rfl),fun xs hp w=>?_⟩
 obtain ⟨a,b,c,d,rfl,h1,h2⟩:=I8 (f:=7) (by simp) hp
 exact zL a b c d w h1 h2
end Go.Proofs.Ytcfpmdndgbpfpaa
namespace Go.Proofs.Ytcfpmdndgbpfpaa
open Go.RowKit Alm Sx
