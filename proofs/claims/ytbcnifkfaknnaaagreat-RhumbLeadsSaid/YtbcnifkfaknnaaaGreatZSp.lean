/- The known functions of the symbolic runs: what they return, what they ask. -/
import Derived.Test.YtbcnifkfaknnaaaGreatZSxL
import Derived.Test.YtbcnifkfaknnaaaGreatZVecs
import Derived.Test.YtbcnifkfaknnaaaGreatZArcHi
set_option linter.unusedVariables false
set_option linter.unusedSimpArgs false
namespace Go.Proofs.YtbcnifkfaknnaaaGreat
open Go.RowKit Alm Sx
def JK (L H:Int):List Int:=[Zk L H,Zx L H,ZZ L H]
def LV:Nat->List Int->List Int
 | 0,[a,b,c,d]=>JK (Zp a b c d) (ZI a b c d)
 | 1,[a,b,c,d]=>JK (a+c) (b+d)
 | 2,[a,b,c,d]=>JK (a-d) (b-c)
 | 3,[a,b]=>JK (sqL a b) (sqH a b)
 | 4,[a,b]=>JK (rtL a b) (rtH a b)
 | 5,[a,b]=>[dF a b,dH a b,0]
 | 6,[a,b]=>[dF (a+5400000) (b+5400000),dH (a+5400000) (b+5400000),0]
 | 7,[a,b,c,d]=>[aT a b c d,bi a b c d,0]
 | 8,[a,b]=>[b2i (fxV a b)]
 | 20,[]=>[1]
 | _,_=>[]
def preB:Nat->List Int->Prop
 | 0,[a,b,c,d]=>fxV a b=true/\fxV c d=true
 | 1,[a,b,c,d]=>fxV a b=true/\fxV c d=true
 | 2,[a,b,c,d]=>fxV a b=true/\fxV c d=true
 | 3,[a,b]=>fxV a b=true
 | 4,[a,b]=>fxV a b=true/\0<=b
 | 5,[a,b]=>kL a b=true
 | 6,[a,b]=>kL a b=true
 | 7,[a,b,c,d]=>fxV a b=true/\fxV c d=true
 | 8,[_,_]=>True
 | 20,[]=>True
 | _,_=>False
def cxB (args:List Int):Cx:=⟨LV,preB,args⟩
theorem ZP {f:Nat} {xs:List Int} (h:f=0∨f=1∨f=2∨f=7) (hp:preB f xs):∃ a b c d,xs=[a,b,c,d]/\fxV a b=true/\fxV c d=true:=by
 rcases h with rfl|rfl|rfl|rfl <;>
 . match xs,hp with
   | [a,b,c,d],hp=>exact ⟨a,b,c,d,rfl,hp⟩
theorem XA {f:Nat} {xs:List Int} (h:f=3∨f=4∨f=5∨f=6∨f=8) (hp:preB f xs):∃ a b,xs=[a,b]:=by
 rcases h with rfl|rfl|rfl|rfl|rfl <;>
 . match xs,hp with
   | [a,b],hp=>exact ⟨a,b,rfl⟩
end Go.Proofs.YtbcnifkfaknnaaaGreat
namespace Go.Proofs.YtbcnifkfaknnaaaGreat
open Go.RowKit Alm Sx
theorem jc:Tryz.prog.follows .mixedOrders=true:=by kernel_rfl
theorem ours (f : Nat) (fn : Func) (c : Code) (h1 : Tryz.prog.funcs[f]? = some fn) (h2 : fn.body = some c) (h3 : (fn.name == "runtime.NumGoroutine") = false) : Bf Tryz.prog f := ⟨fn, c, h1, h2, h3⟩
def YV:Sx.Spec:=⟨24,5,[(true,[some .i64,some .i64])],[(true,[some .i64,some .i64]),(false,[some .i64])]⟩
def UE:Sx.Spec:=⟨25,6,[(true,[some .i64,some .i64])],[(true,[some .i64,some .i64]),(false,[some .i64])]⟩
def Rc:Sx.Spec:=⟨19,7,[(true,[some .i64,some .i64]),(true,[some .i64,some .i64])],[(true,[some .i64,some .i64]),(false,[some .i64])]⟩
def SH:Sx.Spec:=⟨37,8,[(true,[some .i64,some .i64])],[(false,[none])]⟩
theorem Q4 (args:List Int):bR Tryz.prog (cxB args) YV:=by
 refine ⟨ours _ _ _ Tryz.func24 rfl (by kernel_rfl),fun xs hp w=>?_⟩
 obtain ⟨a,b,rfl⟩:=XA (f:=5) (by simp) hp
 exact W9 a b w hp
theorem Gt (args:List Int):bR Tryz.prog (cxB args) UE:=by
 refine ⟨ours _ _ _ Tryz.func25 rfl (by kernel_rfl),fun xs hp w=>?_⟩
 obtain ⟨a,b,rfl⟩:=XA (f:=6) (by simp) hp
 exact Ym a b w hp
theorem Na (args:List Int):bR Tryz.prog (cxB args) Rc:=by
 refine ⟨ours _ _ _ Tryz.func19 rfl (by kernel_rfl),fun xs hp w=>?_⟩
 obtain ⟨a,b,c,d,rfl,h1,h2⟩:=ZP (f:=7) (by simp) hp
 exact I5 a b c d w h1 h2
theorem KV (b:Bool):Value.bool (decide (b2i b≠0))=.bool b:=by rw [iZ]
end Go.Proofs.YtbcnifkfaknnaaaGreat
namespace Go.Proofs.YtbcnifkfaknnaaaGreat
open Go.RowKit Alm Sx
