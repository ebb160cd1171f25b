/- The known functions of the symbolic runs: what they return, what they ask. -/
import Derived.Test.YtgmncdmcdgkodaaGreatZSxL
import Derived.Test.YtgmncdmcdgkodaaGreatZVecs
import Derived.Test.YtgmncdmcdgkodaaGreatZArcHi
set_option linter.unusedVariables false
set_option linter.unusedSimpArgs false
namespace Go.Proofs.YtgmncdmcdgkodaaGreat
open Go.RowKit Alm Sx
def vG (L H:Int):List Int:=[Db L H,DD L H,Ce L H]
def lF:Nat->List Int->List Int
 | 0,[a,b,c,d]=>vG (IQ a b c d) (IJ a b c d)
 | 1,[a,b,c,d]=>vG (a+c) (b+d)
 | 2,[a,b,c,d]=>vG (a-d) (b-c)
 | 3,[a,b]=>vG (sqL a b) (sqH a b)
 | 4,[a,b]=>vG (rtL a b) (rtH a b)
 | 5,[a,b]=>[fK a b,fM a b,0]
 | 6,[a,b]=>[fK (a+5400000) (b+5400000),fM (a+5400000) (b+5400000),0]
 | 7,[a,b,c,d]=>[ET a b c d,Hm a b c d,0]
 | 8,[a,b]=>[b2i (fxV a b)]
 | 20,[]=>[1]
 | _,_=>[]
def preB:Nat->List Int->Prop
 | 0,[a,b,c,d]=>fxV a b=true/\fxV c d=true
 | 1,[a,b,c,d]=>fxV a b=true/\fxV c d=true
 | 2,[a,b,c,d]=>fxV a b=true/\fxV c d=true
 | 3,[a,b]=>fxV a b=true
 | 4,[a,b]=>fxV a b=true/\0<=b
 | 5,[a,b]=>aC a b=true
 | 6,[a,b]=>aC a b=true
 | 7,[a,b,c,d]=>fxV a b=true/\fxV c d=true
 | 8,[_,_]=>True
 | 20,[]=>True
 | _,_=>False
def cxB (args:List Int):Cx:=⟨lF,preB,args⟩
theorem Hl {f:Nat} {xs:List Int} (h:f=3∨f=4∨f=5∨f=6∨f=8) (hp:preB f xs):∃ a b,xs=[a,b]:=by
 rcases h with rfl|rfl|rfl|rfl|rfl <;>
 . match xs,hp with
   | [a,b],hp=>exact ⟨a,b,rfl⟩
theorem G6 (L H:Int):(Ce L H=0∨Ce L H=5)/\(Ce L H≠0->Db L H=0/\DD L H=0)/\fxV (Db L H) (DD L H)=true:=by
 unfold Ce Db DD;split
 . rename_i h;exact ⟨Or.inl rfl,fun h=>absurd rfl h,(kE _ _).2 h⟩
 . exact ⟨Or.inr rfl,fun _=>⟨rfl,rfl⟩,by decide⟩
end Go.Proofs.YtgmncdmcdgkodaaGreat
namespace Go.Proofs.YtgmncdmcdgkodaaGreat
open Go.RowKit Alm Sx
theorem gp:Tryz.prog.follows .mixedOrders=true:=by kernel_rfl
theorem ours (f : Nat) (fn : Func) (c : Code) (h1 : Tryz.prog.funcs[f]? = some fn) (h2 : fn.body = some c) (h3 : (fn.name == "runtime.NumGoroutine") = false) : uk Tryz.prog f := ⟨fn, c, h1, h2, h3⟩
def Ir:Sx.Spec:=⟨60,5,[(true,[some .i64,some .i64])],[(true,[some .i64,some .i64]),(false,[some .i64])]⟩
def IA:Sx.Spec:=⟨54,6,[(true,[some .i64,some .i64])],[(true,[some .i64,some .i64]),(false,[some .i64])]⟩
def Gu:Sx.Spec:=⟨86,8,[(true,[some .i64,some .i64])],[(false,[none])]⟩
theorem En (args:List Int):bD Tryz.prog (cxB args) Ir:=by
 refine ⟨ours _ _ _ Tryz.func60 rfl (by kernel_rfl),fun xs hp w=>?_⟩
 obtain ⟨a,b,rfl⟩:=Hl (f:=5) (by simp) hp
 exact EK a b w hp
theorem Ec (args:List Int):bD Tryz.prog (cxB args) IA:=by
 refine ⟨ours _ _ _ Tryz.func54 rfl (by kernel_rfl),fun xs hp w=>?_⟩
 obtain ⟨a,b,rfl⟩:=Hl (f:=6) (by simp) hp
 exact BM a b w hp
theorem Bn (b:Bool):Value.bool (decide (b2i b≠0))=.bool b:=by rw [fP]
end Go.Proofs.YtgmncdmcdgkodaaGreat
namespace Go.Proofs.YtgmncdmcdgkodaaGreat
open Go.RowKit Alm Sx
