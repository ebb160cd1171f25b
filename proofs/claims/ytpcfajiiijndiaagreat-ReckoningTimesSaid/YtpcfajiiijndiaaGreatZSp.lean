/- The known functions of the symbolic runs: what they return, what they ask. -/
import Derived.Test.YtpcfajiiijndiaaGreatZSxL
import Derived.Test.YtpcfajiiijndiaaGreatZVecs
import Derived.Test.YtpcfajiiijndiaaGreatZArcHi
set_option linter.unusedVariables false
set_option linter.unusedSimpArgs false
namespace Go.Proofs.YtpcfajiiijndiaaGreat
open Go.RowKit Alm Sx
def sZ (L H:Int):List Int:=[Cr L H,Cg L H,zB L H]
def kC:Nat->List Int->List Int
 | 0,[a,b,c,d]=>sZ (GX a b c d) (GQ a b c d)
 | 1,[a,b,c,d]=>sZ (a+c) (b+d)
 | 2,[a,b,c,d]=>sZ (a-d) (b-c)
 | 3,[a,b]=>sZ (sqL a b) (sqH a b)
 | 4,[a,b]=>sZ (rtL a b) (rtH a b)
 | 5,[a,b]=>[fC a b,fA a b,0]
 | 6,[a,b]=>[fC (a+5400000) (b+5400000),fA (a+5400000) (b+5400000),0]
 | 7,[a,b,c,d]=>[DN a b c d,Gr a b c d,0]
 | 8,[a,b]=>[b2i (fxV a b)]
 | 20,[]=>[1]
 | _,_=>[]
def preB:Nat->List Int->Prop
 | 0,[a,b,c,d]=>fxV a b=true/\fxV c d=true
 | 1,[a,b,c,d]=>fxV a b=true/\fxV c d=true
 | 2,[a,b,c,d]=>fxV a b=true/\fxV c d=true
 | 3,[a,b]=>fxV a b=true
 | 4,[a,b]=>fxV a b=true/\0<=b
 | 5,[a,b]=>aL a b=true
 | 6,[a,b]=>aL a b=true
 | 7,[a,b,c,d]=>fxV a b=true/\fxV c d=true
 | 8,[_,_]=>True
 | 20,[]=>True
 | _,_=>False
def cxB (args:List Int):Cx:=⟨kC,preB,args⟩
theorem F8 {f:Nat} {xs:List Int} (h:f=3∨f=4∨f=5∨f=6∨f=8) (hp:preB f xs):∃ a b,xs=[a,b]:=by
 rcases h with rfl|rfl|rfl|rfl|rfl <;>
 . match xs,hp with
   | [a,b],hp=>exact ⟨a,b,rfl⟩
theorem Gn (L H:Int):(zB L H=0∨zB L H=5)/\(zB L H≠0->Cr L H=0/\Cg L H=0)/\fxV (Cr L H) (Cg L H)=true:=by
 unfold zB Cr Cg;split
 . rename_i h;exact ⟨Or.inl rfl,fun h=>absurd rfl h,(jq _ _).2 h⟩
 . exact ⟨Or.inr rfl,fun _=>⟨rfl,rfl⟩,by decide⟩
end Go.Proofs.YtpcfajiiijndiaaGreat
namespace Go.Proofs.YtpcfajiiijndiaaGreat
open Go.RowKit Alm Sx
theorem fB:Tryz.prog.follows .mixedOrders=true:=by kernel_rfl
theorem ours (f : Nat) (fn : Func) (c : Code) (h1 : Tryz.prog.funcs[f]? = some fn) (h2 : fn.body = some c) (h3 : (fn.name == "runtime.NumGoroutine") = false) : um Tryz.prog f := ⟨fn, c, h1, h2, h3⟩
def FP:Sx.Spec:=⟨60,5,[(true,[some .i64,some .i64])],[(true,[some .i64,some .i64]),(false,[some .i64])]⟩
def Gs:Sx.Spec:=⟨54,6,[(true,[some .i64,some .i64])],[(true,[some .i64,some .i64]),(false,[some .i64])]⟩
def FE:Sx.Spec:=⟨86,8,[(true,[some .i64,some .i64])],[(false,[none])]⟩
theorem BI (args:List Int):bg Tryz.prog (cxB args) FP:=by
 refine ⟨ours _ _ _ Tryz.func60 rfl (by kernel_rfl),fun xs hp w=>?_⟩
 obtain ⟨a,b,rfl⟩:=F8 (f:=5) (by simp) hp
 exact DZ a b w hp
theorem BF (args:List Int):bg Tryz.prog (cxB args) Gs:=by
 refine ⟨ours _ _ _ Tryz.func54 rfl (by kernel_rfl),fun xs hp w=>?_⟩
 obtain ⟨a,b,rfl⟩:=F8 (f:=6) (by simp) hp
 exact zM a b w hp
theorem zl (b:Bool):Value.bool (decide (b2i b≠0))=.bool b:=by rw [fq]
end Go.Proofs.YtpcfajiiijndiaaGreat
namespace Go.Proofs.YtpcfajiiijndiaaGreat
open Go.RowKit Alm Sx
