/- The known functions of the symbolic runs: what they return, what they ask. -/
import Derived.Test.YtoniodlcogpdbaaGreatZSxL
import Derived.Test.YtoniodlcogpdbaaGreatZVecs
import Derived.Test.YtoniodlcogpdbaaGreatZArc8
set_option linter.unusedVariables false
set_option linter.unusedSimpArgs false
namespace Go.Proofs.YtoniodlcogpdbaaGreat
open Go.RowKit Alm Sx
def DW (L H:Int):List Int:=[pO L H,pu L H,om L H]
def fZ:Nat->List Int->List Int
 | 0,[a,b,c,d]=>DW (jM a b c d) (jR a b c d)
 | 1,[a,b,c,d]=>DW (a+c) (b+d)
 | 2,[a,b,c,d]=>DW (a-d) (b-c)
 | 3,[a,b]=>DW (sqL a b) (sqH a b)
 | 4,[a,b]=>DW (rtL a b) (rtH a b)
 | 5,[a,b]=>[bC a b,bI a b,0]
 | 6,[a,b]=>[bC (a+5400000) (b+5400000),bI (a+5400000) (b+5400000),0]
 | 7,[a,b,c,d]=>[dJ a b c d,eZ a b c d,0]
 | 8,[a,b]=>[b2i (fxV a b)]
 | 20,[]=>[1]
 | _,_=>[]
def preB:Nat->List Int->Prop
 | 0,[a,b,c,d]=>fxV a b=true/\fxV c d=true
 | 1,[a,b,c,d]=>fxV a b=true/\fxV c d=true
 | 2,[a,b,c,d]=>fxV a b=true/\fxV c d=true
 | 3,[a,b]=>fxV a b=true
 | 4,[a,b]=>fxV a b=true/\0<=b
 | 5,[a,b]=>aQ a b=true
 | 6,[a,b]=>aQ a b=true
 | 7,[a,b,c,d]=>fxV a b=true/\fxV c d=true
 | 8,[_,_]=>True
 | 20,[]=>True
 | _,_=>False
def cxB (args:List Int):Cx:=⟨fZ,preB,args⟩
theorem DF {f:Nat} {xs:List Int} (h:f=0∨f=1∨f=2∨f=7) (hp:preB f xs):∃ a b c d,xs=[a,b,c,d]/\fxV a b=true/\fxV c d=true:=by
 rcases h with rfl|rfl|rfl|rfl <;>
 . match xs,hp with
   | [a,b,c,d],hp=>exact ⟨a,b,c,d,rfl,hp⟩
theorem Rj {f:Nat} {xs:List Int} (h:f=3∨f=4∨f=5∨f=6∨f=8) (hp:preB f xs):∃ a b,xs=[a,b]:=by
 rcases h with rfl|rfl|rfl|rfl|rfl <;>
 . match xs,hp with
   | [a,b],hp=>exact ⟨a,b,rfl⟩
theorem ic (L H:Int):(om L H=0∨om L H=5)/\(om L H≠0->pO L H=0/\pu L H=0)/\fxV (pO L H) (pu L H)=true:=by
 unfold om pO pu;split
 . rename_i h;exact ⟨Or.inl rfl,fun h=>absurd rfl h,(bS _ _).2 h⟩
 . exact ⟨Or.inr rfl,fun _=>⟨rfl,rfl⟩,by decide⟩
end Go.Proofs.YtoniodlcogpdbaaGreat
namespace Go.Proofs.YtoniodlcogpdbaaGreat
open Go.RowKit Alm Sx
theorem dP:Tryz.prog.follows .mixedOrders=true:=by kernel_rfl
theorem ours (f : Nat) (fn : Func) (c : Code) (h1 : Tryz.prog.funcs[f]? = some fn) (h2 : fn.body = some c) (h3 : (fn.name == "runtime.NumGoroutine") = false) : Dy Tryz.prog f := ⟨fn, c, h1, h2, h3⟩
def XZ:Sx.Spec:=⟨61,0,[(true,[some .i64,some .i64]),(true,[some .i64,some .i64])],[(true,[some .i64,some .i64]),(false,[some .i64])]⟩
def acw:Sx.Spec:=⟨141,1,[(true,[some .i64,some .i64]),(true,[some .i64,some .i64])],[(true,[some .i64,some .i64]),(false,[some .i64])]⟩
def X5:Sx.Spec:=⟨63,2,[(true,[some .i64,some .i64]),(true,[some .i64,some .i64])],[(true,[some .i64,some .i64]),(false,[some .i64])]⟩
def YY:Sx.Spec:=⟨46,5,[(true,[some .i64,some .i64])],[(true,[some .i64,some .i64]),(false,[some .i64])]⟩
def ZU:Sx.Spec:=⟨47,6,[(true,[some .i64,some .i64])],[(true,[some .i64,some .i64]),(false,[some .i64])]⟩
def WA:Sx.Spec:=⟨117,7,[(true,[some .i64,some .i64]),(true,[some .i64,some .i64])],[(true,[some .i64,some .i64]),(false,[some .i64])]⟩
def BC:Sx.Spec:=⟨101,8,[(true,[some .i64,some .i64])],[(false,[none])]⟩
theorem Kt (args:List Int):aR Tryz.prog (cxB args) XZ:=by
 refine ⟨ours _ _ _ Tryz.func61 rfl (by kernel_rfl),fun xs hp w=>?_⟩
 obtain ⟨a,b,c,d,rfl,h1,h2⟩:=DF (f:=0) (by simp) hp
 exact Xf a b c d w h1 h2
theorem Sq (args:List Int):aR Tryz.prog (cxB args) acw:=by
 refine ⟨ours _ _ _ Tryz.func141 rfl (by kernel_rfl),fun xs hp w=>?_⟩
 obtain ⟨a,b,c,d,rfl,h1,h2⟩:=DF (f:=1) (by simp) hp
 exact aac a b c d w h1 h2
theorem JI (args:List Int):aR Tryz.prog (cxB args) X5:=by
 refine ⟨ours _ _ _ Tryz.func63 rfl (by kernel_rfl),fun xs hp w=>?_⟩
 obtain ⟨a,b,c,d,rfl,h1,h2⟩:=DF (f:=2) (by simp) hp
 exact XA a b c d w h1 h2
theorem IJ (args:List Int):aR Tryz.prog (cxB args) YY:=by
 refine ⟨ours _ _ _ Tryz.func46 rfl (by kernel_rfl),fun xs hp w=>?_⟩
 obtain ⟨a,b,rfl⟩:=Rj (f:=5) (by simp) hp
 exact abJ a b w hp
theorem J6 (args:List Int):aR Tryz.prog (cxB args) ZU:=by
 refine ⟨ours _ _ _ Tryz.func47 rfl (by kernel_rfl),fun xs hp w=>?_⟩
 obtain ⟨a,b,rfl⟩:=Rj (f:=6) (by simp) hp
 exact acS a b w hp
theorem Qr (args:List Int):aR Tryz.prog (cxB args) WA:=by
 refine ⟨ours _ _ _ Tryz.func117 rfl (by kernel_rfl),fun xs hp w=>?_⟩
 obtain ⟨a,b,c,d,rfl,h1,h2⟩:=DF (f:=7) (by simp) hp
 exact Mj a b c d w h1 h2
theorem ni (b:Bool):Value.bool (decide (b2i b≠0))=.bool b:=by rw [gH]
theorem zX (args:List Int):aR Tryz.prog (cxB args) BC:=by
 refine ⟨ours _ _ _ Tryz.func101 rfl (by kernel_rfl),fun xs hp w=>?_⟩
 obtain ⟨a,b,rfl⟩:=Rj (f:=8) (by simp) hp
 refine (fI a b w).mono ?_;rintro e w' ⟨he,hb⟩;exact ⟨by rw [he];exact congrArg Ending.returned (ni _).symm,hb⟩
end Go.Proofs.YtoniodlcogpdbaaGreat
namespace Go.Proofs.YtoniodlcogpdbaaGreat
open Go.RowKit Alm Sx
def XX:Sx.Spec:=⟨50,0,[(true,[some .i64,some .i64]),(true,[some .i64,some .i64])],[(true,[some .i64,some .i64]),(false,[some .i64])]⟩
def aa6:Sx.Spec:=⟨109,1,[(true,[some .i64,some .i64]),(true,[some .i64,some .i64])],[(true,[some .i64,some .i64]),(false,[some .i64])]⟩
def Y6:Sx.Spec:=⟨86,2,[(true,[some .i64,some .i64]),(true,[some .i64,some .i64])],[(true,[some .i64,some .i64]),(false,[some .i64])]⟩
def QC:Sx.Spec:=BC
def BJ:List Sx.Spec:=[XX,aa6,Y6,QC]
theorem JZ (args:List Int):aR Tryz.prog (cxB args) XX:=by
 refine ⟨ours _ _ _ Tryz.func50 rfl (by kernel_rfl),fun xs hp w=>?_⟩
 obtain ⟨a,b,c,d,rfl,h1,h2⟩:=DF (f:=0) (by simp) hp
 exact Vt a b c d w h1 h2
theorem Sb (args:List Int):aR Tryz.prog (cxB args) aa6:=by
 refine ⟨ours _ _ _ Tryz.func109 rfl (by kernel_rfl),fun xs hp w=>?_⟩
 obtain ⟨a,b,c,d,rfl,h1,h2⟩:=DF (f:=1) (by simp) hp
 exact UR a b c d w h1 h2
theorem I1 (args:List Int):aR Tryz.prog (cxB args) Y6:=by
 refine ⟨ours _ _ _ Tryz.func86 rfl (by kernel_rfl),fun xs hp w=>?_⟩
 obtain ⟨a,b,c,d,rfl,h1,h2⟩:=DF (f:=2) (by simp) hp
 exact R8 a b c d w h1 h2
theorem Mm (args:List Int):aR Tryz.prog (cxB args) QC:=zX args
theorem Mv (args:List Int):∀ s∈BJ,aR Tryz.prog (cxB args) s:=by
 intro s hs;simp only [BJ,List.mem_cons,List.not_mem_nil,or_false] at hs;rcases hs with rfl|rfl|rfl|rfl
 . exact JZ args
 . exact Sb args
 . exact I1 args
 . exact Mm args
