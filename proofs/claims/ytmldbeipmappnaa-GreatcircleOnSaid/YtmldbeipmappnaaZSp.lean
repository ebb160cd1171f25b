/- The known functions of the symbolic runs: what they return, what they ask. -/
import Derived.Test.YtmldbeipmappnaaZSxL
import Derived.Test.YtmldbeipmappnaaZVecs
import Derived.Test.YtmldbeipmappnaaZArcHi
set_option linter.unusedVariables false
set_option linter.unusedSimpArgs false
namespace Go.Proofs.Ytmldbeipmappnaa
open Go.RowKit Alm Sx
def BU (L H:Int):List Int:=[nX L H,ou L H,lY L H]
def aB:Nat->List Int->List Int
 | 0,[a,b,c,d]=>BU (fI a b c d) (gH a b c d)
 | 1,[a,b,c,d]=>BU (a+c) (b+d)
 | 2,[a,b,c,d]=>BU (a-d) (b-c)
 | 3,[a,b]=>BU (sqL a b) (sqH a b)
 | 4,[a,b]=>BU (rtL a b) (rtH a b)
 | 5,[a,b]=>[dJ a b,dN a b,0]
 | 6,[a,b]=>[dJ (a+5400000) (b+5400000),dN (a+5400000) (b+5400000),0]
 | 7,[a,b,c,d]=>[bz a b c d,bJ a b c d,0]
 | 8,[a,b]=>[b2i (fxV a b)]
 | 20,[]=>[1]
 | _,_=>[]
def preB:Nat->List Int->Prop
 | 0,[a,b,c,d]=>fxV a b=true/\fxV c d=true
 | 1,[a,b,c,d]=>fxV a b=true/\fxV c d=true
 | 2,[a,b,c,d]=>fxV a b=true/\fxV c d=true
 | 3,[a,b]=>fxV a b=true
 | 4,[a,b]=>fxV a b=true/\0<=b
 | 5,[a,b]=>dA a b=true
 | 6,[a,b]=>dA a b=true
 | 7,[a,b,c,d]=>fxV a b=true/\fxV c d=true
 | 8,[_,_]=>True
 | 20,[]=>True
 | _,_=>False
def cxB (args:List Int):Cx:=⟨aB,preB,args⟩
theorem LC {f:Nat} {xs:List Int} (h:f=0∨f=1∨f=2∨f=7) (hp:preB f xs):∃ a b c d,xs=[a,b,c,d]/\fxV a b=true/\fxV c d=true:=by
 rcases h with rfl|rfl|rfl|rfl <;>
 . match xs,hp with
   | [a,b,c,d],hp=>exact ⟨a,b,c,d,rfl,hp⟩
theorem Kb {f:Nat} {xs:List Int} (h:f=3∨f=4∨f=5∨f=6∨f=8) (hp:preB f xs):∃ a b,xs=[a,b]:=by
 rcases h with rfl|rfl|rfl|rfl|rfl <;>
 . match xs,hp with
   | [a,b],hp=>exact ⟨a,b,rfl⟩
theorem Vv (L H:Int):(lY L H=0∨lY L H=5)/\(lY L H≠0->nX L H=0/\ou L H=0)/\fxV (nX L H) (ou L H)=true:=by
 unfold lY nX ou;split
 . rename_i h;exact ⟨Or.inl rfl,fun h=>absurd rfl h,(ek _ _).2 h⟩
 . exact ⟨Or.inr rfl,fun _=>⟨rfl,rfl⟩,by decide⟩
end Go.Proofs.Ytmldbeipmappnaa
namespace Go.Proofs.Ytmldbeipmappnaa
open Go.RowKit Alm Sx
theorem fE:Try.prog.follows .mixedOrders=true:=by kernel_rfl
theorem ours (f : Nat) (fn : Func) (c : Code) (h1 : Try.prog.funcs[f]? = some fn) (h2 : fn.body = some c) (h3 : (fn.name == "runtime.NumGoroutine") = false) : zS Try.prog f := ⟨fn, c, h1, h2, h3⟩
def RP:Sx.Spec:=⟨126,0,[(true,[some .i64,some .i64]),(true,[some .i64,some .i64])],[(true,[some .i64,some .i64]),(false,[some .i64])]⟩
def OZ:Sx.Spec:=⟨107,1,[(true,[some .i64,some .i64]),(true,[some .i64,some .i64])],[(true,[some .i64,some .i64]),(false,[some .i64])]⟩
def Rk:Sx.Spec:=⟨141,2,[(true,[some .i64,some .i64]),(true,[some .i64,some .i64])],[(true,[some .i64,some .i64]),(false,[some .i64])]⟩
def DT:Sx.Spec:=⟨106,3,[(true,[some .i64,some .i64])],[(true,[some .i64,some .i64]),(false,[some .i64])]⟩
def OC:Sx.Spec:=⟨108,4,[(true,[some .i64,some .i64])],[(true,[some .i64,some .i64]),(false,[some .i64])]⟩
def RL:Sx.Spec:=⟨103,5,[(true,[some .i64,some .i64])],[(true,[some .i64,some .i64]),(false,[some .i64])]⟩
def Rq:Sx.Spec:=⟨102,6,[(true,[some .i64,some .i64])],[(true,[some .i64,some .i64]),(false,[some .i64])]⟩
def Jz:Sx.Spec:=⟨75,7,[(true,[some .i64,some .i64]),(true,[some .i64,some .i64])],[(true,[some .i64,some .i64]),(false,[some .i64])]⟩
def oL:Sx.Spec:=⟨128,8,[(true,[some .i64,some .i64])],[(false,[none])]⟩
def og:List Sx.Spec:=[RP,OZ,Rk,DT,OC,RL,Rq,Jz,oL]
theorem Ef (args:List Int):aL Try.prog (cxB args) RP:=by
 refine ⟨ours _ _ _ Try.func126 rfl (by kernel_rfl),fun xs hp w=>?_⟩
 obtain ⟨a,b,c,d,rfl,h1,h2⟩:=LC (f:=0) (by simp) hp
 exact R7 a b c d w h1 h2
theorem Db (args:List Int):aL Try.prog (cxB args) OZ:=by
 refine ⟨ours _ _ _ Try.func107 rfl (by kernel_rfl),fun xs hp w=>?_⟩
 obtain ⟨a,b,c,d,rfl,h1,h2⟩:=LC (f:=1) (by simp) hp
 exact Rb a b c d w h1 h2
theorem Ee (args:List Int):aL Try.prog (cxB args) Rk:=by
 refine ⟨ours _ _ _ Try.func141 rfl (by kernel_rfl),fun xs hp w=>?_⟩
 obtain ⟨a,b,c,d,rfl,h1,h2⟩:=LC (f:=2) (by simp) hp
 exact P8 a b c d w h1 h2
theorem AL (args:List Int):aL Try.prog (cxB args) DT:=by
 refine ⟨ours _ _ _ Try.func106 rfl (by kernel_rfl),fun xs hp w=>?_⟩
 obtain ⟨a,b,rfl⟩:=Kb (f:=3) (by simp) hp
 exact FD a b w hp
theorem Kv (args:List Int):aL Try.prog (cxB args) OC:=by
 refine ⟨ours _ _ _ Try.func108 rfl (by kernel_rfl),fun xs hp w=>?_⟩
 obtain ⟨a,b,rfl⟩:=Kb (f:=4) (by simp) hp
 exact Lg a b w hp.1 hp.2
theorem Dx (args:List Int):aL Try.prog (cxB args) RL:=by
 refine ⟨ours _ _ _ Try.func103 rfl (by kernel_rfl),fun xs hp w=>?_⟩
 obtain ⟨a,b,rfl⟩:=Kb (f:=5) (by simp) hp
 exact Vb a b w hp
theorem Dm (args:List Int):aL Try.prog (cxB args) Rq:=by
 refine ⟨ours _ _ _ Try.func102 rfl (by kernel_rfl),fun xs hp w=>?_⟩
 obtain ⟨a,b,rfl⟩:=Kb (f:=6) (by simp) hp
 exact UI a b w hp
theorem Aw (args:List Int):aL Try.prog (cxB args) Jz:=by
 refine ⟨ours _ _ _ Try.func75 rfl (by kernel_rfl),fun xs hp w=>?_⟩
 obtain ⟨a,b,c,d,rfl,h1,h2⟩:=LC (f:=7) (by simp) hp
 exact FH a b c d w h1 h2
theorem uG (b:Bool):Value.bool (decide (b2i b≠0))=.bool b:=by rw [iH]
theorem kN (args:List Int):aL Try.prog (cxB args) oL:=by
 refine ⟨ours _ _ _ Try.func128 rfl (by kernel_rfl),fun xs hp w=>?_⟩
 obtain ⟨a,b,rfl⟩:=Kb (f:=8) (by simp) hp
 refine (dE a b w).mono ?_;rintro e w' ⟨he,hb⟩;exact ⟨by rw [he];exact congrArg Ending.returned (uG _).symm,hb⟩
theorem Gs (args:List Int):∀ s∈og,aL Try.prog (cxB args) s:=by
 intro s hs;simp only [og,List.mem_cons,List.not_mem_nil,or_false] at hs;rcases hs with rfl|rfl|rfl|rfl|rfl|rfl|rfl|rfl|rfl
 . exact Ef args
 . exact Db args
 . exact Ee args
 . exact AL args
 . exact Kv args
 . exact Dx args
 . exact Dm args
 . exact Aw args
 . exact kN args
end Go.Proofs.Ytmldbeipmappnaa
namespace Go.Proofs.Ytmldbeipmappnaa
open Go.RowKit Alm Sx
def TC:Sx.Spec:=RP
def Ub:Sx.Spec:=OZ
def UH:Sx.Spec:=Rk
def JP:Sx.Spec:=oL
def oV:List Sx.Spec:=[TC,Ub,UH,JP]
theorem NN (args:List Int):aL Try.prog (cxB args) TC:=Ef args
theorem Mk (args:List Int):aL Try.prog (cxB args) Ub:=Db args
theorem ML (args:List Int):aL Try.prog (cxB args) UH:=Ee args
theorem Ff (args:List Int):aL Try.prog (cxB args) JP:=kN args
theorem GQ (args:List Int):∀ s∈oV,aL Try.prog (cxB args) s:=by
 intro s hs;simp only [oV,List.mem_cons,List.not_mem_nil,or_false] at hs;rcases hs with rfl|rfl|rfl|rfl
 . exact NN args
 . exact Mk args
 . exact ML args
 . exact Ff args
theorem Gr (args:List Int):∀ s∈og++oV,aL Try.prog (cxB args) s:=by
 intro s hs;rcases List.mem_append.1 hs with h|h
 . exact Gs args s h
 . exact GQ args s h
