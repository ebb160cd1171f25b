/- The known functions of the symbolic runs: what they return, what they ask. -/
import Derived.Test.YtmldbeipmappnaaZSxL
import Derived.Test.YtmldbeipmappnaaZVecs
import Derived.Test.YtmldbeipmappnaaZArcHi
set_option linter.unusedVariables false
set_option linter.unusedSimpArgs false
namespace Go.Proofs.Ytmldbeipmappnaa
open Go.RowKit Alm Sx
def Cz (L H:Int):List Int:=[rP L H,tF L H,oZ L H]
def aC:Nat->List Int->List Int
 | 0,[a,b,c,d]=>Cz (iH a b c d) (ja a b c d)
 | 1,[a,b,c,d]=>Cz (a+c) (b+d)
 | 2,[a,b,c,d]=>Cz (a-d) (b-c)
 | 3,[a,b]=>Cz (sqL a b) (sqH a b)
 | 4,[a,b]=>Cz (rtL a b) (rtH a b)
 | 5,[a,b]=>[bU a b,bW a b,0]
 | 6,[a,b]=>[bU (a+5400000) (b+5400000),bW (a+5400000) (b+5400000),0]
 | 7,[a,b,c,d]=>[aV a b c d,bI a b c d,0]
 | 8,[a,b]=>[b2i (fxV a b)]
 | 20,[]=>[1]
 | _,_=>[]
def preB:Nat->List Int->Prop
 | 0,[a,b,c,d]=>fxV a b=true/\fxV c d=true
 | 1,[a,b,c,d]=>fxV a b=true/\fxV c d=true
 | 2,[a,b,c,d]=>fxV a b=true/\fxV c d=true
 | 3,[a,b]=>fxV a b=true
 | 4,[a,b]=>fxV a b=true/\0<=b
 | 5,[a,b]=>cu a b=true
 | 6,[a,b]=>cu a b=true
 | 7,[a,b,c,d]=>fxV a b=true/\fxV c d=true
 | 8,[_,_]=>True
 | 20,[]=>True
 | _,_=>False
def cxB (args:List Int):Cx:=⟨aC,preB,args⟩
theorem Tu {f:Nat} {xs:List Int} (h:f=0∨f=1∨f=2∨f=7) (hp:preB f xs):∃ a b c d,xs=[a,b,c,d]/\fxV a b=true/\fxV c d=true:=by
 rcases h with rfl|rfl|rfl|rfl <;>
 . match xs,hp with
   | [a,b,c,d],hp=>exact ⟨a,b,c,d,rfl,hp⟩
theorem OP {f:Nat} {xs:List Int} (h:f=3∨f=4∨f=5∨f=6∨f=8) (hp:preB f xs):∃ a b,xs=[a,b]:=by
 rcases h with rfl|rfl|rfl|rfl|rfl <;>
 . match xs,hp with
   | [a,b],hp=>exact ⟨a,b,rfl⟩
theorem abQ {xs:List Int} (hp:preB 20 xs):xs=[]:=by
 match xs,hp with
 | [],_=>rfl
theorem abD (L H:Int):(oZ L H=0∨oZ L H=5)/\(oZ L H≠0->rP L H=0/\tF L H=0)/\fxV (rP L H) (tF L H)=true:=by
 unfold oZ rP tF;split
 . rename_i h;exact ⟨Or.inl rfl,fun h=>absurd rfl h,(cZ _ _).2 h⟩
 . exact ⟨Or.inr rfl,fun _=>⟨rfl,rfl⟩,by decide⟩
end Go.Proofs.Ytmldbeipmappnaa
namespace Go.Proofs.Ytmldbeipmappnaa
open Go.RowKit Alm Sx
theorem dX:Try.prog.follows .mixedOrders=true:=by kernel_rfl
theorem ours (f : Nat) (fn : Func) (c : Code) (h1 : Try.prog.funcs[f]? = some fn) (h2 : fn.body = some c) (h3 : (fn.name == "runtime.NumGoroutine") = false) : Dx Try.prog f := ⟨fn, c, h1, h2, h3⟩
def U9:Sx.Spec:=⟨126,0,[(true,[some .i64,some .i64]),(true,[some .i64,some .i64])],[(true,[some .i64,some .i64]),(false,[some .i64])]⟩
def XB:Sx.Spec:=⟨107,1,[(true,[some .i64,some .i64]),(true,[some .i64,some .i64])],[(true,[some .i64,some .i64]),(false,[some .i64])]⟩
def XT:Sx.Spec:=⟨141,2,[(true,[some .i64,some .i64]),(true,[some .i64,some .i64])],[(true,[some .i64,some .i64]),(false,[some .i64])]⟩
def IW:Sx.Spec:=⟨106,3,[(true,[some .i64,some .i64])],[(true,[some .i64,some .i64]),(false,[some .i64])]⟩
def Ue:Sx.Spec:=⟨108,4,[(true,[some .i64,some .i64])],[(true,[some .i64,some .i64]),(false,[some .i64])]⟩
def U6:Sx.Spec:=⟨103,5,[(true,[some .i64,some .i64])],[(true,[some .i64,some .i64]),(false,[some .i64])]⟩
def aav:Sx.Spec:=⟨102,6,[(true,[some .i64,some .i64])],[(true,[some .i64,some .i64]),(false,[some .i64])]⟩
def OC:Sx.Spec:=⟨75,7,[(true,[some .i64,some .i64]),(true,[some .i64,some .i64])],[(true,[some .i64,some .i64]),(false,[some .i64])]⟩
def rJ:Sx.Spec:=⟨128,8,[(true,[some .i64,some .i64])],[(false,[none])]⟩
def kF:List Sx.Spec:=[U9,XB,XT,IW,Ue,U6,aav,OC,rJ]
theorem Gt (args:List Int):aH Try.prog (cxB args) U9:=by
 refine ⟨ours _ _ _ Try.func126 rfl (by kernel_rfl),fun xs hp w=>?_⟩
 obtain ⟨a,b,c,d,rfl,h1,h2⟩:=Tu (f:=0) (by simp) hp
 exact Ws a b c d w h1 h2
theorem Gp (args:List Int):aH Try.prog (cxB args) XB:=by
 refine ⟨ours _ _ _ Try.func107 rfl (by kernel_rfl),fun xs hp w=>?_⟩
 obtain ⟨a,b,c,d,rfl,h1,h2⟩:=Tu (f:=1) (by simp) hp
 exact Yl a b c d w h1 h2
theorem Ht (args:List Int):aH Try.prog (cxB args) XT:=by
 refine ⟨ours _ _ _ Try.func141 rfl (by kernel_rfl),fun xs hp w=>?_⟩
 obtain ⟨a,b,c,d,rfl,h1,h2⟩:=Tu (f:=2) (by simp) hp
 exact Wp a b c d w h1 h2
theorem EY (args:List Int):aH Try.prog (cxB args) IW:=by
 refine ⟨ours _ _ _ Try.func106 rfl (by kernel_rfl),fun xs hp w=>?_⟩
 obtain ⟨a,b,rfl⟩:=OP (f:=3) (by simp) hp
 exact Ku a b w hp
theorem LA (args:List Int):aH Try.prog (cxB args) Ue:=by
 refine ⟨ours _ _ _ Try.func108 rfl (by kernel_rfl),fun xs hp w=>?_⟩
 obtain ⟨a,b,rfl⟩:=OP (f:=4) (by simp) hp
 exact TA a b w hp.1 hp.2
theorem GQ (args:List Int):aH Try.prog (cxB args) U6:=by
 refine ⟨ours _ _ _ Try.func103 rfl (by kernel_rfl),fun xs hp w=>?_⟩
 obtain ⟨a,b,rfl⟩:=OP (f:=5) (by simp) hp
 exact acp a b w hp
theorem Ga (args:List Int):aH Try.prog (cxB args) aav:=by
 refine ⟨ours _ _ _ Try.func102 rfl (by kernel_rfl),fun xs hp w=>?_⟩
 obtain ⟨a,b,rfl⟩:=OP (f:=6) (by simp) hp
 exact acg a b w hp
theorem BZ (args:List Int):aH Try.prog (cxB args) OC:=by
 refine ⟨ours _ _ _ Try.func75 rfl (by kernel_rfl),fun xs hp w=>?_⟩
 obtain ⟨a,b,c,d,rfl,h1,h2⟩:=Tu (f:=7) (by simp) hp
 exact Kg a b c d w h1 h2
theorem wZ (b:Bool):Value.bool (decide (b2i b≠0))=.bool b:=by rw [kD]
theorem mY (args:List Int):aH Try.prog (cxB args) rJ:=by
 refine ⟨ours _ _ _ Try.func128 rfl (by kernel_rfl),fun xs hp w=>?_⟩
 obtain ⟨a,b,rfl⟩:=OP (f:=8) (by simp) hp
 refine (ek a b w).mono ?_;rintro e w' ⟨he,hb⟩;exact ⟨by rw [he];exact congrArg Ending.returned (wZ _).symm,hb⟩
theorem KH (args:List Int):∀ s∈kF,aH Try.prog (cxB args) s:=by
 intro s hs;simp only [kF,List.mem_cons,List.not_mem_nil,or_false] at hs;rcases hs with rfl|rfl|rfl|rfl|rfl|rfl|rfl|rfl|rfl
 . exact Gt args
 . exact Gp args
 . exact Ht args
 . exact EY args
 . exact LA args
 . exact GQ args
 . exact Ga args
 . exact BZ args
 . exact mY args
end Go.Proofs.Ytmldbeipmappnaa
namespace Go.Proofs.Ytmldbeipmappnaa
open Go.RowKit Alm Sx
