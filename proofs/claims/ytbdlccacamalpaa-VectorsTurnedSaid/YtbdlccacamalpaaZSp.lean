/- The known functions of the symbolic runs: what they return, what they ask. -/
import Derived.Test.YtbdlccacamalpaaZSxL
import Derived.Test.YtbdlccacamalpaaZVecs
import Derived.Test.YtbdlccacamalpaaZArcHi
set_option linter.unusedVariables false
set_option linter.unusedSimpArgs false
namespace Go.Proofs.Ytbdlccacamalpaa
open Go.RowKit Alm Sx
def zx (L H:Int):List Int:=[fU L H,fJ L H,jT L H]
def az:Nat->List Int->List Int
 | 0,[a,b,c,d]=>zx (eD a b c d) (eY a b c d)
 | 1,[a,b,c,d]=>zx (a+c) (b+d)
 | 2,[a,b,c,d]=>zx (a-d) (b-c)
 | 3,[a,b]=>zx (sqL a b) (sqH a b)
 | 4,[a,b]=>zx (rtL a b) (rtH a b)
 | 5,[a,b]=>[gu a b,gq a b,0]
 | 6,[a,b]=>[gu (a+5400000) (b+5400000),gq (a+5400000) (b+5400000),0]
 | 7,[a,b,c,d]=>[ay a b c d,aU a b c d,0]
 | 8,[a,b]=>[b2i (fxV a b)]
 | 20,[]=>[1]
 | _,_=>[]
def preB:Nat->List Int->Prop
 | 0,[a,b,c,d]=>fxV a b=true/\fxV c d=true
 | 1,[a,b,c,d]=>fxV a b=true/\fxV c d=true
 | 2,[a,b,c,d]=>fxV a b=true/\fxV c d=true
 | 3,[a,b]=>fxV a b=true
 | 4,[a,b]=>fxV a b=true/\0<=b
 | 5,[a,b]=>dW a b=true
 | 6,[a,b]=>dW a b=true
 | 7,[a,b,c,d]=>fxV a b=true/\fxV c d=true
 | 8,[_,_]=>True
 | 20,[]=>True
 | _,_=>False
def cxB (args:List Int):Cx:=⟨az,preB,args⟩
theorem II {f:Nat} {xs:List Int} (h:f=0∨f=1∨f=2∨f=7) (hp:preB f xs):∃ a b c d,xs=[a,b,c,d]/\fxV a b=true/\fxV c d=true:=by
 rcases h with rfl|rfl|rfl|rfl <;>
 . match xs,hp with
   | [a,b,c,d],hp=>exact ⟨a,b,c,d,rfl,hp⟩
theorem EW {f:Nat} {xs:List Int} (h:f=3∨f=4∨f=5∨f=6∨f=8) (hp:preB f xs):∃ a b,xs=[a,b]:=by
 rcases h with rfl|rfl|rfl|rfl|rfl <;>
 . match xs,hp with
   | [a,b],hp=>exact ⟨a,b,rfl⟩
theorem RN {xs:List Int} (hp:preB 20 xs):xs=[]:=by
 match xs,hp with
 | [],_=>rfl
theorem rD (L H:Int):(jT L H=0∨jT L H=5)/\(jT L H≠0->fU L H=0/\fJ L H=0)/\fxV (fU L H) (fJ L H)=true:=by
 unfold jT fU fJ;split
 . rename_i h;exact ⟨Or.inl rfl,fun h=>absurd rfl h,(bT _ _).2 h⟩
 . exact ⟨Or.inr rfl,fun _=>⟨rfl,rfl⟩,by decide⟩
end Go.Proofs.Ytbdlccacamalpaa
namespace Go.Proofs.Ytbdlccacamalpaa
open Go.RowKit Alm Sx
theorem iJ:Try.prog.follows .mixedOrders=true:=by kernel_rfl
theorem ours (f : Nat) (fn : Func) (c : Code) (h1 : Try.prog.funcs[f]? = some fn) (h2 : fn.body = some c) (h3 : (fn.name == "runtime.NumGoroutine") = false) : wm Try.prog f := ⟨fn, c, h1, h2, h3⟩
def Ov:Sx.Spec:=⟨43,0,[(true,[some .i64,some .i64]),(true,[some .i64,some .i64])],[(true,[some .i64,some .i64]),(false,[some .i64])]⟩
def QD:Sx.Spec:=⟨44,1,[(true,[some .i64,some .i64]),(true,[some .i64,some .i64])],[(true,[some .i64,some .i64]),(false,[some .i64])]⟩
def QN:Sx.Spec:=⟨42,2,[(true,[some .i64,some .i64]),(true,[some .i64,some .i64])],[(true,[some .i64,some .i64]),(false,[some .i64])]⟩
def Bh:Sx.Spec:=⟨46,3,[(true,[some .i64,some .i64])],[(true,[some .i64,some .i64]),(false,[some .i64])]⟩
def I8:Sx.Spec:=⟨45,4,[(true,[some .i64,some .i64])],[(true,[some .i64,some .i64]),(false,[some .i64])]⟩
def Nz:Sx.Spec:=⟨41,5,[(true,[some .i64,some .i64])],[(true,[some .i64,some .i64]),(false,[some .i64])]⟩
def N8:Sx.Spec:=⟨40,6,[(true,[some .i64,some .i64])],[(true,[some .i64,some .i64]),(false,[some .i64])]⟩
def I5:Sx.Spec:=⟨31,7,[(true,[some .i64,some .i64]),(true,[some .i64,some .i64])],[(true,[some .i64,some .i64]),(false,[some .i64])]⟩
def FN:Sx.Spec:=⟨37,8,[(true,[some .i64,some .i64])],[(false,[none])]⟩
def kr:List Sx.Spec:=[Ov,QD,QN,Bh,I8,Nz,N8,I5,FN]
theorem GR (args:List Int):bB Try.prog (cxB args) Ov:=by
 refine ⟨ours _ _ _ Try.func43 rfl (by kernel_rfl),fun xs hp w=>?_⟩
 obtain ⟨a,b,c,d,rfl,h1,h2⟩:=II (f:=0) (by simp) hp
 exact JG a b c d w h1 h2
theorem Hu (args:List Int):bB Try.prog (cxB args) QD:=by
 refine ⟨ours _ _ _ Try.func44 rfl (by kernel_rfl),fun xs hp w=>?_⟩
 obtain ⟨a,b,c,d,rfl,h1,h2⟩:=II (f:=1) (by simp) hp
 exact Mi a b c d w h1 h2
theorem IB (args:List Int):bB Try.prog (cxB args) QN:=by
 refine ⟨ours _ _ _ Try.func42 rfl (by kernel_rfl),fun xs hp w=>?_⟩
 obtain ⟨a,b,c,d,rfl,h1,h2⟩:=II (f:=2) (by simp) hp
 exact LK a b c d w h1 h2
theorem yj (args:List Int):bB Try.prog (cxB args) Bh:=by
 refine ⟨ours _ _ _ Try.func46 rfl (by kernel_rfl),fun xs hp w=>?_⟩
 obtain ⟨a,b,rfl⟩:=EW (f:=3) (by simp) hp
 exact Cr a b w hp
theorem F9 (args:List Int):bB Try.prog (cxB args) I8:=by
 refine ⟨ours _ _ _ Try.func45 rfl (by kernel_rfl),fun xs hp w=>?_⟩
 obtain ⟨a,b,rfl⟩:=EW (f:=4) (by simp) hp
 exact Gy a b w hp.1 hp.2
theorem Ij (args:List Int):bB Try.prog (cxB args) Nz:=by
 refine ⟨ours _ _ _ Try.func41 rfl (by kernel_rfl),fun xs hp w=>?_⟩
 obtain ⟨a,b,rfl⟩:=EW (f:=5) (by simp) hp
 exact Og a b w hp
theorem GX (args:List Int):bB Try.prog (cxB args) N8:=by
 refine ⟨ours _ _ _ Try.func40 rfl (by kernel_rfl),fun xs hp w=>?_⟩
 obtain ⟨a,b,rfl⟩:=EW (f:=6) (by simp) hp
 exact Ou a b w hp
theorem Ev (args:List Int):bB Try.prog (cxB args) I5:=by
 refine ⟨ours _ _ _ Try.func31 rfl (by kernel_rfl),fun xs hp w=>?_⟩
 obtain ⟨a,b,c,d,rfl,h1,h2⟩:=II (f:=7) (by simp) hp
 exact Cz a b c d w h1 h2
theorem Ej (b:Bool):Value.bool (decide (b2i b≠0))=.bool b:=by rw [iO]
theorem Bt (args:List Int):bB Try.prog (cxB args) FN:=by
 refine ⟨ours _ _ _ Try.func37 rfl (by kernel_rfl),fun xs hp w=>?_⟩
 obtain ⟨a,b,rfl⟩:=EW (f:=8) (by simp) hp
 refine (dJ a b w).mono ?_;rintro e w' ⟨he,hb⟩;exact ⟨by rw [he];exact congrArg Ending.returned (Ej _).symm,hb⟩
theorem il (args:List Int):∀ s∈kr,bB Try.prog (cxB args) s:=by
 intro s hs;simp only [kr,List.mem_cons,List.not_mem_nil,or_false] at hs;rcases hs with rfl|rfl|rfl|rfl|rfl|rfl|rfl|rfl|rfl
 . exact GR args
 . exact Hu args
 . exact IB args
 . exact yj args
 . exact F9 args
 . exact Ij args
 . exact GX args
 . exact Ev args
 . exact Bt args
end Go.Proofs.Ytbdlccacamalpaa
namespace Go.Proofs.Ytbdlccacamalpaa
open Go.RowKit Alm Sx
