/- The known functions of the symbolic runs: what they return, what they ask. -/
import Derived.Test.YtgmncdmcdgkodaaZSxL
import Derived.Test.YtgmncdmcdgkodaaZVecs
import Derived.Test.YtgmncdmcdgkodaaZArcHi
set_option linter.unusedVariables false
set_option linter.unusedSimpArgs false
namespace Go.Proofs.Ytgmncdmcdgkodaa
open Go.RowKit Alm Sx
def xI (L H:Int):List Int:=[fB L H,dY L H,jJ L H]
def ak:Nat->List Int->List Int
 | 0,[a,b,c,d]=>xI (dV a b c d) (dW a b c d)
 | 1,[a,b,c,d]=>xI (a+c) (b+d)
 | 2,[a,b,c,d]=>xI (a-d) (b-c)
 | 3,[a,b]=>xI (sqL a b) (sqH a b)
 | 4,[a,b]=>xI (rtL a b) (rtH a b)
 | 5,[a,b]=>[fI a b,fK a b,0]
 | 6,[a,b]=>[fI (a+5400000) (b+5400000),fK (a+5400000) (b+5400000),0]
 | 7,[a,b,c,d]=>[aU a b c d,bg a b c d,0]
 | 8,[a,b]=>[b2i (fxV a b)]
 | 20,[]=>[1]
 | _,_=>[]
def preB:Nat->List Int->Prop
 | 0,[a,b,c,d]=>fxV a b=true/\fxV c d=true
 | 1,[a,b,c,d]=>fxV a b=true/\fxV c d=true
 | 2,[a,b,c,d]=>fxV a b=true/\fxV c d=true
 | 3,[a,b]=>fxV a b=true
 | 4,[a,b]=>fxV a b=true/\0<=b
 | 5,[a,b]=>dA a b=true
 | 6,[a,b]=>dA a b=true
 | 7,[a,b,c,d]=>fxV a b=true/\fxV c d=true
 | 8,[_,_]=>True
 | 20,[]=>True
 | _,_=>False
def cxB (args:List Int):Cx:=⟨ak,preB,args⟩
theorem F9 {f:Nat} {xs:List Int} (h:f=0∨f=1∨f=2∨f=7) (hp:preB f xs):∃ a b c d,xs=[a,b,c,d]/\fxV a b=true/\fxV c d=true:=by
 rcases h with rfl|rfl|rfl|rfl <;>
 . match xs,hp with
   | [a,b,c,d],hp=>exact ⟨a,b,c,d,rfl,hp⟩
theorem Ew {f:Nat} {xs:List Int} (h:f=3∨f=4∨f=5∨f=6∨f=8) (hp:preB f xs):∃ a b,xs=[a,b]:=by
 rcases h with rfl|rfl|rfl|rfl|rfl <;>
 . match xs,hp with
   | [a,b],hp=>exact ⟨a,b,rfl⟩
theorem Qa {xs:List Int} (hp:preB 20 xs):xs=[]:=by
 match xs,hp with
 | [],_=>rfl
theorem qf (L H:Int):(jJ L H=0∨jJ L H=5)/\(jJ L H≠0->fB L H=0/\dY L H=0)/\fxV (fB L H) (dY L H)=true:=by
 unfold jJ fB dY;split
 . rename_i h;exact ⟨Or.inl rfl,fun h=>absurd rfl h,(bM _ _).2 h⟩
 . exact ⟨Or.inr rfl,fun _=>⟨rfl,rfl⟩,by decide⟩
end Go.Proofs.Ytgmncdmcdgkodaa
namespace Go.Proofs.Ytgmncdmcdgkodaa
open Go.RowKit Alm Sx
theorem iI:Try.prog.follows .mixedOrders=true:=by kernel_rfl
theorem ours (f : Nat) (fn : Func) (c : Code) (h1 : Try.prog.funcs[f]? = some fn) (h2 : fn.body = some c) (h3 : (fn.name == "runtime.NumGoroutine") = false) : wN Try.prog f := ⟨fn, c, h1, h2, h3⟩
def Nw:Sx.Spec:=⟨109,0,[(true,[some .i64,some .i64]),(true,[some .i64,some .i64])],[(true,[some .i64,some .i64]),(false,[some .i64])]⟩
def NQ:Sx.Spec:=⟨113,1,[(true,[some .i64,some .i64]),(true,[some .i64,some .i64])],[(true,[some .i64,some .i64]),(false,[some .i64])]⟩
def NN:Sx.Spec:=⟨112,2,[(true,[some .i64,some .i64]),(true,[some .i64,some .i64])],[(true,[some .i64,some .i64]),(false,[some .i64])]⟩
def Ah:Sx.Spec:=⟨115,3,[(true,[some .i64,some .i64])],[(true,[some .i64,some .i64]),(false,[some .i64])]⟩
def Hm:Sx.Spec:=⟨114,4,[(true,[some .i64,some .i64])],[(true,[some .i64,some .i64]),(false,[some .i64])]⟩
def Nt:Sx.Spec:=⟨110,5,[(true,[some .i64,some .i64])],[(true,[some .i64,some .i64]),(false,[some .i64])]⟩
def MB:Sx.Spec:=⟨102,6,[(true,[some .i64,some .i64])],[(true,[some .i64,some .i64]),(false,[some .i64])]⟩
def Hw:Sx.Spec:=⟨73,7,[(true,[some .i64,some .i64]),(true,[some .i64,some .i64])],[(true,[some .i64,some .i64]),(false,[some .i64])]⟩
def Cz:Sx.Spec:=⟨82,8,[(true,[some .i64,some .i64])],[(false,[none])]⟩
def jY:List Sx.Spec:=[Nw,NQ,NN,Ah,Hm,Nt,MB,Hw,Cz]
theorem GI (args:List Int):aY Try.prog (cxB args) Nw:=by
 refine ⟨ours _ _ _ Try.func109 rfl (by kernel_rfl),fun xs hp w=>?_⟩
 obtain ⟨a,b,c,d,rfl,h1,h2⟩:=F9 (f:=0) (by simp) hp
 exact H6 a b c d w h1 h2
theorem Fq (args:List Int):aY Try.prog (cxB args) NQ:=by
 refine ⟨ours _ _ _ Try.func113 rfl (by kernel_rfl),fun xs hp w=>?_⟩
 obtain ⟨a,b,c,d,rfl,h1,h2⟩:=F9 (f:=1) (by simp) hp
 exact Ih a b c d w h1 h2
theorem Gc (args:List Int):aY Try.prog (cxB args) NN:=by
 refine ⟨ours _ _ _ Try.func112 rfl (by kernel_rfl),fun xs hp w=>?_⟩
 obtain ⟨a,b,c,d,rfl,h1,h2⟩:=F9 (f:=2) (by simp) hp
 exact Kb a b c d w h1 h2
theorem xS (args:List Int):aY Try.prog (cxB args) Ah:=by
 refine ⟨ours _ _ _ Try.func115 rfl (by kernel_rfl),fun xs hp w=>?_⟩
 obtain ⟨a,b,rfl⟩:=Ew (f:=3) (by simp) hp
 exact BG a b w hp
theorem Dm (args:List Int):aY Try.prog (cxB args) Hm:=by
 refine ⟨ours _ _ _ Try.func114 rfl (by kernel_rfl),fun xs hp w=>?_⟩
 obtain ⟨a,b,rfl⟩:=Ew (f:=4) (by simp) hp
 exact GQ a b w hp.1 hp.2
theorem Fu (args:List Int):aY Try.prog (cxB args) Nt:=by
 refine ⟨ours _ _ _ Try.func110 rfl (by kernel_rfl),fun xs hp w=>?_⟩
 obtain ⟨a,b,rfl⟩:=Ew (f:=5) (by simp) hp
 exact NS a b w hp
theorem G6 (args:List Int):aY Try.prog (cxB args) MB:=by
 refine ⟨ours _ _ _ Try.func102 rfl (by kernel_rfl),fun xs hp w=>?_⟩
 obtain ⟨a,b,rfl⟩:=Ew (f:=6) (by simp) hp
 exact OO a b w hp
theorem Ck (args:List Int):aY Try.prog (cxB args) Hw:=by
 refine ⟨ours _ _ _ Try.func73 rfl (by kernel_rfl),fun xs hp w=>?_⟩
 obtain ⟨a,b,c,d,rfl,h1,h2⟩:=F9 (f:=7) (by simp) hp
 exact AU a b c d w h1 h2
theorem Ei (b:Bool):Value.bool (decide (b2i b≠0))=.bool b:=by rw [ic]
theorem BQ (args:List Int):aY Try.prog (cxB args) Cz:=by
 refine ⟨ours _ _ _ Try.func82 rfl (by kernel_rfl),fun xs hp w=>?_⟩
 obtain ⟨a,b,rfl⟩:=Ew (f:=8) (by simp) hp
 refine (cO a b w).mono ?_;rintro e w' ⟨he,hb⟩;exact ⟨by rw [he];exact congrArg Ending.returned (Ei _).symm,hb⟩
theorem gN (args:List Int):∀ s∈jY,aY Try.prog (cxB args) s:=by
 intro s hs;simp only [jY,List.mem_cons,List.not_mem_nil,or_false] at hs;rcases hs with rfl|rfl|rfl|rfl|rfl|rfl|rfl|rfl|rfl
 . exact GI args
 . exact Fq args
 . exact Gc args
 . exact xS args
 . exact Dm args
 . exact Fu args
 . exact G6 args
 . exact Ck args
 . exact BQ args
end Go.Proofs.Ytgmncdmcdgkodaa
namespace Go.Proofs.Ytgmncdmcdgkodaa
open Go.RowKit Alm Sx
