/- The known functions of the symbolic runs: what they return, what they ask. -/
import Derived.Test.YtgmncdmcdgkodaaZSxL
import Derived.Test.YtgmncdmcdgkodaaZVecs
import Derived.Test.YtgmncdmcdgkodaaZArcHi
set_option linter.unusedVariables false
set_option linter.unusedSimpArgs false
namespace Go.Proofs.Ytgmncdmcdgkodaa
open Go.RowKit Alm Sx
def yI (L H:Int):List Int:=[zY L H,Aj L H,yD L H]
def di:Nat->List Int->List Int
 | 0,[a,b,c,d]=>yI (E5 a b c d) (Di a b c d)
 | 1,[a,b,c,d]=>yI (a+c) (b+d)
 | 2,[a,b,c,d]=>yI (a-d) (b-c)
 | 3,[a,b]=>yI (sqL a b) (sqH a b)
 | 4,[a,b]=>yI (rtL a b) (rtH a b)
 | 5,[a,b]=>[bv a b,bz a b,0]
 | 6,[a,b]=>[bv (a+5400000) (b+5400000),bz (a+5400000) (b+5400000),0]
 | 7,[a,b,c,d]=>[bT a b c d,dE a b c d,0]
 | 8,[a,b]=>[b2i (fxV a b)]
 | 20,[]=>[1]
 | _,_=>[]
def preB:Nat->List Int->Prop
 | 0,[a,b,c,d]=>fxV a b=true/\fxV c d=true
 | 1,[a,b,c,d]=>fxV a b=true/\fxV c d=true
 | 2,[a,b,c,d]=>fxV a b=true/\fxV c d=true
 | 3,[a,b]=>fxV a b=true
 | 4,[a,b]=>fxV a b=true/\0<=b
 | 5,[a,b]=>dL a b=true
 | 6,[a,b]=>dL a b=true
 | 7,[a,b,c,d]=>fxV a b=true/\fxV c d=true
 | 8,[_,_]=>True
 | 20,[]=>True
 | _,_=>False
def cxB (args:List Int):Cx:=⟨di,preB,args⟩
theorem K8 {f:Nat} {xs:List Int} (h:f=0∨f=1∨f=2∨f=7) (hp:preB f xs):∃ a b c d,xs=[a,b,c,d]/\fxV a b=true/\fxV c d=true:=by
 rcases h with rfl|rfl|rfl|rfl <;>
 . match xs,hp with
   | [a,b,c,d],hp=>exact ⟨a,b,c,d,rfl,hp⟩
theorem Ik {f:Nat} {xs:List Int} (h:f=3∨f=4∨f=5∨f=6∨f=8) (hp:preB f xs):∃ a b,xs=[a,b]:=by
 rcases h with rfl|rfl|rfl|rfl|rfl <;>
 . match xs,hp with
   | [a,b],hp=>exact ⟨a,b,rfl⟩
theorem T9 {xs:List Int} (hp:preB 20 xs):xs=[]:=by
 match xs,hp with
 | [],_=>rfl
theorem R3 (L H:Int):(yD L H=0∨yD L H=5)/\(yD L H≠0->zY L H=0/\Aj L H=0)/\fxV (zY L H) (Aj L H)=true:=by
 unfold yD zY Aj;split
 . rename_i h;exact ⟨Or.inl rfl,fun h=>absurd rfl h,(lC _ _).2 h⟩
 . exact ⟨Or.inr rfl,fun _=>⟨rfl,rfl⟩,by decide⟩
end Go.Proofs.Ytgmncdmcdgkodaa
namespace Go.Proofs.Ytgmncdmcdgkodaa
open Go.RowKit Alm Sx
theorem fB:Try.prog.follows .mixedOrders=true:=by kernel_rfl
theorem ours (f : Nat) (fn : Func) (c : Code) (h1 : Try.prog.funcs[f]? = some fn) (h2 : fn.body = some c) (h3 : (fn.name == "runtime.NumGoroutine") = false) : xL Try.prog f := ⟨fn, c, h1, h2, h3⟩
def Oz:Sx.Spec:=⟨109,0,[(true,[some .i64,some .i64]),(true,[some .i64,some .i64])],[(true,[some .i64,some .i64]),(false,[some .i64])]⟩
def PK:Sx.Spec:=⟨113,1,[(true,[some .i64,some .i64]),(true,[some .i64,some .i64])],[(true,[some .i64,some .i64]),(false,[some .i64])]⟩
def Mo:Sx.Spec:=⟨112,2,[(true,[some .i64,some .i64]),(true,[some .i64,some .i64])],[(true,[some .i64,some .i64]),(false,[some .i64])]⟩
def AU:Sx.Spec:=⟨115,3,[(true,[some .i64,some .i64])],[(true,[some .i64,some .i64]),(false,[some .i64])]⟩
def Lj:Sx.Spec:=⟨114,4,[(true,[some .i64,some .i64])],[(true,[some .i64,some .i64]),(false,[some .i64])]⟩
def PP:Sx.Spec:=⟨110,5,[(true,[some .i64,some .i64])],[(true,[some .i64,some .i64]),(false,[some .i64])]⟩
def PO:Sx.Spec:=⟨102,6,[(true,[some .i64,some .i64])],[(true,[some .i64,some .i64]),(false,[some .i64])]⟩
def GQ:Sx.Spec:=⟨73,7,[(true,[some .i64,some .i64]),(true,[some .i64,some .i64])],[(true,[some .i64,some .i64]),(false,[some .i64])]⟩
def pg:Sx.Spec:=⟨82,8,[(true,[some .i64,some .i64])],[(false,[none])]⟩
def nC:List Sx.Spec:=[Oz,PK,Mo,AU,Lj,PP,PO,GQ,pg]
theorem Av (args:List Int):az Try.prog (cxB args) Oz:=by
 refine ⟨ours _ _ _ Try.func109 rfl (by kernel_rfl),fun xs hp w=>?_⟩
 obtain ⟨a,b,c,d,rfl,h1,h2⟩:=K8 (f:=0) (by simp) hp
 exact O8 a b c d w h1 h2
theorem Cc (args:List Int):az Try.prog (cxB args) PK:=by
 refine ⟨ours _ _ _ Try.func113 rfl (by kernel_rfl),fun xs hp w=>?_⟩
 obtain ⟨a,b,c,d,rfl,h1,h2⟩:=K8 (f:=1) (by simp) hp
 exact Ph a b c d w h1 h2
theorem Cf (args:List Int):az Try.prog (cxB args) Mo:=by
 refine ⟨ours _ _ _ Try.func112 rfl (by kernel_rfl),fun xs hp w=>?_⟩
 obtain ⟨a,b,c,d,rfl,h1,h2⟩:=K8 (f:=2) (by simp) hp
 exact O4 a b c d w h1 h2
theorem Ao (args:List Int):az Try.prog (cxB args) AU:=by
 refine ⟨ours _ _ _ Try.func115 rfl (by kernel_rfl),fun xs hp w=>?_⟩
 obtain ⟨a,b,rfl⟩:=Ik (f:=3) (by simp) hp
 exact Dt a b w hp
theorem Fq (args:List Int):az Try.prog (cxB args) Lj:=by
 refine ⟨ours _ _ _ Try.func114 rfl (by kernel_rfl),fun xs hp w=>?_⟩
 obtain ⟨a,b,rfl⟩:=Ik (f:=4) (by simp) hp
 exact KZ a b w hp.1 hp.2
theorem Cu (args:List Int):az Try.prog (cxB args) PP:=by
 refine ⟨ours _ _ _ Try.func110 rfl (by kernel_rfl),fun xs hp w=>?_⟩
 obtain ⟨a,b,rfl⟩:=Ik (f:=5) (by simp) hp
 exact Sz a b w hp
theorem AX (args:List Int):az Try.prog (cxB args) PO:=by
 refine ⟨ours _ _ _ Try.func102 rfl (by kernel_rfl),fun xs hp w=>?_⟩
 obtain ⟨a,b,rfl⟩:=Ik (f:=6) (by simp) hp
 exact Tw a b w hp
theorem ym (args:List Int):az Try.prog (cxB args) GQ:=by
 refine ⟨ours _ _ _ Try.func73 rfl (by kernel_rfl),fun xs hp w=>?_⟩
 obtain ⟨a,b,c,d,rfl,h1,h2⟩:=K8 (f:=7) (by simp) hp
 exact C9 a b c d w h1 h2
theorem wW (b:Bool):Value.bool (decide (b2i b≠0))=.bool b:=by rw [iE]
theorem jH (args:List Int):az Try.prog (cxB args) pg:=by
 refine ⟨ours _ _ _ Try.func82 rfl (by kernel_rfl),fun xs hp w=>?_⟩
 obtain ⟨a,b,rfl⟩:=Ik (f:=8) (by simp) hp
 refine (bZ a b w).mono ?_;rintro e w' ⟨he,hb⟩;exact ⟨by rw [he];exact congrArg Ending.returned (wW _).symm,hb⟩
theorem Dp (args:List Int):∀ s∈nC,az Try.prog (cxB args) s:=by
 intro s hs;simp only [nC,List.mem_cons,List.not_mem_nil,or_false] at hs;rcases hs with rfl|rfl|rfl|rfl|rfl|rfl|rfl|rfl|rfl
 . exact Av args
 . exact Cc args
 . exact Cf args
 . exact Ao args
 . exact Fq args
 . exact Cu args
 . exact AX args
 . exact ym args
 . exact jH args
end Go.Proofs.Ytgmncdmcdgkodaa
namespace Go.Proofs.Ytgmncdmcdgkodaa
open Go.RowKit Alm Sx
def Qu:Sx.Spec:=Oz
def QE:Sx.Spec:=PK
def Rb:Sx.Spec:=Mo
def GH:Sx.Spec:=pg
def mW:List Sx.Spec:=[Qu,QE,Rb,GH]
theorem Ld (args:List Int):az Try.prog (cxB args) Qu:=Av args
theorem JA (args:List Int):az Try.prog (cxB args) QE:=Cc args
theorem JG (args:List Int):az Try.prog (cxB args) Rb:=Cf args
theorem Ef (args:List Int):az Try.prog (cxB args) GH:=jH args
theorem ET (args:List Int):∀ s∈mW,az Try.prog (cxB args) s:=by
 intro s hs;simp only [mW,List.mem_cons,List.not_mem_nil,or_false] at hs;rcases hs with rfl|rfl|rfl|rfl
 . exact Ld args
 . exact JA args
 . exact JG args
 . exact Ef args
theorem Er (args:List Int):∀ s∈nC++mW,az Try.prog (cxB args) s:=by
 intro s hs;rcases List.mem_append.1 hs with h|h
 . exact Dp args s h
 . exact ET args s h
