/- The known functions of the symbolic runs: what they return, what they ask. -/
import Derived.Test.YtdbaccfgkacffaaGreatZSxL
import Derived.Test.YtdbaccfgkacffaaGreatZVecs
import Derived.Test.YtdbaccfgkacffaaGreatZArc8
set_option linter.unusedVariables false
set_option linter.unusedSimpArgs false
namespace Go.Proofs.YtdbaccfgkacffaaGreat
open Go.RowKit Alm Sx
def EQ (L H:Int):List Int:=[oP L H,o5 L H,nT L H]
def fZ:Nat->List Int->List Int
 | 0,[a,b,c,d]=>EQ (jJ a b c d) (jO a b c d)
 | 1,[a,b,c,d]=>EQ (a+c) (b+d)
 | 2,[a,b,c,d]=>EQ (a-d) (b-c)
 | 3,[a,b]=>EQ (sqL a b) (sqH a b)
 | 4,[a,b]=>EQ (rtL a b) (rtH a b)
 | 5,[a,b]=>[bI a b,bL a b,0]
 | 6,[a,b]=>[bI (a+5400000) (b+5400000),bL (a+5400000) (b+5400000),0]
 | 7,[a,b,c,d]=>[dN a b c d,eZ a b c d,0]
 | 8,[a,b]=>[b2i (fxV a b)]
 | 20,[]=>[1]
 | _,_=>[]
def preB:Nat->List Int->Prop
 | 0,[a,b,c,d]=>fxV a b=true/\fxV c d=true
 | 1,[a,b,c,d]=>fxV a b=true/\fxV c d=true
 | 2,[a,b,c,d]=>fxV a b=true/\fxV c d=true
 | 3,[a,b]=>fxV a b=true
 | 4,[a,b]=>fxV a b=true/\0<=b
 | 5,[a,b]=>bf a b=true
 | 6,[a,b]=>bf a b=true
 | 7,[a,b,c,d]=>fxV a b=true/\fxV c d=true
 | 8,[_,_]=>True
 | 20,[]=>True
 | _,_=>False
def cxB (args:List Int):Cx:=⟨fZ,preB,args⟩
theorem BI {f:Nat} {xs:List Int} (h:f=0∨f=1∨f=2∨f=7) (hp:preB f xs):∃ a b c d,xs=[a,b,c,d]/\fxV a b=true/\fxV c d=true:=by
 rcases h with rfl|rfl|rfl|rfl <;>
 . match xs,hp with
   | [a,b,c,d],hp=>exact ⟨a,b,c,d,rfl,hp⟩
theorem OX {f:Nat} {xs:List Int} (h:f=3∨f=4∨f=5∨f=6∨f=8) (hp:preB f xs):∃ a b,xs=[a,b]:=by
 rcases h with rfl|rfl|rfl|rfl|rfl <;>
 . match xs,hp with
   | [a,b],hp=>exact ⟨a,b,rfl⟩
theorem nW (L H:Int):(nT L H=0∨nT L H=5)/\(nT L H≠0->oP L H=0/\o5 L H=0)/\fxV (oP L H) (o5 L H)=true:=by
 unfold nT oP o5;split
 . rename_i h;exact ⟨Or.inl rfl,fun h=>absurd rfl h,(cz _ _).2 h⟩
 . exact ⟨Or.inr rfl,fun _=>⟨rfl,rfl⟩,by decide⟩
end Go.Proofs.YtdbaccfgkacffaaGreat
namespace Go.Proofs.YtdbaccfgkacffaaGreat
open Go.RowKit Alm Sx
theorem dG:Tryz.prog.follows .mixedOrders=true:=by kernel_rfl
theorem ours (f : Nat) (fn : Func) (c : Code) (h1 : Tryz.prog.funcs[f]? = some fn) (h2 : fn.body = some c) (h3 : (fn.name == "runtime.NumGoroutine") = false) : Cg Tryz.prog f := ⟨fn, c, h1, h2, h3⟩
def YD:Sx.Spec:=⟨124,0,[(true,[some .i64,some .i64]),(true,[some .i64,some .i64])],[(true,[some .i64,some .i64]),(false,[some .i64])]⟩
def acw:Sx.Spec:=⟨284,1,[(true,[some .i64,some .i64]),(true,[some .i64,some .i64])],[(true,[some .i64,some .i64]),(false,[some .i64])]⟩
def YT:Sx.Spec:=⟨126,2,[(true,[some .i64,some .i64]),(true,[some .i64,some .i64])],[(true,[some .i64,some .i64]),(false,[some .i64])]⟩
def Xp:Sx.Spec:=⟨122,5,[(true,[some .i64,some .i64])],[(true,[some .i64,some .i64]),(false,[some .i64])]⟩
def Zr:Sx.Spec:=⟨123,6,[(true,[some .i64,some .i64])],[(true,[some .i64,some .i64]),(false,[some .i64])]⟩
def Wv:Sx.Spec:=⟨155,7,[(true,[some .i64,some .i64]),(true,[some .i64,some .i64])],[(true,[some .i64,some .i64]),(false,[some .i64])]⟩
def Ba:Sx.Spec:=⟨230,8,[(true,[some .i64,some .i64])],[(false,[none])]⟩
theorem H9 (args:List Int):aT Tryz.prog (cxB args) YD:=by
 refine ⟨ours _ _ _ Tryz.func124 rfl (by kernel_rfl),fun xs hp w=>?_⟩
 obtain ⟨a,b,c,d,rfl,h1,h2⟩:=BI (f:=0) (by simp) hp
 exact X6 a b c d w h1 h2
theorem RN (args:List Int):aT Tryz.prog (cxB args) acw:=by
 refine ⟨ours _ _ _ Tryz.func284 rfl (by kernel_rfl),fun xs hp w=>?_⟩
 obtain ⟨a,b,c,d,rfl,h1,h2⟩:=BI (f:=1) (by simp) hp
 exact WZ a b c d w h1 h2
theorem Ig (args:List Int):aT Tryz.prog (cxB args) YT:=by
 refine ⟨ours _ _ _ Tryz.func126 rfl (by kernel_rfl),fun xs hp w=>?_⟩
 obtain ⟨a,b,c,d,rfl,h1,h2⟩:=BI (f:=2) (by simp) hp
 exact Zj a b c d w h1 h2
theorem IC (args:List Int):aT Tryz.prog (cxB args) Xp:=by
 refine ⟨ours _ _ _ Tryz.func122 rfl (by kernel_rfl),fun xs hp w=>?_⟩
 obtain ⟨a,b,rfl⟩:=OX (f:=5) (by simp) hp
 exact abM a b w hp
theorem IG (args:List Int):aT Tryz.prog (cxB args) Zr:=by
 refine ⟨ours _ _ _ Tryz.func123 rfl (by kernel_rfl),fun xs hp w=>?_⟩
 obtain ⟨a,b,rfl⟩:=OX (f:=6) (by simp) hp
 exact aaJ a b w hp
theorem Pg (args:List Int):aT Tryz.prog (cxB args) Wv:=by
 refine ⟨ours _ _ _ Tryz.func155 rfl (by kernel_rfl),fun xs hp w=>?_⟩
 obtain ⟨a,b,c,d,rfl,h1,h2⟩:=BI (f:=7) (by simp) hp
 exact MJ a b c d w h1 h2
theorem mQ (b:Bool):Value.bool (decide (b2i b≠0))=.bool b:=by rw [dX]
theorem zk (args:List Int):aT Tryz.prog (cxB args) Ba:=by
 refine ⟨ours _ _ _ Tryz.func230 rfl (by kernel_rfl),fun xs hp w=>?_⟩
 obtain ⟨a,b,rfl⟩:=OX (f:=8) (by simp) hp
 refine (fJ a b w).mono ?_;rintro e w' ⟨he,hb⟩;exact ⟨by rw [he];exact congrArg Ending.returned (mQ _).symm,hb⟩
end Go.Proofs.YtdbaccfgkacffaaGreat
namespace Go.Proofs.YtdbaccfgkacffaaGreat
open Go.RowKit Alm Sx
def Yb:Sx.Spec:=⟨214,0,[(true,[some .i64,some .i64]),(true,[some .i64,some .i64])],[(true,[some .i64,some .i64]),(false,[some .i64])]⟩
def aa5:Sx.Spec:=⟨288,1,[(true,[some .i64,some .i64]),(true,[some .i64,some .i64])],[(true,[some .i64,some .i64]),(false,[some .i64])]⟩
def Ye:Sx.Spec:=⟨237,2,[(true,[some .i64,some .i64]),(true,[some .i64,some .i64])],[(true,[some .i64,some .i64]),(false,[some .i64])]⟩
def Ni:Sx.Spec:=Ba
def zR:List Sx.Spec:=[Yb,aa5,Ye,Ni]
theorem Ja (args:List Int):aT Tryz.prog (cxB args) Yb:=by
 refine ⟨ours _ _ _ Tryz.func214 rfl (by kernel_rfl),fun xs hp w=>?_⟩
 obtain ⟨a,b,c,d,rfl,h1,h2⟩:=BI (f:=0) (by simp) hp
 exact Vi a b c d w h1 h2
theorem UT (args:List Int):aT Tryz.prog (cxB args) aa5:=by
 refine ⟨ours _ _ _ Tryz.func288 rfl (by kernel_rfl),fun xs hp w=>?_⟩
 obtain ⟨a,b,c,d,rfl,h1,h2⟩:=BI (f:=1) (by simp) hp
 exact VN a b c d w h1 h2
theorem Jf (args:List Int):aT Tryz.prog (cxB args) Ye:=by
 refine ⟨ours _ _ _ Tryz.func237 rfl (by kernel_rfl),fun xs hp w=>?_⟩
 obtain ⟨a,b,c,d,rfl,h1,h2⟩:=BI (f:=2) (by simp) hp
 exact VQ a b c d w h1 h2
theorem KM (args:List Int):aT Tryz.prog (cxB args) Ni:=zk args
theorem MQ (args:List Int):∀ s∈zR,aT Tryz.prog (cxB args) s:=by
 intro s hs;simp only [zR,List.mem_cons,List.not_mem_nil,or_false] at hs;rcases hs with rfl|rfl|rfl|rfl
 . exact Ja args
 . exact UT args
 . exact Jf args
 . exact KM args
