/- The known functions of the symbolic runs: what they return, what they ask. -/
import Derived.Test.YtdbaccfgkacffaaGreatZSxL
import Derived.Test.YtdbaccfgkacffaaGreatZVecs
import Derived.Test.YtdbaccfgkacffaaGreatZArc8
set_option linter.unusedVariables false
set_option linter.unusedSimpArgs false
namespace Go.Proofs.YtdbaccfgkacffaaGreat
open Go.RowKit Alm Sx
def Ej (L H:Int):List Int:=[oP L H,og L H,nT L H]
def gq:Nat->List Int->List Int
 | 0,[a,b,c,d]=>Ej (gY a b c d) (ic a b c d)
 | 1,[a,b,c,d]=>Ej (a+c) (b+d)
 | 2,[a,b,c,d]=>Ej (a-d) (b-c)
 | 3,[a,b]=>Ej (sqL a b) (sqH a b)
 | 4,[a,b]=>Ej (rtL a b) (rtH a b)
 | 5,[a,b]=>[aX a b,bu a b,0]
 | 6,[a,b]=>[aX (a+5400000) (b+5400000),bu (a+5400000) (b+5400000),0]
 | 7,[a,b,c,d]=>[bP a b c d,cB a b c d,0]
 | 8,[a,b]=>[b2i (fxV a b)]
 | 20,[]=>[1]
 | _,_=>[]
def preB:Nat->List Int->Prop
 | 0,[a,b,c,d]=>fxV a b=true/\fxV c d=true
 | 1,[a,b,c,d]=>fxV a b=true/\fxV c d=true
 | 2,[a,b,c,d]=>fxV a b=true/\fxV c d=true
 | 3,[a,b]=>fxV a b=true
 | 4,[a,b]=>fxV a b=true/\0<=b
 | 5,[a,b]=>aY a b=true
 | 6,[a,b]=>aY a b=true
 | 7,[a,b,c,d]=>fxV a b=true/\fxV c d=true
 | 8,[_,_]=>True
 | 20,[]=>True
 | _,_=>False
def cxB (args:List Int):Cx:=⟨gq,preB,args⟩
theorem Ec {f:Nat} {xs:List Int} (h:f=0∨f=1∨f=2∨f=7) (hp:preB f xs):∃ a b c d,xs=[a,b,c,d]/\fxV a b=true/\fxV c d=true:=by
 rcases h with rfl|rfl|rfl|rfl <;>
 . match xs,hp with
   | [a,b,c,d],hp=>exact ⟨a,b,c,d,rfl,hp⟩
theorem Qs {f:Nat} {xs:List Int} (h:f=3∨f=4∨f=5∨f=6∨f=8) (hp:preB f xs):∃ a b,xs=[a,b]:=by
 rcases h with rfl|rfl|rfl|rfl|rfl <;>
 . match xs,hp with
   | [a,b],hp=>exact ⟨a,b,rfl⟩
theorem adR {xs:List Int} (hp:preB 20 xs):xs=[]:=by
 match xs,hp with
 | [],_=>rfl
theorem ik (L H:Int):(nT L H=0∨nT L H=5)/\(nT L H≠0->oP L H=0/\og L H=0)/\fxV (oP L H) (og L H)=true:=by
 unfold nT oP og;split
 . rename_i h;exact ⟨Or.inl rfl,fun h=>absurd rfl h,(bR _ _).2 h⟩
 . exact ⟨Or.inr rfl,fun _=>⟨rfl,rfl⟩,by decide⟩
end Go.Proofs.YtdbaccfgkacffaaGreat
namespace Go.Proofs.YtdbaccfgkacffaaGreat
open Go.RowKit Alm Sx
theorem dN:Tryz.prog.follows .mixedOrders=true:=by kernel_rfl
theorem ours (f : Nat) (fn : Func) (c : Code) (h1 : Tryz.prog.funcs[f]? = some fn) (h2 : fn.body = some c) (h3 : (fn.name == "runtime.NumGoroutine") = false) : BC Tryz.prog f := ⟨fn, c, h1, h2, h3⟩
def Y7:Sx.Spec:=⟨124,0,[(true,[some .i64,some .i64]),(true,[some .i64,some .i64])],[(true,[some .i64,some .i64]),(false,[some .i64])]⟩
def ach:Sx.Spec:=⟨284,1,[(true,[some .i64,some .i64]),(true,[some .i64,some .i64])],[(true,[some .i64,some .i64]),(false,[some .i64])]⟩
def YM:Sx.Spec:=⟨126,2,[(true,[some .i64,some .i64]),(true,[some .i64,some .i64])],[(true,[some .i64,some .i64]),(false,[some .i64])]⟩
def Ya:Sx.Spec:=⟨122,5,[(true,[some .i64,some .i64])],[(true,[some .i64,some .i64]),(false,[some .i64])]⟩
def Xj:Sx.Spec:=⟨123,6,[(true,[some .i64,some .i64])],[(true,[some .i64,some .i64]),(false,[some .i64])]⟩
def Wz:Sx.Spec:=⟨155,7,[(true,[some .i64,some .i64]),(true,[some .i64,some .i64])],[(true,[some .i64,some .i64]),(false,[some .i64])]⟩
def zF:Sx.Spec:=⟨230,8,[(true,[some .i64,some .i64])],[(false,[none])]⟩
theorem JV (args:List Int):aO Tryz.prog (cxB args) Y7:=by
 refine ⟨ours _ _ _ Tryz.func124 rfl (by kernel_rfl),fun xs hp w=>?_⟩
 obtain ⟨a,b,c,d,rfl,h1,h2⟩:=Ec (f:=0) (by simp) hp
 exact YW a b c d w h1 h2
theorem We (args:List Int):aO Tryz.prog (cxB args) ach:=by
 refine ⟨ours _ _ _ Tryz.func284 rfl (by kernel_rfl),fun xs hp w=>?_⟩
 obtain ⟨a,b,c,d,rfl,h1,h2⟩:=Ec (f:=1) (by simp) hp
 exact ZY a b c d w h1 h2
theorem IR (args:List Int):aO Tryz.prog (cxB args) YM:=by
 refine ⟨ours _ _ _ Tryz.func126 rfl (by kernel_rfl),fun xs hp w=>?_⟩
 obtain ⟨a,b,c,d,rfl,h1,h2⟩:=Ec (f:=2) (by simp) hp
 exact ZI a b c d w h1 h2
theorem JJ (args:List Int):aO Tryz.prog (cxB args) Ya:=by
 refine ⟨ours _ _ _ Tryz.func122 rfl (by kernel_rfl),fun xs hp w=>?_⟩
 obtain ⟨a,b,rfl⟩:=Qs (f:=5) (by simp) hp
 exact ab8 a b w hp
theorem Jw (args:List Int):aO Tryz.prog (cxB args) Xj:=by
 refine ⟨ours _ _ _ Tryz.func123 rfl (by kernel_rfl),fun xs hp w=>?_⟩
 obtain ⟨a,b,rfl⟩:=Qs (f:=6) (by simp) hp
 exact abv a b w hp
theorem QS (args:List Int):aO Tryz.prog (cxB args) Wz:=by
 refine ⟨ours _ _ _ Tryz.func155 rfl (by kernel_rfl),fun xs hp w=>?_⟩
 obtain ⟨a,b,c,d,rfl,h1,h2⟩:=Ec (f:=7) (by simp) hp
 exact M7 a b c d w h1 h2
theorem l6 (b:Bool):Value.bool (decide (b2i b≠0))=.bool b:=by rw [kR]
theorem yA (args:List Int):aO Tryz.prog (cxB args) zF:=by
 refine ⟨ours _ _ _ Tryz.func230 rfl (by kernel_rfl),fun xs hp w=>?_⟩
 obtain ⟨a,b,rfl⟩:=Qs (f:=8) (by simp) hp
 refine (fI a b w).mono ?_;rintro e w' ⟨he,hb⟩;exact ⟨by rw [he];exact congrArg Ending.returned (l6 _).symm,hb⟩
end Go.Proofs.YtdbaccfgkacffaaGreat
namespace Go.Proofs.YtdbaccfgkacffaaGreat
open Go.RowKit Alm Sx
def Yu:Sx.Spec:=⟨214,0,[(true,[some .i64,some .i64]),(true,[some .i64,some .i64])],[(true,[some .i64,some .i64]),(false,[some .i64])]⟩
def abC:Sx.Spec:=⟨288,1,[(true,[some .i64,some .i64]),(true,[some .i64,some .i64])],[(true,[some .i64,some .i64]),(false,[some .i64])]⟩
def Zr:Sx.Spec:=⟨237,2,[(true,[some .i64,some .i64]),(true,[some .i64,some .i64])],[(true,[some .i64,some .i64]),(false,[some .i64])]⟩
def QF:Sx.Spec:=zF
def Bc:List Sx.Spec:=[Yu,abC,Zr,QF]
theorem Jc (args:List Int):aO Tryz.prog (cxB args) Yu:=by
 refine ⟨ours _ _ _ Tryz.func214 rfl (by kernel_rfl),fun xs hp w=>?_⟩
 obtain ⟨a,b,c,d,rfl,h1,h2⟩:=Ec (f:=0) (by simp) hp
 exact Uf a b c d w h1 h2
theorem VR (args:List Int):aO Tryz.prog (cxB args) abC:=by
 refine ⟨ours _ _ _ Tryz.func288 rfl (by kernel_rfl),fun xs hp w=>?_⟩
 obtain ⟨a,b,c,d,rfl,h1,h2⟩:=Ec (f:=1) (by simp) hp
 exact Vf a b c d w h1 h2
theorem Ih (args:List Int):aO Tryz.prog (cxB args) Zr:=by
 refine ⟨ours _ _ _ Tryz.func237 rfl (by kernel_rfl),fun xs hp w=>?_⟩
 obtain ⟨a,b,c,d,rfl,h1,h2⟩:=Ec (f:=2) (by simp) hp
 exact Uv a b c d w h1 h2
theorem L6 (args:List Int):aO Tryz.prog (cxB args) QF:=yA args
theorem Li (args:List Int):∀ s∈Bc,aO Tryz.prog (cxB args) s:=by
 intro s hs;simp only [Bc,List.mem_cons,List.not_mem_nil,or_false] at hs;rcases hs with rfl|rfl|rfl|rfl
 . exact Jc args
 . exact VR args
 . exact Ih args
 . exact L6 args
