/- The known functions of the symbolic runs: what they return, what they ask. -/
import Derived.Test.YtpcfajiiijndiaaZSxL
import Derived.Test.YtpcfajiiijndiaaZVecs
import Derived.Test.YtpcfajiiijndiaaZArc8
set_option linter.unusedVariables false
set_option linter.unusedSimpArgs false
namespace Go.Proofs.Ytpcfajiiijndiaa
open Go.RowKit Alm Sx
def yN (L H:Int):List Int:=[oV L H,oJ L H,nk L H]
def cB:Nat->List Int->List Int
 | 0,[a,b,c,d]=>yN (iN a b c d) (iW a b c d)
 | 1,[a,b,c,d]=>yN (a+c) (b+d)
 | 2,[a,b,c,d]=>yN (a-d) (b-c)
 | 3,[a,b]=>yN (sqL a b) (sqH a b)
 | 4,[a,b]=>yN (rtL a b) (rtH a b)
 | 5,[a,b]=>[bM a b,bP a b,0]
 | 6,[a,b]=>[bM (a+5400000) (b+5400000),bP (a+5400000) (b+5400000),0]
 | 7,[a,b,c,d]=>[bf a b c d,bK a b c d,0]
 | 8,[a,b]=>[b2i (fxV a b)]
 | 20,[]=>[1]
 | _,_=>[]
def preB:Nat->List Int->Prop
 | 0,[a,b,c,d]=>fxV a b=true/\fxV c d=true
 | 1,[a,b,c,d]=>fxV a b=true/\fxV c d=true
 | 2,[a,b,c,d]=>fxV a b=true/\fxV c d=true
 | 3,[a,b]=>fxV a b=true
 | 4,[a,b]=>fxV a b=true/\0<=b
 | 5,[a,b]=>bi a b=true
 | 6,[a,b]=>bi a b=true
 | 7,[a,b,c,d]=>fxV a b=true/\fxV c d=true
 | 8,[_,_]=>True
 | 20,[]=>True
 | _,_=>False
def cxB (args:List Int):Cx:=⟨cB,preB,args⟩
theorem Nf {f:Nat} {xs:List Int} (h:f=0∨f=1∨f=2∨f=7) (hp:preB f xs):∃ a b c d,xs=[a,b,c,d]/\fxV a b=true/\fxV c d=true:=by
 rcases h with rfl|rfl|rfl|rfl <;>
 . match xs,hp with
   | [a,b,c,d],hp=>exact ⟨a,b,c,d,rfl,hp⟩
theorem JH {f:Nat} {xs:List Int} (h:f=3∨f=4∨f=5∨f=6∨f=8) (hp:preB f xs):∃ a b,xs=[a,b]:=by
 rcases h with rfl|rfl|rfl|rfl|rfl <;>
 . match xs,hp with
   | [a,b],hp=>exact ⟨a,b,rfl⟩
theorem We {xs:List Int} (hp:preB 20 xs):xs=[]:=by
 match xs,hp with
 | [],_=>rfl
theorem UH (L H:Int):(nk L H=0∨nk L H=5)/\(nk L H≠0->oV L H=0/\oJ L H=0)/\fxV (oV L H) (oJ L H)=true:=by
 unfold nk oV oJ;split
 . rename_i h;exact ⟨Or.inl rfl,fun h=>absurd rfl h,(dR _ _).2 h⟩
 . exact ⟨Or.inr rfl,fun _=>⟨rfl,rfl⟩,by decide⟩
end Go.Proofs.Ytpcfajiiijndiaa
namespace Go.Proofs.Ytpcfajiiijndiaa
open Go.RowKit Alm Sx
theorem dN:Try.prog.follows .mixedOrders=true:=by kernel_rfl
theorem ours (f : Nat) (fn : Func) (c : Code) (h1 : Try.prog.funcs[f]? = some fn) (h2 : fn.body = some c) (h3 : (fn.name == "runtime.NumGoroutine") = false) : zP Try.prog f := ⟨fn, c, h1, h2, h3⟩
def Mw:Sx.Spec:=⟨107,0,[(true,[some .i64,some .i64]),(true,[some .i64,some .i64])],[(true,[some .i64,some .i64]),(false,[some .i64])]⟩
def Lj:Sx.Spec:=⟨111,1,[(true,[some .i64,some .i64]),(true,[some .i64,some .i64])],[(true,[some .i64,some .i64]),(false,[some .i64])]⟩
def M6:Sx.Spec:=⟨110,2,[(true,[some .i64,some .i64]),(true,[some .i64,some .i64])],[(true,[some .i64,some .i64]),(false,[some .i64])]⟩
def DT:Sx.Spec:=⟨113,3,[(true,[some .i64,some .i64])],[(true,[some .i64,some .i64]),(false,[some .i64])]⟩
def Oq:Sx.Spec:=⟨112,4,[(true,[some .i64,some .i64])],[(true,[some .i64,some .i64]),(false,[some .i64])]⟩
def ME:Sx.Spec:=⟨108,5,[(true,[some .i64,some .i64])],[(true,[some .i64,some .i64]),(false,[some .i64])]⟩
def LY:Sx.Spec:=⟨100,6,[(true,[some .i64,some .i64])],[(true,[some .i64,some .i64]),(false,[some .i64])]⟩
def DX:Sx.Spec:=⟨71,7,[(true,[some .i64,some .i64]),(true,[some .i64,some .i64])],[(true,[some .i64,some .i64]),(false,[some .i64])]⟩
def kr:Sx.Spec:=⟨86,8,[(true,[some .i64,some .i64])],[(false,[none])]⟩
def oG:List Sx.Spec:=[Mw,Lj,M6,DT,Oq,ME,LY,DX,kr]
theorem xO (args:List Int):aC Try.prog (cxB args) Mw:=by
 refine ⟨ours _ _ _ Try.func107 rfl (by kernel_rfl),fun xs hp w=>?_⟩
 obtain ⟨a,b,c,d,rfl,h1,h2⟩:=Nf (f:=0) (by simp) hp
 exact Q5 a b c d w h1 h2
theorem xV (args:List Int):aC Try.prog (cxB args) Lj:=by
 refine ⟨ours _ _ _ Try.func111 rfl (by kernel_rfl),fun xs hp w=>?_⟩
 obtain ⟨a,b,c,d,rfl,h1,h2⟩:=Nf (f:=1) (by simp) hp
 exact Rx a b c d w h1 h2
theorem xN (args:List Int):aC Try.prog (cxB args) M6:=by
 refine ⟨ours _ _ _ Try.func110 rfl (by kernel_rfl),fun xs hp w=>?_⟩
 obtain ⟨a,b,c,d,rfl,h1,h2⟩:=Nf (f:=2) (by simp) hp
 exact QD a b c d w h1 h2
theorem BU (args:List Int):aC Try.prog (cxB args) DT:=by
 refine ⟨ours _ _ _ Try.func113 rfl (by kernel_rfl),fun xs hp w=>?_⟩
 obtain ⟨a,b,rfl⟩:=JH (f:=3) (by simp) hp
 exact GR a b w hp
theorem Ic (args:List Int):aC Try.prog (cxB args) Oq:=by
 refine ⟨ours _ _ _ Try.func112 rfl (by kernel_rfl),fun xs hp w=>?_⟩
 obtain ⟨a,b,rfl⟩:=JH (f:=4) (by simp) hp
 exact ML a b w hp.1 hp.2
theorem xx (args:List Int):aC Try.prog (cxB args) ME:=by
 refine ⟨ours _ _ _ Try.func108 rfl (by kernel_rfl),fun xs hp w=>?_⟩
 obtain ⟨a,b,rfl⟩:=JH (f:=5) (by simp) hp
 exact Wn a b w hp
theorem xn (args:List Int):aC Try.prog (cxB args) LY:=by
 refine ⟨ours _ _ _ Try.func100 rfl (by kernel_rfl),fun xs hp w=>?_⟩
 obtain ⟨a,b,rfl⟩:=JH (f:=6) (by simp) hp
 exact Vp a b w hp
theorem rF (args:List Int):aC Try.prog (cxB args) DX:=by
 refine ⟨ours _ _ _ Try.func71 rfl (by kernel_rfl),fun xs hp w=>?_⟩
 obtain ⟨a,b,c,d,rfl,h1,h2⟩:=Nf (f:=7) (by simp) hp
 exact Fu a b c d w h1 h2
theorem mD (b:Bool):Value.bool (decide (b2i b≠0))=.bool b:=by rw [je]
theorem iU (args:List Int):aC Try.prog (cxB args) kr:=by
 refine ⟨ours _ _ _ Try.func86 rfl (by kernel_rfl),fun xs hp w=>?_⟩
 obtain ⟨a,b,rfl⟩:=JH (f:=8) (by simp) hp
 refine (dh a b w).mono ?_;rintro e w' ⟨he,hb⟩;exact ⟨by rw [he];exact congrArg Ending.returned (mD _).symm,hb⟩
theorem Gg (args:List Int):∀ s∈oG,aC Try.prog (cxB args) s:=by
 intro s hs;simp only [oG,List.mem_cons,List.not_mem_nil,or_false] at hs;rcases hs with rfl|rfl|rfl|rfl|rfl|rfl|rfl|rfl|rfl
 . exact xO args
 . exact xV args
 . exact xN args
 . exact BU args
 . exact Ic args
 . exact xx args
 . exact xn args
 . exact rF args
 . exact iU args
end Go.Proofs.Ytpcfajiiijndiaa
namespace Go.Proofs.Ytpcfajiiijndiaa
open Go.RowKit Alm Sx
def Vz:Sx.Spec:=Mw
def Tw:Sx.Spec:=Lj
def Uo:Sx.Spec:=M6
def IG:Sx.Spec:=kr
def ou:List Sx.Spec:=[Vz,Tw,Uo,IG]
theorem MJ (args:List Int):aC Try.prog (cxB args) Vz:=xO args
theorem Lb (args:List Int):aC Try.prog (cxB args) Tw:=xV args
theorem KW (args:List Int):aC Try.prog (cxB args) Uo:=xN args
theorem Gr (args:List Int):aC Try.prog (cxB args) IG:=iU args
theorem Gs (args:List Int):∀ s∈ou,aC Try.prog (cxB args) s:=by
 intro s hs;simp only [ou,List.mem_cons,List.not_mem_nil,or_false] at hs;rcases hs with rfl|rfl|rfl|rfl
 . exact MJ args
 . exact Lb args
 . exact KW args
 . exact Gr args
theorem Gc (args:List Int):∀ s∈oG++ou,aC Try.prog (cxB args) s:=by
 intro s hs;rcases List.mem_append.1 hs with h|h
 . exact Gg args s h
 . exact Gs args s h
