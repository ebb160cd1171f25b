/- The known functions of the symbolic runs: what they return, what they ask. -/
import Derived.Test.YtknhbpnclokciaaGreatZSxL
import Derived.Test.YtknhbpnclokciaaGreatZVecs
import Derived.Test.YtknhbpnclokciaaGreatZArc8
set_option linter.unusedVariables false
set_option linter.unusedSimpArgs false
namespace Go.Proofs.YtknhbpnclokciaaGreat
open Go.RowKit Alm Sx
def zh (L H:Int):List Int:=[nO L H,lu L H,mK L H]
def bA:Nat->List Int->List Int
 | 0,[a,b,c,d]=>zh (qf a b c d) (qh a b c d)
 | 1,[a,b,c,d]=>zh (a+c) (b+d)
 | 2,[a,b,c,d]=>zh (a-d) (b-c)
 | 3,[a,b]=>zh (sqL a b) (sqH a b)
 | 4,[a,b]=>zh (rtL a b) (rtH a b)
 | 5,[a,b]=>[dA a b,dB a b,0]
 | 6,[a,b]=>[dA (a+5400000) (b+5400000),dB (a+5400000) (b+5400000),0]
 | 7,[a,b,c,d]=>[dP a b c d,eD a b c d,0]
 | 8,[a,b]=>[b2i (fxV a b)]
 | 20,[]=>[1]
 | _,_=>[]
def preB:Nat->List Int->Prop
 | 0,[a,b,c,d]=>fxV a b=true/\fxV c d=true
 | 1,[a,b,c,d]=>fxV a b=true/\fxV c d=true
 | 2,[a,b,c,d]=>fxV a b=true/\fxV c d=true
 | 3,[a,b]=>fxV a b=true
 | 4,[a,b]=>fxV a b=true/\0<=b
 | 5,[a,b]=>aH a b=true
 | 6,[a,b]=>aH a b=true
 | 7,[a,b,c,d]=>fxV a b=true/\fxV c d=true
 | 8,[_,_]=>True
 | 20,[]=>True
 | _,_=>False
def cxB (args:List Int):Cx:=⟨bA,preB,args⟩
theorem zW {f:Nat} {xs:List Int} (h:f=0∨f=1∨f=2∨f=7) (hp:preB f xs):∃ a b c d,xs=[a,b,c,d]/\fxV a b=true/\fxV c d=true:=by
 rcases h with rfl|rfl|rfl|rfl <;>
 . match xs,hp with
   | [a,b,c,d],hp=>exact ⟨a,b,c,d,rfl,hp⟩
theorem vo {f:Nat} {xs:List Int} (h:f=3∨f=4∨f=5∨f=6∨f=8) (hp:preB f xs):∃ a b,xs=[a,b]:=by
 rcases h with rfl|rfl|rfl|rfl|rfl <;>
 . match xs,hp with
   | [a,b],hp=>exact ⟨a,b,rfl⟩
theorem Gy (L H:Int):(mK L H=0∨mK L H=5)/\(mK L H≠0->nO L H=0/\lu L H=0)/\fxV (nO L H) (lu L H)=true:=by
 unfold mK nO lu;split
 . rename_i h;exact ⟨Or.inl rfl,fun h=>absurd rfl h,(dQ _ _).2 h⟩
 . exact ⟨Or.inr rfl,fun _=>⟨rfl,rfl⟩,by decide⟩
end Go.Proofs.YtknhbpnclokciaaGreat
namespace Go.Proofs.YtknhbpnclokciaaGreat
open Go.RowKit Alm Sx
theorem il:Tryz.prog.follows .mixedOrders=true:=by kernel_rfl
theorem ours (f : Nat) (fn : Func) (c : Code) (h1 : Tryz.prog.funcs[f]? = some fn) (h2 : fn.body = some c) (h3 : (fn.name == "runtime.NumGoroutine") = false) : Be Tryz.prog f := ⟨fn, c, h1, h2, h3⟩
def Xq:Sx.Spec:=⟨182,0,[(true,[some .i64,some .i64]),(true,[some .i64,some .i64])],[(true,[some .i64,some .i64]),(false,[some .i64])]⟩
def WN:Sx.Spec:=⟨104,1,[(true,[some .i64,some .i64]),(true,[some .i64,some .i64])],[(true,[some .i64,some .i64]),(false,[some .i64])]⟩
def WM:Sx.Spec:=⟨184,2,[(true,[some .i64,some .i64]),(true,[some .i64,some .i64])],[(true,[some .i64,some .i64]),(false,[some .i64])]⟩
def GQ:Sx.Spec:=⟨103,3,[(true,[some .i64,some .i64])],[(true,[some .i64,some .i64]),(false,[some .i64])]⟩
def Ru:Sx.Spec:=⟨105,4,[(true,[some .i64,some .i64])],[(true,[some .i64,some .i64]),(false,[some .i64])]⟩
def Yg:Sx.Spec:=⟨99,5,[(true,[some .i64,some .i64])],[(true,[some .i64,some .i64]),(false,[some .i64])]⟩
def XN:Sx.Spec:=⟨98,6,[(true,[some .i64,some .i64])],[(true,[some .i64,some .i64]),(false,[some .i64])]⟩
def RN:Sx.Spec:=⟨102,7,[(true,[some .i64,some .i64]),(true,[some .i64,some .i64])],[(true,[some .i64,some .i64]),(false,[some .i64])]⟩
def Ny:Sx.Spec:=⟨207,8,[(true,[some .i64,some .i64])],[(false,[none])]⟩
def lL:List Sx.Spec:=[Xq,WN,WM,GQ,Ru,Yg,XN,RN,Ny]
theorem QE (args:List Int):aQ Tryz.prog (cxB args) Xq:=by
 refine ⟨ours _ _ _ Tryz.func182 rfl (by kernel_rfl),fun xs hp w=>?_⟩
 obtain ⟨a,b,c,d,rfl,h1,h2⟩:=zW (f:=0) (by simp) hp
 exact Vj a b c d w h1 h2
theorem PL (args:List Int):aQ Tryz.prog (cxB args) WN:=by
 refine ⟨ours _ _ _ Tryz.func104 rfl (by kernel_rfl),fun xs hp w=>?_⟩
 obtain ⟨a,b,c,d,rfl,h1,h2⟩:=zW (f:=1) (by simp) hp
 exact Ug a b c d w h1 h2
theorem OI (args:List Int):aQ Tryz.prog (cxB args) WM:=by
 refine ⟨ours _ _ _ Tryz.func184 rfl (by kernel_rfl),fun xs hp w=>?_⟩
 obtain ⟨a,b,c,d,rfl,h1,h2⟩:=zW (f:=2) (by simp) hp
 exact SK a b c d w h1 h2
theorem Dr (args:List Int):aQ Tryz.prog (cxB args) GQ:=by
 refine ⟨ours _ _ _ Tryz.func103 rfl (by kernel_rfl),fun xs hp w=>?_⟩
 obtain ⟨a,b,rfl⟩:=vo (f:=3) (by simp) hp
 exact IW a b w hp
theorem ND (args:List Int):aQ Tryz.prog (cxB args) Ru:=by
 refine ⟨ours _ _ _ Tryz.func105 rfl (by kernel_rfl),fun xs hp w=>?_⟩
 obtain ⟨a,b,rfl⟩:=vo (f:=4) (by simp) hp
 exact OJ a b w hp.1 hp.2
theorem Q7 (args:List Int):aQ Tryz.prog (cxB args) Yg:=by
 refine ⟨ours _ _ _ Tryz.func99 rfl (by kernel_rfl),fun xs hp w=>?_⟩
 obtain ⟨a,b,rfl⟩:=vo (f:=5) (by simp) hp
 exact Gu a b w hp
theorem Po (args:List Int):aQ Tryz.prog (cxB args) XN:=by
 refine ⟨ours _ _ _ Tryz.func98 rfl (by kernel_rfl),fun xs hp w=>?_⟩
 obtain ⟨a,b,rfl⟩:=vo (f:=6) (by simp) hp
 exact xz a b w hp
theorem Lh (args:List Int):aQ Tryz.prog (cxB args) RN:=by
 refine ⟨ours _ _ _ Tryz.func102 rfl (by kernel_rfl),fun xs hp w=>?_⟩
 obtain ⟨a,b,c,d,rfl,h1,h2⟩:=zW (f:=7) (by simp) hp
 exact II a b c d w h1 h2
theorem jU (b:Bool):Value.bool (decide (b2i b≠0))=.bool b:=by rw [jr]
theorem Jv (args:List Int):aQ Tryz.prog (cxB args) Ny:=by
 refine ⟨ours _ _ _ Tryz.func207 rfl (by kernel_rfl),fun xs hp w=>?_⟩
 obtain ⟨a,b,rfl⟩:=vo (f:=8) (by simp) hp
 refine (dI a b w).mono ?_;rintro e w' ⟨he,hb⟩;exact ⟨by rw [he];exact congrArg Ending.returned (jU _).symm,hb⟩
theorem I4 (args:List Int):∀ s∈lL,aQ Tryz.prog (cxB args) s:=by
 intro s hs;simp only [lL,List.mem_cons,List.not_mem_nil,or_false] at hs;rcases hs with rfl|rfl|rfl|rfl|rfl|rfl|rfl|rfl|rfl
 . exact QE args
 . exact PL args
 . exact OI args
 . exact Dr args
 . exact ND args
 . exact Q7 args
 . exact Po args
 . exact Lh args
 . exact Jv args
end Go.Proofs.YtknhbpnclokciaaGreat
namespace Go.Proofs.YtknhbpnclokciaaGreat
open Go.RowKit Alm Sx
def Xv:Sx.Spec:=⟨276,0,[(true,[some .i64,some .i64]),(true,[some .i64,some .i64])],[(true,[some .i64,some .i64]),(false,[some .i64])]⟩
def Xf:Sx.Spec:=⟨220,1,[(true,[some .i64,some .i64]),(true,[some .i64,some .i64])],[(true,[some .i64,some .i64]),(false,[some .i64])]⟩
def XA:Sx.Spec:=⟨312,2,[(true,[some .i64,some .i64]),(true,[some .i64,some .i64])],[(true,[some .i64,some .i64]),(false,[some .i64])]⟩
def KJ:Sx.Spec:=⟨154,8,[(true,[some .i64,some .i64])],[(false,[none])]⟩
def l6:List Sx.Spec:=[Xv,Xf,XA,KJ]
theorem OX (args:List Int):aQ Tryz.prog (cxB args) Xv:=by
 refine ⟨ours _ _ _ Tryz.func276 rfl (by kernel_rfl),fun xs hp w=>?_⟩
 obtain ⟨a,b,c,d,rfl,h1,h2⟩:=zW (f:=0) (by simp) hp
 exact O5 a b c d w h1 h2
theorem OT (args:List Int):aQ Tryz.prog (cxB args) Xf:=by
 refine ⟨ours _ _ _ Tryz.func220 rfl (by kernel_rfl),fun xs hp w=>?_⟩
 obtain ⟨a,b,c,d,rfl,h1,h2⟩:=zW (f:=1) (by simp) hp
 exact Qe a b c d w h1 h2
theorem O3 (args:List Int):aQ Tryz.prog (cxB args) XA:=by
 refine ⟨ours _ _ _ Tryz.func312 rfl (by kernel_rfl),fun xs hp w=>?_⟩
 obtain ⟨a,b,c,d,rfl,h1,h2⟩:=zW (f:=2) (by simp) hp
 exact Qb a b c d w h1 h2
theorem Jw (args:List Int):aQ Tryz.prog (cxB args) KJ:=by
 refine ⟨ours _ _ _ Tryz.func154 rfl (by kernel_rfl),fun xs hp w=>?_⟩
 obtain ⟨a,b,rfl⟩:=vo (f:=8) (by simp) hp
 refine (Hq a b w).mono ?_;rintro e w' ⟨he,hb⟩;exact ⟨by rw [he];exact congrArg Ending.returned (jU _).symm,hb⟩
theorem Hr (args:List Int):∀ s∈l6,aQ Tryz.prog (cxB args) s:=by
 intro s hs;simp only [l6,List.mem_cons,List.not_mem_nil,or_false] at hs;rcases hs with rfl|rfl|rfl|rfl
 . exact OX args
 . exact OT args
 . exact O3 args
 . exact Jw args
theorem IB (args:List Int):∀ s∈lL++l6,aQ Tryz.prog (cxB args) s:=by
 intro s hs;rcases List.mem_append.1 hs with h|h
 . exact I4 args s h
 . exact Hr args s h
