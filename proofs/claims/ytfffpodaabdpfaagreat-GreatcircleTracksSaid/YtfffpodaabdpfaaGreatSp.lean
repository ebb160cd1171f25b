/- The known functions of the symbolic runs: what they return,what they ask. -/
import Derived.Test.YtfffpodaabdpfaaGreatSxL
import Derived.Test.YtfffpodaabdpfaaGreatVecs
import Derived.Test.YtfffpodaabdpfaaGreatArc8
set_option linter.unusedVariables false
namespace Go.Proofs.YtfffpodaabdpfaaGreat
open Go.RowKit Alm Sx
def fit3 (L H:Int):List Int:=[fxfL L H,fxfH L H,fxfE L H]
def semB:Nat→List Int→List Int
 | 0,[a,b,c,d]=>fit3 (mulL a b c d) (mulH a b c d)
 | 1,[a,b,c,d]=>fit3 (a+c) (b+d)
 | 2,[a,b,c,d]=>fit3 (a - d) (b - c)
 | 3,[a,b]=>fit3 (sqL a b) (sqH a b)
 | 4,[a,b]=>fit3 (rtL a b) (rtH a b)
 | 5,[a,b]=>[enLo a b,enHi a b,0]
 | 6,[a,b]=>[enLo (a+5400000) (b+5400000),enHi (a+5400000) (b+5400000),0]
 | 7,[a,b,c,d]=>[bearL a b c d,bearH a b c d,0]
 | 8,[a,b]=>[b2i (fxV a b)]
 | 20,[]=>[1]
 | _,_=>[]
def preB:Nat→List Int→Prop
 | 0,[a,b,c,d]=>fxV a b=true∧fxV c d=true
 | 1,[a,b,c,d]=>fxV a b=true∧fxV c d=true
 | 2,[a,b,c,d]=>fxV a b=true∧fxV c d=true
 | 3,[a,b]=>fxV a b=true
 | 4,[a,b]=>fxV a b=true∧0≤b
 | 5,[a,b]=>arcV a b=true
 | 6,[a,b]=>arcV a b=true
 | 7,[a,b,c,d]=>fxV a b=true∧fxV c d=true
 | 8,[_,_]=>True
 | 20,[]=>True
 | _,_=>False
def cxB (args:List Int):Cx:=⟨semB,preB,args⟩
theorem pre4 {f:Nat} {xs:List Int} (h:f=0∨f=1∨f=2∨f=7) (hp:preB f xs):∃ a b c d,xs=[a,b,c,d]∧fxV a b=true∧fxV c d=true:=by
 rcases h with rfl | rfl | rfl | rfl <;>
 · match xs,hp with
   | [a,b,c,d],hp=>exact ⟨a,b,c,d,rfl,hp⟩
theorem pre2 {f:Nat} {xs:List Int} (h:f=3∨f=4∨f=5∨f=6∨f=8) (hp:preB f xs):∃ a b,xs=[a,b]:=by
 rcases h with rfl | rfl | rfl | rfl | rfl <;>
 · match xs,hp with
   | [a,b],hp=>exact ⟨a,b,rfl⟩
theorem pre0 {xs:List Int} (hp:preB 20 xs):xs=[]:=by
 match xs,hp with
 | [],_=>rfl
theorem fit_e (L H:Int):(fxfE L H=0∨fxfE L H=5)∧(fxfE L H≠0→fxfL L H=0∧fxfH L H=0)∧fxV (fxfL L H) (fxfH L H)=true:=by
 unfold fxfE fxfL fxfH
 split
 · rename_i h;exact ⟨Or.inl rfl,fun h=>absurd rfl h,(fxV_iff _ _).2 h⟩
 · exact ⟨Or.inr rfl,fun _=>⟨rfl,rfl⟩,by decide⟩
theorem fit_ite {c E L:Int} (hc:c=b2i (E != 0)) (h:E≠0→L=0):(if c≠0 then 0 else L)=L:=by
 split
 · rename_i h1
   rw [hc,b2i_iff] at h1
   exact (h (by simpa using h1)).symm
 · rfl
theorem keep_ite {c E:Int} (hc:c=b2i (E != 0)):(if c≠0 then E else 0)=E:=by
 split
 · rfl
 · rename_i h1
   rw [hc] at h1
   by_cases h:E=0
   · exact h.symm
   · exact absurd (by simp [b2i,h]) h1
theorem sem_fit0 (a b c d:Int) (h:(semB 0 [a,b,c,d]).getD 2 0≠0):(semB 0 [a,b,c,d]).getD 0 0=0∧(semB 0 [a,b,c,d]).getD 1 0=0:=(fit_e _ _).2.1 h
theorem sem_fitV0 (a b c d:Int):fxV ((semB 0 [a,b,c,d]).getD 0 0) ((semB 0 [a,b,c,d]).getD 1 0)=true:=(fit_e _ _).2.2
theorem sem_fit1 (a b c d:Int) (h:(semB 1 [a,b,c,d]).getD 2 0≠0):(semB 1 [a,b,c,d]).getD 0 0=0∧(semB 1 [a,b,c,d]).getD 1 0=0:=(fit_e _ _).2.1 h
theorem sem_fitV1 (a b c d:Int):fxV ((semB 1 [a,b,c,d]).getD 0 0) ((semB 1 [a,b,c,d]).getD 1 0)=true:=(fit_e _ _).2.2
theorem sem_fit2 (a b c d:Int) (h:(semB 2 [a,b,c,d]).getD 2 0≠0):(semB 2 [a,b,c,d]).getD 0 0=0∧(semB 2 [a,b,c,d]).getD 1 0=0:=(fit_e _ _).2.1 h
theorem sem_fitV4 (a b:Int):fxV ((semB 4 [a,b]).getD 0 0) ((semB 4 [a,b]).getD 1 0)=true:=(fit_e _ _).2.2
end Go.Proofs.YtfffpodaabdpfaaGreat
set_option linter.unusedVariables false
namespace Go.Proofs.YtfffpodaabdpfaaGreat
open Go.RowKit Alm Sx
theorem hmix:Tryz.prog.follows .mixedOrders=true:=by kernel_rfl
theorem ours (f : Nat) (fn : Func) (c : Code) (h1 : Tryz.prog.funcs[f]? = some fn) (h2 : fn.body = some c) (h3 : (fn.name == "runtime.NumGoroutine") = false) : Ours Tryz.prog f := ⟨fn, c, h1, h2, h3⟩
def sMul:Sx.Spec:=⟨261,0,[(true,[some .i64,some .i64]),(true,[some .i64,some .i64])],[(true,[some .i64,some .i64]),(false,[some .i64])]⟩
def sAdd:Sx.Spec:=⟨101,1,[(true,[some .i64,some .i64]),(true,[some .i64,some .i64])],[(true,[some .i64,some .i64]),(false,[some .i64])]⟩
def sSub:Sx.Spec:=⟨260,2,[(true,[some .i64,some .i64]),(true,[some .i64,some .i64])],[(true,[some .i64,some .i64]),(false,[some .i64])]⟩
def sSquare:Sx.Spec:=⟨100,3,[(true,[some .i64,some .i64])],[(true,[some .i64,some .i64]),(false,[some .i64])]⟩
def sSqrt:Sx.Spec:=⟨102,4,[(true,[some .i64,some .i64])],[(true,[some .i64,some .i64]),(false,[some .i64])]⟩
def sSin:Sx.Spec:=⟨96,5,[(true,[some .i64,some .i64])],[(true,[some .i64,some .i64]),(false,[some .i64])]⟩
def sCos:Sx.Spec:=⟨95,6,[(true,[some .i64,some .i64])],[(true,[some .i64,some .i64]),(false,[some .i64])]⟩
def sBear:Sx.Spec:=⟨79,7,[(true,[some .i64,some .i64]),(true,[some .i64,some .i64])],[(true,[some .i64,some .i64]),(false,[some .i64])]⟩
def sValid:Sx.Spec:=⟨212,8,[(true,[some .i64,some .i64])],[(false,[none])]⟩
def spProg:List Sx.Spec:=[sMul,sAdd,sSub,sSquare,sSqrt,sSin,sCos,sBear,sValid]
theorem sMul_ok (args:List Int):SpecOK Tryz.prog (cxB args) sMul:=by
 refine ⟨ours _ _ _ Tryz.func261 rfl (by kernel_rfl),fun xs hp w=>?_⟩
 obtain ⟨a,b,c,d,rfl,h1,h2⟩:=pre4 (f:=0) (by simp) hp
 exact c_fMul a b c d w h1 h2
theorem sAdd_ok (args:List Int):SpecOK Tryz.prog (cxB args) sAdd:=by
 refine ⟨ours _ _ _ Tryz.func101 rfl (by kernel_rfl),fun xs hp w=>?_⟩
 obtain ⟨a,b,c,d,rfl,h1,h2⟩:=pre4 (f:=1) (by simp) hp
 exact c_fAdd a b c d w h1 h2
theorem sSub_ok (args:List Int):SpecOK Tryz.prog (cxB args) sSub:=by
 refine ⟨ours _ _ _ Tryz.func260 rfl (by kernel_rfl),fun xs hp w=>?_⟩
 obtain ⟨a,b,c,d,rfl,h1,h2⟩:=pre4 (f:=2) (by simp) hp
 exact c_fSub a b c d w h1 h2
theorem sSquare_ok (args:List Int):SpecOK Tryz.prog (cxB args) sSquare:=by
 refine ⟨ours _ _ _ Tryz.func100 rfl (by kernel_rfl),fun xs hp w=>?_⟩
 obtain ⟨a,b,rfl⟩:=pre2 (f:=3) (by simp) hp
 exact c_fSquare a b w hp
theorem sSqrt_ok (args:List Int):SpecOK Tryz.prog (cxB args) sSqrt:=by
 refine ⟨ours _ _ _ Tryz.func102 rfl (by kernel_rfl),fun xs hp w=>?_⟩
 obtain ⟨a,b,rfl⟩:=pre2 (f:=4) (by simp) hp
 exact c_fSqrt a b w hp.1 hp.2
theorem sSin_ok (args:List Int):SpecOK Tryz.prog (cxB args) sSin:=by
 refine ⟨ours _ _ _ Tryz.func96 rfl (by kernel_rfl),fun xs hp w=>?_⟩
 obtain ⟨a,b,rfl⟩:=pre2 (f:=5) (by simp) hp
 exact c_Sin a b w hp
theorem sCos_ok (args:List Int):SpecOK Tryz.prog (cxB args) sCos:=by
 refine ⟨ours _ _ _ Tryz.func95 rfl (by kernel_rfl),fun xs hp w=>?_⟩
 obtain ⟨a,b,rfl⟩:=pre2 (f:=6) (by simp) hp
 exact c_Cos a b w hp
theorem sBear_ok (args:List Int):SpecOK Tryz.prog (cxB args) sBear:=by
 refine ⟨ours _ _ _ Tryz.func79 rfl (by kernel_rfl),fun xs hp w=>?_⟩
 obtain ⟨a,b,c,d,rfl,h1,h2⟩:=pre4 (f:=7) (by simp) hp
 exact c_Bearing a b c d w h1 h2
theorem bool_b2i (b:Bool):Value.bool (decide (b2i b≠0))=.bool b:=by rw [b2i_ne]
theorem sValid_ok (args:List Int):SpecOK Tryz.prog (cxB args) sValid:=by
 refine ⟨ours _ _ _ Tryz.func212 rfl (by kernel_rfl),fun xs hp w=>?_⟩
 obtain ⟨a,b,rfl⟩:=pre2 (f:=8) (by simp) hp
 refine (c_fValid a b w).mono ?_
 rintro e w' ⟨he,hb⟩
 exact ⟨by rw [he];exact congrArg Ending.returned (bool_b2i _).symm,hb⟩
theorem spProg_ok (args:List Int):∀ s ∈ spProg,SpecOK Tryz.prog (cxB args) s:=by
 intro s hs
 simp only [spProg,List.mem_cons,List.not_mem_nil,or_false] at hs
 rcases hs with rfl | rfl | rfl | rfl | rfl | rfl | rfl | rfl | rfl
 · exact sMul_ok args
 · exact sAdd_ok args
 · exact sSub_ok args
 · exact sSquare_ok args
 · exact sSqrt_ok args
 · exact sSin_ok args
 · exact sCos_ok args
 · exact sBear_ok args
 · exact sValid_ok args
end Go.Proofs.YtfffpodaabdpfaaGreat
set_option linter.unusedVariables false
namespace Go.Proofs.YtfffpodaabdpfaaGreat
open Go.RowKit Alm Sx
def rMul:Sx.Spec:=⟨257,0,[(true,[some .i64,some .i64]),(true,[some .i64,some .i64])],[(true,[some .i64,some .i64]),(false,[some .i64])]⟩
def rAdd:Sx.Spec:=⟨221,1,[(true,[some .i64,some .i64]),(true,[some .i64,some .i64])],[(true,[some .i64,some .i64]),(false,[some .i64])]⟩
def rSub:Sx.Spec:=⟨258,2,[(true,[some .i64,some .i64]),(true,[some .i64,some .i64])],[(true,[some .i64,some .i64]),(false,[some .i64])]⟩
def rValid:Sx.Spec:=⟨82,8,[(true,[some .i64,some .i64])],[(false,[none])]⟩
def spRef4:List Sx.Spec:=[rMul,rAdd,rSub,rValid]
theorem rMul_ok (args:List Int):SpecOK Tryz.prog (cxB args) rMul:=by
 refine ⟨ours _ _ _ Tryz.func257 rfl (by kernel_rfl),fun xs hp w=>?_⟩
 obtain ⟨a,b,c,d,rfl,h1,h2⟩:=pre4 (f:=0) (by simp) hp
 exact c_r4Mul a b c d w h1 h2
theorem rAdd_ok (args:List Int):SpecOK Tryz.prog (cxB args) rAdd:=by
 refine ⟨ours _ _ _ Tryz.func221 rfl (by kernel_rfl),fun xs hp w=>?_⟩
 obtain ⟨a,b,c,d,rfl,h1,h2⟩:=pre4 (f:=1) (by simp) hp
 exact c_r4Add a b c d w h1 h2
theorem rSub_ok (args:List Int):SpecOK Tryz.prog (cxB args) rSub:=by
 refine ⟨ours _ _ _ Tryz.func258 rfl (by kernel_rfl),fun xs hp w=>?_⟩
 obtain ⟨a,b,c,d,rfl,h1,h2⟩:=pre4 (f:=2) (by simp) hp
 exact c_r4Sub a b c d w h1 h2
theorem rValid_ok (args:List Int):SpecOK Tryz.prog (cxB args) rValid:=by
 refine ⟨ours _ _ _ Tryz.func82 rfl (by kernel_rfl),fun xs hp w=>?_⟩
 obtain ⟨a,b,rfl⟩:=pre2 (f:=8) (by simp) hp
 refine (c_r4Valid a b w).mono ?_
 rintro e w' ⟨he,hb⟩
 exact ⟨by rw [he];exact congrArg Ending.returned (bool_b2i _).symm,hb⟩
theorem spRef4_ok (args:List Int):∀ s ∈ spRef4,SpecOK Tryz.prog (cxB args) s:=by
 intro s hs
 simp only [spRef4,List.mem_cons,List.not_mem_nil,or_false] at hs
 rcases hs with rfl | rfl | rfl | rfl
 · exact rMul_ok args
 · exact rAdd_ok args
 · exact rSub_ok args
 · exact rValid_ok args
theorem spBoth_ok (args:List Int):∀ s ∈ spProg ++ spRef4,SpecOK Tryz.prog (cxB args) s:=by
 intro s hs
 rcases List.mem_append.1 hs with h | h
 · exact spProg_ok args s h
 · exact spRef4_ok args s h
end Go.Proofs.YtfffpodaabdpfaaGreat
