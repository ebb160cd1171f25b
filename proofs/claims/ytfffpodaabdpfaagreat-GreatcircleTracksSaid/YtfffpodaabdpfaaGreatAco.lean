/- The known functions of great circles: arcsines and arccosines;small lemmas on nodes. -/
import Derived.Test.YtfffpodaabdpfaaGreatSpN
import Derived.Test.YtfffpodaabdpfaaGreatPAsin
import Derived.Test.YtfffpodaabdpfaaGreatAcos
import Derived.Test.YtfffpodaabdpfaaGreatEv
import Derived.Test.YtfffpodaabdpfaaGreatPlus
set_option linter.unusedVariables false
set_option linter.unusedSimpArgs false
namespace Go.Proofs.YtfffpodaabdpfaaGreat
open Go.RowKit Alm Sx
theorem norm_eq2 {X:Cx} {v:Nat→Int} {ext:Ext} (he:ExtOK X ext) {l:List Nd} (hs:SatN X v l.reverse) {ps:List (Nat × Rf)} (hp:∀ q ∈ ps,v q.1=q.2.val v) {k j:Nat} (h:Rf.eq ((norm ext ps [] l).rep (.n k)) ((norm ext ps [] l).rep (.n j))=true):v k=v j:=by
 have a:=rep_ok (norm_ok he hs hp nz_nil) (.n k)
 have b:=rep_ok (norm_ok he hs hp nz_nil) (.n j)
 rw [Rf.eq_eq h] at a
 exact a.symm.trans b
theorem bb2 {p q:Prop} [Decidable p] [Decidable q]:(if b2i (decide p)≠0 then b2i (decide q) else 0)=b2i (decide (p∧q)):=by
 by_cases h1:p<;>by_cases h2:q<;>simp [b2i,h1,h2]
theorem b2i_dec2 {p:Prop} [Decidable p] {x y:Int}:(if b2i (decide p)≠0 then x else y)=if p then x else y:=by
 by_cases h:p<;>simp [b2i,h]
theorem getD3 (x y z:Int):[x,y,z].getD 0 0=x∧[x,y,z].getD 1 0=y∧[x,y,z].getD 2 0=z:=⟨rfl,rfl,rfl⟩
def extN (t:Tab):Nd→Option Rf:=fun _=>none
theorem extN_ok (X:Cx):ExtOK X extN:=fun v t x r ht h=>by cases h
def kA (f:Nat):Bool:=f == 36 || f == 46
def semA:Nat→List Int→List Int
 | 36,[a,b]=>[if asnE a b=0 then asnL a else 0,if asnE a b=0 then asnH b else 0,asnE a b]
 | 46,[a,b]=>[acoL b,acoH a,0]
 | _,_=>[]
def preA:Nat→List Int→Prop
 | 36,[a,b]=>fxV a b=true
 | 46,[a,b]=>fxV a b=true∧a≤1073741824∧-1073741824≤b
 | _,_=>False
def cxA (args:List Int):Cx:=(cxB args).plus kA semA preA
theorem likeA0 (args:List Int):Like (cxB args):=⟨fun _ _ _=>rfl,fun _ _ _ h=>h⟩
theorem likeA (args:List Int):Like (cxA args):=like_plus (likeA0 args) fun f h=>by
 unfold kA
 rcases h with h | rfl
 · simp;omega
 · rfl
def extA (t:Tab):Nd→Option Rf
 | .app 46 2 [_,_]=>some (.c 0)
 | .app 20 0 []=>some (.c 1)
 | x=>extB t x
theorem extA_ok (args:List Int):ExtOK (cxA args) extA:=by
 intro v t x r ht h
 unfold extA at h
 split at h
 · cases h;rfl
 · cases h;rfl
 · exact extX_ok (likeA args) v t x r ht h
def sAsin36:Sx.Spec:=⟨145,36,[(true,[some .i64,some .i64])],[(true,[some .i64,some .i64]),(false,[some .i64])]⟩
def rAsin36:Sx.Spec:=⟨115,36,[(true,[some .i64,some .i64])],[(true,[some .i64,some .i64]),(false,[some .i64])]⟩
def sAcos46:Sx.Spec:=⟨125,46,[(true,[some .i64,some .i64])],[(true,[some .i64,some .i64]),(false,[some .i64])]⟩
def rAcos46:Sx.Spec:=⟨127,46,[(true,[some .i64,some .i64])],[(true,[some .i64,some .i64]),(false,[some .i64])]⟩
theorem rAsin36_ok (args:List Int):SpecOK Tryz.prog (cxA args) rAsin36:=by
 refine plus_new rfl (ours _ _ _ Tryz.func115 rfl (by kernel_rfl)) fun xs hp w=>?_
 match xs,hp with
 | [a,b],hp=>exact c_rAsin a b w hp
def spA1:List Sx.Spec:=[rAsin36]
theorem spA1_ok (args:List Int):∀ s ∈ spA1,SpecOK Tryz.prog (cxA args) s:=by
 intro s hs
 simp only [spA1,List.mem_cons,List.not_mem_nil,or_false] at hs
 rcases hs with rfl
 exact rAsin36_ok args
def nd_rAco:List Nd:=[
 .arg 0,
 .arg 1,
 .app 36 0 [.n 0,.n 1],
 .app 36 1 [.n 0,.n 1],
 .app 36 2 [.n 0,.n 1],
 .bin .neq .i64 (.n 4) (.c 0),
 .ite (.n 5) (.c 0) (.c 1),
 .bin .sub .i64 (.c 5400000) (.n 3),
 .bin .sub .i64 (.c 5400000) (.n 2),
 .ite (.n 5) (.n 4) (.c 0),
 .ite (.n 5) (.c 0) (.n 7),
 .ite (.n 5) (.c 0) (.n 8)]
def vc_rAco:List Vc:=[
 ⟨[],.pre 36 [.n 0,.n 1]⟩]
theorem wh_rAco:whole Tryz.prog spA1 20 40 127 [(true,[some .i64,some .i64])]=some (.tup [.agg [.int .i64 (.n 10),.int .i64 (.n 11)],.c (.int .i64 (.n 9))],⟨nd_rAco.reverse,vc_rAco.reverse⟩):=by kernel_rfl
theorem wf_rAco:wfN nd_rAco.reverse=true:=by kernel_rfl
set_option maxRecDepth 100000 in
theorem c_rAcos (a b:Int) (w:World) (ha:fxV a b=true) (h1:a≤1073741824) (h2:-1073741824≤b):Calls Tryz.prog 127 #[.agg #[.int .i64 a,.int .i64 b]] w fun e w'=>e=.returned (.tuple #[.agg #[.int .i64 (acoL b),.int .i64 (acoH a)],.int .i64 0])∧Below w.heap.size w w':=by
 refine Sx.calls (X:=cxA [a,b]) hmix (spA1_ok _) wh_rAco wf_rAco (fun v hs=>?_) w
 have e0:v 0=a:=satF hs 0 rfl
 have e1:v 1=b:=satF hs 1 rfl
 have e2:v 2=(semA 36 [v 0,v 1]).getD 0 0:=satF hs 2 rfl
 have e3:v 3=(semA 36 [v 0,v 1]).getD 1 0:=satF hs 3 rfl
 have e4:v 4=(semA 36 [v 0,v 1]).getD 2 0:=satF hs 4 rfl
 have e7:v 7=IntKind.i64.wrap ((5400000:Int) - v 3):=satF hs 7 rfl
 have e8:v 8=IntKind.i64.wrap ((5400000:Int) - v 2):=satF hs 8 rfl
 have hE:asnE (v 0) (v 1)=0:=by rw [e0,e1];exact if_pos ⟨h1,h2⟩
 have V2:v 2=asnL (v 0):=e2.trans (if_pos hE)
 have V3:v 3=asnH (v 1):=e3.trans (if_pos hE)
 have V4:v 4=0:=e4.trans hE
 have r1:=asinV_is (max (v 0) (-1073741824))
 have r2:=asinV_is (-(min (v 1) 1073741824))
 have b2:-5400000≤v 2∧v 2≤5400000:=by rw [V2];exact ⟨r1.1,r1.2.1⟩
 have b3:-5400000≤v 3∧v 3≤5400000:=by
  rw [V3]
  show -5400000≤-asinV _∧-asinV _≤5400000
  generalize asinV (-(min (v 1) 1073741824))=q at *
  omega
 have w7:v 7=acoL b:=by
  rw [e7,Go.IntWalk.i64_in _ (by omega),V3,e1]
  show 5400000 - -asinV (-(min b 1073741824))=5400000+asinV (-(minI b 1073741824))
  have m:minI b 1073741824=min b 1073741824:=by unfold minI;split<;>omega
  rw [m]
  generalize asinV (-(min b 1073741824))=q
  omega
 have w8:v 8=acoH a:=by
  rw [e8,Go.IntWalk.i64_in _ (by omega),V2,e0]
  show 5400000 - asinV (max a (-1073741824))=5400000 - asinV (maxI a (-1073741824))
  have m:maxI a (-1073741824)=max a (-1073741824):=by unfold maxI;split<;>omega
  rw [m]
 have z9:v 9=0:=norm_val (X:=cxA [a,b]) (v:=v) (l:=nd_rAco) (extA_ok _) hs (k:=9) (r:=.c 0) (ps:=[(4,.c 0)]) (nz:=[]) (ps_cons V4 ps_nil) nz_nil (by kernel_rfl)
 have z10:v 10=v 7:=norm_eq2 (X:=cxA [a,b]) (v:=v) (l:=nd_rAco) (extA_ok _) hs (k:=10) (j:=7) (ps:=[(4,.c 0)]) (ps_cons V4 ps_nil) (by kernel_rfl)
 have z11:v 11=v 8:=norm_eq2 (X:=cxA [a,b]) (v:=v) (l:=nd_rAco) (extA_ok _) hs (k:=11) (j:=8) (ps:=[(4,.c 0)]) (ps_cons V4 ps_nil) (by kernel_rfl)
 have P0:fxV (v 0) (v 1)=true:=by rw [e0,e1];exact ha
 refine ⟨vcs_rev ?_,?_⟩
 · exact vcs_cons (fun _=>P0) (vcs_nil)
 · intro x hx0
   have hx':=valV_of (v:=v) (by rfl) hx0
   rw [hx']
   show Value.tuple #[.agg #[.int .i64 (v 10),.int .i64 (v 11)],.int .i64 (v 9)]=_
   rw [z9,z10,z11,w7,w8]
def spAn:List Sx.Spec:=[sAsin36,rAsin36,sAcos46,rAcos46]
def spAc:List Sx.Spec:=spProg ++ spRef4 ++ spRef6 ++ spRef7 ++ spAn
theorem spAn_ok (args:List Int):∀ s ∈ spAn,SpecOK Tryz.prog (cxA args) s:=by
 intro s hs
 simp only [spAn,List.mem_cons,List.not_mem_nil,or_false] at hs
 rcases hs with rfl | rfl | rfl | rfl
 · refine plus_new rfl (ours _ _ _ Tryz.func145 rfl (by kernel_rfl)) fun xs hp w=>?_
   match xs,hp with
   | [a,b],hp=>exact c_pAsin a b w hp
 · exact rAsin36_ok args
 · refine plus_new rfl (ours _ _ _ Tryz.func125 rfl (by kernel_rfl)) fun xs hp w=>?_
   match xs,hp with
   | [a,b],hp=>exact c_Acos a b w hp.1 hp.2.1 hp.2.2
 · refine plus_new rfl (ours _ _ _ Tryz.func127 rfl (by kernel_rfl)) fun xs hp w=>?_
   match xs,hp with
   | [a,b],hp=>exact c_rAcos a b w hp.1 hp.2.1 hp.2.2
theorem spAc_k (k:Nat→Bool) (h:∀ f,f≤8∨f=36∨f=46→k f=false):∀ s ∈ spAc,k s.id=false:=by
 intro s hs
 apply h
 simp only [spAc,spProg,spRef4,spRef6,spRef7,spAn,List.mem_append,List.mem_cons,List.not_mem_nil,or_false] at hs
 rcases hs with (((h | h) | h) | h) | h
 · rcases h with rfl | rfl | rfl | rfl | rfl | rfl | rfl | rfl | rfl<;>decide
 · rcases h with rfl | rfl | rfl | rfl<;>decide
 · rcases h with rfl | rfl<;>decide
 · rcases h with rfl | rfl | rfl<;>decide
 · rcases h with rfl | rfl | rfl | rfl<;>decide
theorem spAc_ok (args:List Int):∀ s ∈ spAc,SpecOK Tryz.prog (cxA args) s:=by
 intro s hs
 rcases List.mem_append.1 hs with h | h
 · have q:kA s.id=false:=by
    simp only [spProg,spRef4,spRef6,spRef7,List.mem_append,List.mem_cons,List.not_mem_nil,or_false] at h
    rcases h with ((h | h) | h) | h
    · rcases h with rfl | rfl | rfl | rfl | rfl | rfl | rfl | rfl | rfl<;>rfl
    · rcases h with rfl | rfl | rfl | rfl<;>rfl
    · rcases h with rfl | rfl<;>rfl
    · rcases h with rfl | rfl | rfl<;>rfl
   refine plus_old q ?_
   rcases List.mem_append.1 h with h | h
   · rcases List.mem_append.1 h with h | h
     · exact spBoth_ok args s h
     · exact spRef6_ok args s h
   · exact spRef7_ok args s h
 · exact spAn_ok args s h
end Go.Proofs.YtfffpodaabdpfaaGreat
