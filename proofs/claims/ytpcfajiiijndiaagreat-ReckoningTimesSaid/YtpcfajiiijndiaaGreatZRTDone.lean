/- The statement 'ReckoningTimes': proved off the law's contract. -/
import Derived.Test.YtpcfajiiijndiaaGreatRows
import Derived.Test.YtpcfajiiijndiaaGreatZFrame
import Derived.Test.YtpcfajiiijndiaaGreatZShut
import Derived.Test.YtpcfajiiijndiaaGreatZTm1
set_option linter.unusedVariables false
set_option linter.unusedSimpArgs false
set_option maxRecDepth 100000
namespace Go.Proofs.YtpcfajiiijndiaaGreat
open Go Go.ChangeShapes Go.WideShapes Go.ChangeAt Go.RowKit Go.Joins Go.Deep Go.WideElems Alm
theorem own:ownKnob Tryz.prog.godebug=none:=by kernel_rfl
theorem xW:Sx.shA Tryz.prog 8 [ 23,26]=some [(true,[some .i64,some .i64]),(true,[some .i64,some .i64])]:=by decide +kernel
theorem Au:∀ (l:List Int),l.length=4->∃ a0 a1 a2 a3,l=[a0,a1,a2,a3]:=by
 intro l h
 match l,h with
 | [a0,a1,a2,a3],_=>exact ⟨a0,a1,a2,a3,rfl⟩
theorem lifted (os:Os) (started:os.Started) (H:Type) (enc:TypeId × Value->H) :
 ReturnsInHanded {} Tryz.checked os 4 .any (Rows.reckoningTimesSpec.pre6 enc Tryz.prog Tryz.f4 Rows.reckoningTimesRow.domain false) (Rows.reckoningTimesSpec.post enc Tryz.prog Tryz.f4 false true false false):=by
 refine returnsInHanded_of_change (C:=Tryz.checked) own started (by kernel_rfl) Tryz.func4
  (ChangeSpec.witness6 (enc:=enc) (C:=Tryz.checked) false ⟨#[],#[.slice none 0 0,.agg #[.int .i64 0,.int .i64 0],.agg #[.int .i64 0,.int .i64 0]],[]⟩ 8 (by kernel_rfl) (by kernel_rfl) (by kernel_rfl) (by kernel_rfl)) ?_
 intro W base args ds gs before hval0 hW hcnd _;have hval:∀ (j:Nat) t v,Tryz.f4.params[j]? = some t->args[j]? = some v->Value.okWide Tryz.prog W .any base t v:=hval0;have hW':=hW;obtain ⟨p,q,hA0,hV,rfl,hfz,hnd⟩:=hW;have hA:DataW.TrodAll enc Tryz.prog W 0 (fun _=>true) true Tryz.f4.params.toList args.toList ds p:=hA0
 rw [Tryz.params4] at hA hval;obtain ⟨v0,v1,v2,d0,d1,d2,p0,p1,p2,rfl,rfl,rfl,h0,h1,h2⟩:=trodAll_three hA;obtain ⟨rfl,rfl⟩:=trodVars_none hV
 obtain ⟨xs,hx,hl1,hok,hp12,hstay⟩:=Sx.args_plain 8 [ 23,26] [v1,v2] [d1,d2] (p1++p2) _ xW (trodAll_mk2 h1 h2) (fun j t v e1 e2=>by
  match j,e1,e2 with
  | 0,e1,e2=>exact hval 1 t v e1 e2
  | 1,e1,e2=>exact hval 2 t v e1 e2
  | n+2,e1,_=>simp at e1)
 obtain ⟨hp1,hp2⟩:=List.append_eq_nil_iff.1 hp12;subst hp1 hp2;obtain ⟨a0,a1,a2,a3,rfl⟩:=Au xs hl1
 have hv12:v1=.agg #[.int .i64 a0,.int .i64 a1]/\v2=.agg #[.int .i64 a2,.int .i64 a3]:=by
  have:[v1,v2]=[.agg #[.int .i64 a0,.int .i64 a1],.agg #[.int .i64 a2,.int .i64 a3]]:=hx
  injection this with e1 e2
  injection e2 with e2 _
  exact ⟨e1,e2⟩
 obtain ⟨rfl,rfl⟩:=hv12;have h0':=h0;have hpl:∀ x∈p0,x.block<W.heap.size:=fun x hx=>hW'.lt x (by simp [hx])
 obtain ⟨fuel,hf⟩:=h0
 have hv0:v0.cells.toList=[v0]:=by
  obtain ⟨a,n,c,rfl⟩:=okWide_slice Tryz.underlying36 (hval 0 36 v0 rfl rfl);rfl
 rw [hv0] at hf;obtain ⟨a,cap,L,rfl,hl,hm,hL,hnil⟩:=Hy hf;clear hA0 hval0;simp only [List.append_nil] at hW'
 refine (Im a cap L a0 a1 a2 a3 W hL).mono fun e W' ⟨he,hw⟩=>?_
 subst he
 exact ⟨_,rfl,Sx.post_below (pa:=p0) (pv:=[]) hW' (fun _ _ _=>trodAll_mk1 (shut_bool Tryz.underlying4 _))
  (fun sp hsp=>by
   exact ⟨p0,[],Trod_stays laid IA IG h0' (fun x hx=>hw.same (hpl x hx)) (fun x hx=>hsp x (by simpa using hx)),hstay _ _ _ _,by simp⟩) (fun _ _=>rfl) (by simp) hw
  (ok_one (by kernel_rfl) rfl (okWide_bool_mk Tryz.underlying4 true))⟩
theorem reckoningTimes_holds:Rows.ReckoningTimesSaid :=
 OpenClaim.holds_of_wide 4 Tryz.f4 rfl rfl rfl rfl rfl rfl rfl ⟨rfl,rfl,rfl,rfl,rfl⟩ rfl rfl rfl rfl rfl (by kernel_rfl) Tryz.func4 (by kernel_rfl)
  (of_decide_eq_true (by kernel_rfl)) (by unfold Func.isWrapper;rw [if_neg (of_decide_eq_false (by kernel_rfl))];exact ⟨rfl,rfl⟩)
  (fun os started H enc _=>lifted os started H enc)
