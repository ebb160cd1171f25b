/- The statement 'ReckoningOrder': proved off the law's contract. -/
import Derived.Test.YtgmncdmcdgkodaaGreatRows
import Derived.Test.YtgmncdmcdgkodaaGreatZFrame
import Derived.Test.YtgmncdmcdgkodaaGreatZShut
import Derived.Test.YtgmncdmcdgkodaaGreatZLawRO
set_option linter.unusedVariables false
set_option linter.unusedSimpArgs false
set_option maxRecDepth 100000
namespace Go.Proofs.YtgmncdmcdgkodaaGreat
open Go Go.ChangeShapes Go.WideShapes Go.ChangeAt Go.RowKit Go.Joins Go.Deep Go.WideElems Alm
theorem own:ownKnob Tryz.prog.godebug=none:=by kernel_rfl
theorem lI:Sx.shA Tryz.prog 8 [ 41,5]=some [(true,[some .i64,some .i64,some .i64,some .i64]),(false,[some .u8])]:=by decide +kernel
theorem rQ:∀ (l:List Int),l.length=5->∃ a0 a1 a2 a3 a4,l=[a0,a1,a2,a3,a4]:=by
 intro l h
 match l,h with
 | [a0,a1,a2,a3,a4],_=>exact ⟨a0,a1,a2,a3,a4,rfl⟩
theorem lifted (os:Os) (started:os.Started) (H:Type) (enc:TypeId × Value->H) :
 ReturnsInHanded {} Tryz.checked os 4 .any (Rows.reckoningOrderSpec.pre6 enc Tryz.prog Tryz.f4 Rows.reckoningOrderRow.domain false) (Rows.reckoningOrderSpec.post enc Tryz.prog Tryz.f4 false true false false):=by
 refine returnsInHanded_of_change (C:=Tryz.checked) own started (by kernel_rfl) Tryz.func4
  (ChangeSpec.witness6 (enc:=enc) (C:=Tryz.checked) false ⟨#[],#[.agg #[.int .i64 0,.int .i64 0,.int .i64 0,.int .i64 0],.slice none 0 0,.int .u8 0],[]⟩ 8 (by kernel_rfl) (by kernel_rfl) (by kernel_rfl) (by kernel_rfl)) ?_
 intro W base args ds gs before hval0 hW hcnd _;have hval:∀ (j:Nat) t v,Tryz.f4.params[j]? = some t->args[j]? = some v->Value.okWide Tryz.prog W .any base t v:=hval0;have hW':=hW;obtain ⟨p,q,hA0,hV,rfl,hfz,hnd⟩:=hW;have hA:DataW.TrodAll enc Tryz.prog W 0 (fun _=>true) true Tryz.f4.params.toList args.toList ds p:=hA0
 rw [Tryz.params4] at hA hval;obtain ⟨v0,v1,v2,d0,d1,d2,p0,p1,p2,rfl,rfl,rfl,h0,h1,h2⟩:=trodAll_three hA;obtain ⟨rfl,rfl⟩:=trodVars_none hV
 obtain ⟨xs,hx,hl1,hok,hp12,hstay⟩:=Sx.args_plain 8 [ 41,5] [v0,v2] [d0,d2] (p0++p2) _ lI (trodAll_mk2 h0 h2) (fun j t v e1 e2=>by
  match j,e1,e2 with
  | 0,e1,e2=>exact hval 0 t v e1 e2
  | 1,e1,e2=>exact hval 2 t v e1 e2
  | n+2,e1,_=>simp at e1)
 obtain ⟨hp1,hp2⟩:=List.append_eq_nil_iff.1 hp12;subst hp1 hp2;obtain ⟨a0,a1,a2,a3,a4,rfl⟩:=rQ xs hl1
 have hv02:v0=.agg #[.int .i64 a0,.int .i64 a1,.int .i64 a2,.int .i64 a3]/\v2=.int .u8 a4:=by
  have:[v0,v2]=[.agg #[.int .i64 a0,.int .i64 a1,.int .i64 a2,.int .i64 a3],.int .u8 a4]:=hx
  injection this with e1 e2
  injection e2 with e2 _
  exact ⟨e1,e2⟩
 obtain ⟨rfl,rfl⟩:=hv02;have hw4:(Lit.int .u8 a4).wf=true:=hok.2.1.1;have h1':=h1;have hpl:∀ x∈p1,x.block<W.heap.size:=fun x hx=>hW'.lt x (by simp [hx])
 obtain ⟨fuel,hf⟩:=h1
 have hv1:v1.cells.toList=[v1]:=by
  obtain ⟨a,n,c,rfl⟩:=okWide_slice Tryz.underlying28 (hval 1 28 v1 rfl rfl);rfl
 rw [hv1] at hf;obtain ⟨a,cap,L,rfl,hl,hm,hL,hnil⟩:=pV hf;clear hA0 hval0;simp only [List.append_nil,List.nil_append] at hW'
 refine (DU a cap L a0 a1 a2 a3 a4 W hL hl hnil (bounds_u8 hw4)).mono fun e W' ⟨he,hw⟩=>?_
 subst he
 exact ⟨_,rfl,Sx.post_below (pa:=p1) (pv:=[]) hW' (fun _ _ _=>trodAll_mk1 (shut_bool Tryz.underlying4 _))
  (fun sp hsp=>by
   have H1:=Trod_stays laid Fq Iw h1' (fun x hx=>hw.same (hpl x hx)) (fun x hx=>hsp x (by simpa using hx))
   obtain ⟨w0,w0s,e0,e0s,q0,r0,ev,ed,ep,t0,T⟩:=trodAll_cons (hstay W' 0 sp true);cases ev;cases ed;obtain ⟨w1,w1s,e1,e1s,q1,r1,ev,ed,ep1,t1,T⟩:=trodAll_cons T;cases ev;cases ed;obtain ⟨rfl,rfl⟩:=List.append_eq_nil_iff.1 ep.symm;obtain ⟨rfl,rfl⟩:=List.append_eq_nil_iff.1 ep1.symm;have A:=trodAll_cons_mk t0 (trodAll_cons_mk H1 (trodAll_cons_mk t1 trodAll_mk0));simp only [List.append_nil,List.nil_append] at A;exact A) (fun _ _=>rfl) (by simp) hw
  (ok_one (by kernel_rfl) rfl (okWide_bool_mk Tryz.underlying4 true))⟩
theorem reckoningOrder_holds:Rows.ReckoningOrderSaid :=
 OpenClaim.holds_of_wide 4 Tryz.f4 rfl rfl rfl rfl rfl rfl rfl ⟨rfl,rfl,rfl,rfl,rfl⟩ rfl rfl rfl rfl rfl (by kernel_rfl) Tryz.func4 (by kernel_rfl)
  (of_decide_eq_true (by kernel_rfl)) (by unfold Func.isWrapper;rw [if_neg (of_decide_eq_false (by kernel_rfl))];exact ⟨rfl,rfl⟩)
  (fun os started H enc _=>lifted os started H enc)
