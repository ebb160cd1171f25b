/- The statement 'ReckoningLater': proved off the law's contract. -/
import Derived.Test.YtgmncdmcdgkodaaGreatRows
import Derived.Test.YtgmncdmcdgkodaaGreatZFrame
import Derived.Test.YtgmncdmcdgkodaaGreatZShut
import Derived.Test.YtgmncdmcdgkodaaGreatZLawLv
set_option linter.unusedVariables false
set_option linter.unusedSimpArgs false
set_option maxRecDepth 100000
namespace Go.Proofs.YtgmncdmcdgkodaaGreat
open Go Go.ChangeShapes Go.WideShapes Go.ChangeAt Go.RowKit Go.Joins Go.Deep Go.WideElems Alm
theorem own:ownKnob Tryz.prog.godebug=none:=by kernel_rfl
theorem lI:Sx.shA Tryz.prog 8 [ 25,26,26,27]=some [(true,[some .i64,some .i64,some .i64,some .i64]),(true,[some .i64,some .i64]),(true,[some .i64,some .i64]),(false,[some .u32])]:=by decide +kernel
theorem rQ:∀ (l:List Int),l.length=9->∃ a0 a1 a2 a3 a4 a5 a6 a7 a8,l=[a0,a1,a2,a3,a4,a5,a6,a7,a8]:=by
 intro l h
 match l,h with
 | [a0,a1,a2,a3,a4,a5,a6,a7,a8],_=>exact ⟨a0,a1,a2,a3,a4,a5,a6,a7,a8,rfl⟩
theorem lifted (os:Os) (started:os.Started) (H:Type) (enc:TypeId × Value->H) :
 ReturnsInHanded {} Tryz.checked os 3 .any (Rows.reckoningLaterSpec.pre6 enc Tryz.prog Tryz.f3 Rows.reckoningLaterRow.domain false) (Rows.reckoningLaterSpec.post enc Tryz.prog Tryz.f3 false true false false):=by
 refine returnsInHanded_of_change (C:=Tryz.checked) own started (by kernel_rfl) Tryz.func3
  (ChangeSpec.witness6 (enc:=enc) (C:=Tryz.checked) false ⟨#[],#[.agg #[.int .i64 0,.int .i64 0,.int .i64 0,.int .i64 0],.agg #[.int .i64 0,.int .i64 0],.agg #[.int .i64 0,.int .i64 0],.int .u32 0,.slice none 0 0],[]⟩ 8 (by kernel_rfl) (by kernel_rfl) (by kernel_rfl) (by kernel_rfl)) ?_
 intro W base args ds gs before hval0 hW hcnd _;have hval:∀ (j:Nat) t v,Tryz.f3.params[j]? = some t->args[j]? = some v->Value.okWide Tryz.prog W .any base t v:=hval0;have hW':=hW;obtain ⟨p,q,hA0,hV,rfl,hfz,hnd⟩:=hW;have hA:DataW.TrodAll enc Tryz.prog W 0 (fun _=>true) true Tryz.f3.params.toList args.toList ds p:=hA0
 rw [Tryz.params3] at hA hval;obtain ⟨v0,r0,d0,e0,p0,q0,harg,rfl,rfl,h0,hA1⟩:=trodAll_cons hA;obtain ⟨v1,r1,d1,e1,p1,q1,rfl,rfl,rfl,h1,hA2⟩:=trodAll_cons hA1;obtain ⟨v2,r2,d2,e2,p2,q2,rfl,rfl,rfl,h2,hA3⟩:=trodAll_cons hA2;obtain ⟨v3,r3,d3,e3,p3,q3,rfl,rfl,rfl,h3,hA4⟩:=trodAll_cons hA3;obtain ⟨v4,r4,d4,e4,p4,q4,rfl,rfl,rfl,h4,hA5⟩:=trodAll_cons hA4;obtain ⟨rfl,rfl,rfl⟩:=trodAll_nil hA5;obtain ⟨rfl,rfl⟩:=trodVars_none hV;obtain rfl:args=#[v0,v1,v2,v3,v4]:=by cases args;simp_all
 obtain ⟨xs,hx,hl1,hok,hp,hstay⟩:=Sx.args_plain 8 [ 25,26,26,27] [v0,v1,v2,v3] [d0,d1,d2,d3] _ _ lI (trodAll_cons_mk h0 (trodAll_cons_mk h1 (trodAll_cons_mk h2 (trodAll_cons_mk h3 trodAll_mk0)))) (fun j t v e1 e2=>by
  match j,e1,e2 with
  | 0,e1,e2=>exact hval 0 t v e1 e2
  | 1,e1,e2=>exact hval 1 t v e1 e2
  | 2,e1,e2=>exact hval 2 t v e1 e2
  | 3,e1,e2=>exact hval 3 t v e1 e2
  | n+4,e1,_=>simp at e1)
 obtain ⟨rfl,hp1⟩:=List.append_eq_nil_iff.1 hp;obtain ⟨rfl,hp2⟩:=List.append_eq_nil_iff.1 hp1;obtain ⟨rfl,hp3⟩:=List.append_eq_nil_iff.1 hp2;obtain ⟨rfl,hp4⟩:=List.append_eq_nil_iff.1 hp3;obtain ⟨a0,a1,a2,a3,a4,a5,a6,a7,a8,rfl⟩:=rQ xs hl1
 have hv:v0=.agg #[.int .i64 a0,.int .i64 a1,.int .i64 a2,.int .i64 a3]/\v1=.agg #[.int .i64 a4,.int .i64 a5]/\v2=.agg #[.int .i64 a6,.int .i64 a7]/\v3=.int .u32 a8:=by
  have:[v0,v1,v2,v3]=[.agg #[.int .i64 a0,.int .i64 a1,.int .i64 a2,.int .i64 a3],.agg #[.int .i64 a4,.int .i64 a5],.agg #[.int .i64 a6,.int .i64 a7],.int .u32 a8]:=hx
  simpa using this
 obtain ⟨rfl,rfl,rfl,rfl⟩:=hv;have hw8:(Lit.int .u32 a8).wf=true:=hok.2.2.2.1.1;have h4':=h4;simp only [List.append_nil,List.nil_append] at hW'
 have hpl:∀ x∈p4,x.block<W.heap.size:=fun x hx=>hW'.lt x (by simp [hx])
 obtain ⟨fuel,hf⟩:=h4
 have hv4:v4.cells.toList=[v4]:=by
  obtain ⟨a,n,c,rfl⟩:=okWide_slice Tryz.underlying28 (hval 4 28 v4 rfl rfl);rfl
 rw [hv4] at hf;obtain ⟨a,cap,L,rfl,hl,hm,hL,hnil⟩:=pV hf;clear hA0 hval0;refine (El a cap L a0 a1 a2 a3 a4 a5 a6 a7 a8 W hL (bounds_u32 hw8)).mono fun e W' ⟨he,hw⟩=>?_
 subst he
 exact ⟨_,rfl,Sx.post_below (pa:=p4) (pv:=[]) hW' (fun _ _ _=>trodAll_mk1 (shut_bool Tryz.underlying4 _))
  (fun sp hsp=>by
   obtain ⟨s0,hs0⟩:∃ s,s=sp:=⟨_,rfl⟩;have H4:=Trod_stays laid Fq Iw h4' (fun x hx=>hw.same (hpl x hx)) (fun x hx=>hsp x (by simpa using hx))
   obtain ⟨w0,w0s,e0,e0s,q0,r0,ev,ed,ep,t0,T⟩:=trodAll_cons (hstay W' 0 sp true);cases ev;cases ed;obtain ⟨w1,w1s,e1,e1s,q1,r1,ev,ed,ep1,t1,T⟩:=trodAll_cons T;cases ev;cases ed;obtain ⟨w2,w2s,e2,e2s,q2,r2,ev,ed,ep2,t2,T⟩:=trodAll_cons T;cases ev;cases ed;obtain ⟨w3,w3s,e3,e3s,q3,r3,ev,ed,ep3,t3,T⟩:=trodAll_cons T;cases ev;cases ed;obtain ⟨rfl,rfl⟩:=List.append_eq_nil_iff.1 ep.symm;obtain ⟨rfl,rfl⟩:=List.append_eq_nil_iff.1 ep1.symm;obtain ⟨rfl,rfl⟩:=List.append_eq_nil_iff.1 ep2.symm;obtain ⟨rfl,rfl⟩:=List.append_eq_nil_iff.1 ep3.symm;have A:=trodAll_cons_mk t0 (trodAll_cons_mk t1 (trodAll_cons_mk t2 (trodAll_cons_mk t3 (trodAll_cons_mk H4 trodAll_mk0))));simp only [List.append_nil,List.nil_append] at A;exact A) (fun _ _=>rfl) (by simp) hw
  (ok_one (by kernel_rfl) rfl (okWide_bool_mk Tryz.underlying4 true))⟩
theorem reckoningLater_holds:Rows.ReckoningLaterSaid :=
 OpenClaim.holds_of_wide 3 Tryz.f3 rfl rfl rfl rfl rfl rfl rfl ⟨rfl,rfl,rfl,rfl,rfl⟩ rfl rfl rfl rfl rfl (by kernel_rfl) Tryz.func3 (by kernel_rfl)
  (of_decide_eq_true (by kernel_rfl)) (by unfold Func.isWrapper;rw [if_neg (of_decide_eq_false (by kernel_rfl))];exact ⟨rfl,rfl⟩)
  (fun os started H enc _=>lifted os started H enc)
