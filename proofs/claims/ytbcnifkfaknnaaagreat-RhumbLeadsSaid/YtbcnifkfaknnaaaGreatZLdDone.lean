/- The statement 'RhumbLeads': proved off the law's contract. -/
import Derived.Test.YtbcnifkfaknnaaaGreatRows
import Derived.Test.YtbcnifkfaknnaaaGreatZFrame
import Derived.Test.YtbcnifkfaknnaaaGreatZShut
import Derived.Test.YtbcnifkfaknnaaaGreatZLawLd
set_option linter.unusedVariables false
set_option linter.unusedSimpArgs false
set_option maxRecDepth 100000
namespace Go.Proofs.YtbcnifkfaknnaaaGreat
open Go Go.ChangeShapes Go.WideShapes Go.ChangeAt Go.RowKit Go.Joins
theorem own:ownKnob Tryz.prog.godebug=none:=by kernel_rfl
theorem JR:Sx.shA Tryz.prog 8 Tryz.f3.params.toList=some [(true,[some .i64,some .i64]),(true,[some .i64,some .i64])]:=by decide +kernel
theorem PV:∀ (l:List Int),l.length=4->∃ a0 a1 a2 a3,l=[a0,a1,a2,a3]:=by
 intro l h
 match l,h with
 | [a0,a1,a2,a3],_=>exact ⟨a0,a1,a2,a3,rfl⟩
theorem lifted (os:Os) (started:os.Started) (H:Type) (enc:TypeId × Value->H) :
 ReturnsInHanded {} Tryz.checked os 3 .any (Rows.rhumbLeadsSpec.pre6 enc Tryz.prog Tryz.f3 Rows.rhumbLeadsRow.domain false) (Rows.rhumbLeadsSpec.post enc Tryz.prog Tryz.f3 false true false false):=by
 refine returnsInHanded_of_change (C:=Tryz.checked) own started (by kernel_rfl) Tryz.func3
  (ChangeSpec.witness6 (enc:=enc) (C:=Tryz.checked) false ⟨#[],#[.agg #[.int .i64 0,.int .i64 0],.agg #[.int .i64 0,.int .i64 0]],[]⟩ 8 (by kernel_rfl) (by kernel_rfl) (by kernel_rfl) (by kernel_rfl)) ?_
 intro W base args ds gs before hval hW hcnd _;have hW':=hW;obtain ⟨p,q,hA,hV,rfl,hfz,hnd⟩:=hW;obtain ⟨xs,hx,hl,hok,rfl,hstay⟩:=Sx.args_plain 8 Tryz.f3.params.toList args.toList ds p _ JR hA (fun j t v h1 h2=>hval j t v (by simpa using h1) (by simpa using h2))
 obtain ⟨a0,a1,a2,a3,rfl⟩:=PV xs hl;have hA':DataW.TrodAll enc Tryz.prog W 0 (fun _=>true) true Tryz.f3.params.toList args.toList ds []:=hA
 obtain ⟨rfl,rfl⟩:=trodVars_none hV;rw [Tryz.params3] at hA'
 obtain ⟨v0,v1,d0,d1,_,_,-,rfl,-,-,-⟩:=trodAll_two hA'
 have hargs:args=⟨Sx.mkVals [(true,[some .i64,some .i64]),(true,[some .i64,some .i64])] [a0,a1,a2,a3]⟩:=by rw [<-hx]
 subst hargs;refine (Ph a0 a1 a2 a3 W).mono fun e W' ⟨he,hw⟩=>?_
 subst he
 exact ⟨_,rfl,Sx.post_below (pa:=[]) (pv:=[]) hW' (fun _ _ _=>trodAll_mk1 (shut_bool Tryz.underlying4 _)) (fun sp _=>hstay _ _ _ _) (fun _ _=>rfl) rfl hw
  (ok_one (by kernel_rfl) rfl (okWide_bool_mk Tryz.underlying4 true))⟩
theorem s0:Tryz.prog.funcNamed Rows.rhumbLeadsRow.func=some 3:=by kernel_rfl
theorem s10:(Rows.rhumbLeadsRow.inPlace==Tryz.prog.inPlace 3)=true:=by kernel_rfl
theorem s11:(Rows.rhumbLeadsRow.unfollowed==Tryz.prog.unfollowed 3)=true:=by kernel_rfl
theorem s12:(Rows.rhumbLeadsRow.recurses==Tryz.prog.recurses 3)=true:=by kernel_rfl
theorem s13:(Rows.rhumbLeadsRow.named==Tryz.prog.varsNamed 3)=true:=by kernel_rfl
theorem s22:(Rows.rhumbLeadsRow.plainKeys==Tryz.prog.plainKeys)=true:=by kernel_rfl
theorem Zg:(Rows.rhumbLeadsRow.lifted==Tryz.prog.liftsFinal)=true:=by kernel_rfl
theorem ZE:(Tryz.prog.make==some Rows.rhumbLeadsRow.make)=true:=by kernel_rfl
theorem sr:Oo Tryz.prog Tryz.f3 Rows.rhumbLeadsSpec Rows.rhumbLeadsRow=true:=by kernel_rfl
theorem si:Tryz.f3.isInstance Tryz.prog Rows.rhumbLeadsRow.origin Rows.rhumbLeadsRow.targs:=of_decide_eq_true (by kernel_rfl)
theorem sw:Tryz.f3.isWrapper Tryz.prog Rows.rhumbLeadsRow.wrapper Rows.rhumbLeadsRow.mainSum:=by unfold Func.isWrapper;rw [if_neg (of_decide_eq_false (by kernel_rfl))];exact ⟨rfl,rfl⟩
theorem sj:joinedFacts Tryz.prog 3 Tryz.f3 Rows.rhumbLeadsSpec Rows.rhumbLeadsRow=true :=
 JL jk2 jk3 jk7 jk9 s10 s11 s12 s13 s22 Xh Zn Zg ZE sr
theorem rhumbLeads_holds:Rows.RhumbLeadsSaid :=
 OpenClaim.holds_of_wide 3 Tryz.f3 rfl rfl rfl rfl rfl rfl rfl ⟨rfl,rfl,rfl,rfl,rfl⟩ rfl rfl rfl rfl rfl s0 Tryz.func3 sj si sw
  (fun os started H enc _=>lifted os started H enc)
