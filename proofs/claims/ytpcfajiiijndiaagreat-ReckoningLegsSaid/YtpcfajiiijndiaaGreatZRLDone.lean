/- The statement 'ReckoningLegs': proved off the law's contract. -/
import Derived.Test.YtpcfajiiijndiaaGreatRows
import Derived.Test.YtpcfajiiijndiaaGreatZFrame
import Derived.Test.YtpcfajiiijndiaaGreatZShut
import Derived.Test.YtpcfajiiijndiaaGreatZLawRL
set_option linter.unusedVariables false
set_option linter.unusedSimpArgs false
set_option maxRecDepth 100000
namespace Go.Proofs.YtpcfajiiijndiaaGreat
open Go Go.ChangeShapes Go.WideShapes Go.ChangeAt Go.RowKit Go.Joins
theorem own:ownKnob Tryz.prog.godebug=none:=by kernel_rfl
theorem xW:Sx.shA Tryz.prog 8 Tryz.f3.params.toList=some [(true,[some .i64,some .i64,some .i64,some .i64]),(true,[some .i64,some .i64]),(true,[some .i64,some .i64])]:=by decide +kernel
theorem Au:∀ (l:List Int),l.length=8->∃ a0 a1 a2 a3 a4 a5 a6 a7,l=[a0,a1,a2,a3,a4,a5,a6,a7]:=by
 intro l h
 match l,h with
 | [a0,a1,a2,a3,a4,a5,a6,a7],_=>exact ⟨a0,a1,a2,a3,a4,a5,a6,a7,rfl⟩
theorem lifted (os:Os) (started:os.Started) (H:Type) (enc:TypeId × Value->H) :
 ReturnsInHanded {} Tryz.checked os 3 .any (Rows.reckoningLegsSpec.pre6 enc Tryz.prog Tryz.f3 Rows.reckoningLegsRow.domain false) (Rows.reckoningLegsSpec.post enc Tryz.prog Tryz.f3 false true false false):=by
 refine returnsInHanded_of_change (C:=Tryz.checked) own started (by kernel_rfl) Tryz.func3
  (ChangeSpec.witness6 (enc:=enc) (C:=Tryz.checked) false ⟨#[],#[.agg #[.int .i64 0,.int .i64 0,.int .i64 0,.int .i64 0],.agg #[.int .i64 0,.int .i64 0],.agg #[.int .i64 0,.int .i64 0]],[]⟩ 8 (by kernel_rfl) (by kernel_rfl) (by kernel_rfl) (by kernel_rfl)) ?_
 intro W base args ds gs before hval hW hcnd _;have hW':=hW;obtain ⟨p,q,hA,hV,rfl,hfz,hnd⟩:=hW;obtain ⟨xs,hx,hl,hok,rfl,hstay⟩:=Sx.args_plain 8 Tryz.f3.params.toList args.toList ds p _ xW hA (fun j t v h1 h2=>hval j t v (by simpa using h1) (by simpa using h2))
 obtain ⟨a0,a1,a2,a3,a4,a5,a6,a7,rfl⟩:=Au xs hl;have hA':DataW.TrodAll enc Tryz.prog W 0 (fun _=>true) true Tryz.f3.params.toList args.toList ds []:=hA
 obtain ⟨rfl,rfl⟩:=trodVars_none hV;rw [Tryz.params3] at hA'
 obtain ⟨v0,v1,v2,d0,d1,d2,_,_,_,-,rfl,-,-,-,-⟩:=trodAll_three hA'
 have hargs:args=⟨Sx.mkVals [(true,[some .i64,some .i64,some .i64,some .i64]),(true,[some .i64,some .i64]),(true,[some .i64,some .i64])] [a0,a1,a2,a3,a4,a5,a6,a7]⟩:=by rw [<-hx]
 subst hargs;refine (BC a0 a1 a2 a3 a4 a5 a6 a7 W).mono fun e W' ⟨he,hw⟩=>?_
 subst he
 exact ⟨_,rfl,Sx.post_below (pa:=[]) (pv:=[]) hW' (fun _ _ _=>trodAll_mk1 (shut_bool Tryz.underlying4 _)) (fun sp _=>hstay _ _ _ _) (fun _ _=>rfl) rfl hw
  (ok_one (by kernel_rfl) rfl (okWide_bool_mk Tryz.underlying4 true))⟩
theorem s0:Tryz.prog.funcNamed Rows.reckoningLegsRow.func=some 3:=by kernel_rfl
theorem s10:(Rows.reckoningLegsRow.inPlace==Tryz.prog.inPlace 3)=true:=by kernel_rfl
theorem s11:(Rows.reckoningLegsRow.unfollowed==Tryz.prog.unfollowed 3)=true:=by kernel_rfl
theorem s12:(Rows.reckoningLegsRow.recurses==Tryz.prog.recurses 3)=true:=by kernel_rfl
theorem s13:(Rows.reckoningLegsRow.named==Tryz.prog.varsNamed 3)=true:=by kernel_rfl
theorem s22:(Rows.reckoningLegsRow.plainKeys==Tryz.prog.plainKeys)=true:=by kernel_rfl
theorem Hf:(Rows.reckoningLegsRow.lifted==Tryz.prog.liftsFinal)=true:=by kernel_rfl
theorem G7:(Tryz.prog.make==some Rows.reckoningLegsRow.make)=true:=by kernel_rfl
theorem sr:yT Tryz.prog Tryz.f3 Rows.reckoningLegsSpec Rows.reckoningLegsRow=true:=by kernel_rfl
theorem si:Tryz.f3.isInstance Tryz.prog Rows.reckoningLegsRow.origin Rows.reckoningLegsRow.targs:=of_decide_eq_true (by kernel_rfl)
theorem sw:Tryz.f3.isWrapper Tryz.prog Rows.reckoningLegsRow.wrapper Rows.reckoningLegsRow.mainSum:=by unfold Func.isWrapper;rw [if_neg (of_decide_eq_false (by kernel_rfl))];exact ⟨rfl,rfl⟩
theorem sj:joinedFacts Tryz.prog 3 Tryz.f3 Rows.reckoningLegsSpec Rows.reckoningLegsRow=true :=
 xP jk2 jk3 jk7 jk9 s10 s11 s12 s13 s22 F6 G6 Hf G7 sr
theorem reckoningLegs_holds:Rows.ReckoningLegsSaid :=
 OpenClaim.holds_of_wide 3 Tryz.f3 rfl rfl rfl rfl rfl rfl rfl ⟨rfl,rfl,rfl,rfl,rfl⟩ rfl rfl rfl rfl rfl s0 Tryz.func3 sj si sw
  (fun os started H enc _=>lifted os started H enc)
