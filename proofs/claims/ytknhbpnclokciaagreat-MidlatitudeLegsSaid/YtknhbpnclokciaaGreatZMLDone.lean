/- The statement 'MidlatitudeLegs': proved off the law's contract. -/
import Derived.Test.YtknhbpnclokciaaGreatRows
import Derived.Test.YtknhbpnclokciaaGreatZFrame
import Derived.Test.YtknhbpnclokciaaGreatZShut
import Derived.Test.YtknhbpnclokciaaGreatZLawML
set_option linter.unusedVariables false
set_option linter.unusedSimpArgs false
set_option maxRecDepth 100000
namespace Go.Proofs.YtknhbpnclokciaaGreat
open Go Go.ChangeShapes Go.WideShapes Go.ChangeAt Go.RowKit Go.Joins
theorem own:ownKnob Tryz.prog.godebug=none:=by kernel_rfl
theorem G7:Sx.shA Tryz.prog 8 Tryz.f8.params.toList=some [(true,[some .i64,some .i64,some .i64,some .i64]),(true,[some .i64,some .i64]),(true,[some .i64,some .i64])]:=by decide +kernel
theorem QC:∀ (l:List Int),l.length=8->∃ a0 a1 a2 a3 a4 a5 a6 a7,l=[a0,a1,a2,a3,a4,a5,a6,a7]:=by
 intro l h
 match l,h with
 | [a0,a1,a2,a3,a4,a5,a6,a7],_=>exact ⟨a0,a1,a2,a3,a4,a5,a6,a7,rfl⟩
theorem lifted (os:Os) (started:os.Started) (H:Type) (enc:TypeId × Value->H) :
 ReturnsInHanded {} Tryz.checked os 8 .any (Rows.midlatitudeLegsSpec.pre6 enc Tryz.prog Tryz.f8 Rows.midlatitudeLegsRow.domain false) (Rows.midlatitudeLegsSpec.post enc Tryz.prog Tryz.f8 false true false false):=by
 refine returnsInHanded_of_change (C:=Tryz.checked) own started (by kernel_rfl) Tryz.func8
  (ChangeSpec.witness6 (enc:=enc) (C:=Tryz.checked) false ⟨#[],#[.agg #[.int .i64 0,.int .i64 0,.int .i64 0,.int .i64 0],.agg #[.int .i64 0,.int .i64 0],.agg #[.int .i64 0,.int .i64 0]],[]⟩ 8 (by kernel_rfl) (by kernel_rfl) (by kernel_rfl) (by kernel_rfl)) ?_
 intro W base args ds gs before hval hW hcnd _;have hW':=hW;obtain ⟨p,q,hA,hV,rfl,hfz,hnd⟩:=hW;obtain ⟨xs,hx,hl,hok,rfl,hstay⟩:=Sx.args_plain 8 Tryz.f8.params.toList args.toList ds p _ G7 hA (fun j t v h1 h2=>hval j t v (by simpa using h1) (by simpa using h2))
 obtain ⟨a0,a1,a2,a3,a4,a5,a6,a7,rfl⟩:=QC xs hl;have hA':DataW.TrodAll enc Tryz.prog W 0 (fun _=>true) true Tryz.f8.params.toList args.toList ds []:=hA
 obtain ⟨rfl,rfl⟩:=trodVars_none hV;rw [Tryz.params8] at hA'
 obtain ⟨v0,v1,v2,d0,d1,d2,_,_,_,-,rfl,-,-,-,-⟩:=trodAll_three hA'
 have hargs:args=⟨Sx.mkVals [(true,[some .i64,some .i64,some .i64,some .i64]),(true,[some .i64,some .i64]),(true,[some .i64,some .i64])] [a0,a1,a2,a3,a4,a5,a6,a7]⟩:=by rw [<-hx]
 subst hargs;refine (QQ a0 a1 a2 a3 a4 a5 a6 a7 W).mono fun e W' ⟨he,hw⟩=>?_
 subst he
 exact ⟨_,rfl,Sx.post_below (pa:=[]) (pv:=[]) hW' (fun _ _ _=>trodAll_mk1 (shut_bool Tryz.underlying4 _)) (fun sp _=>hstay _ _ _ _) (fun _ _=>rfl) rfl hw
  (ok_one (by kernel_rfl) rfl (okWide_bool_mk Tryz.underlying4 true))⟩
theorem s0:Tryz.prog.funcNamed Rows.midlatitudeLegsRow.func=some 8:=by kernel_rfl
theorem s10:(Rows.midlatitudeLegsRow.inPlace==Tryz.prog.inPlace 8)=true:=by kernel_rfl
theorem s11:(Rows.midlatitudeLegsRow.unfollowed==Tryz.prog.unfollowed 8)=true:=by kernel_rfl
theorem s12:(Rows.midlatitudeLegsRow.recurses==Tryz.prog.recurses 8)=true:=by kernel_rfl
theorem s13:(Rows.midlatitudeLegsRow.named==Tryz.prog.varsNamed 8)=true:=by kernel_rfl
theorem s22:(Rows.midlatitudeLegsRow.plainKeys==Tryz.prog.plainKeys)=true:=by kernel_rfl
theorem Y9:(Rows.midlatitudeLegsRow.lifted==Tryz.prog.liftsFinal)=true:=by kernel_rfl
theorem Y7:(Tryz.prog.make==some Rows.midlatitudeLegsRow.make)=true:=by kernel_rfl
theorem sr:Oc Tryz.prog Tryz.f8 Rows.midlatitudeLegsSpec Rows.midlatitudeLegsRow=true:=by kernel_rfl
theorem si:Tryz.f8.isInstance Tryz.prog Rows.midlatitudeLegsRow.origin Rows.midlatitudeLegsRow.targs:=of_decide_eq_true (by kernel_rfl)
theorem sw:Tryz.f8.isWrapper Tryz.prog Rows.midlatitudeLegsRow.wrapper Rows.midlatitudeLegsRow.mainSum:=by unfold Func.isWrapper;rw [if_neg (of_decide_eq_false (by kernel_rfl))];exact ⟨rfl,rfl⟩
theorem sj:joinedFacts Tryz.prog 8 Tryz.f8 Rows.midlatitudeLegsSpec Rows.midlatitudeLegsRow=true :=
 Jp jk2 jk3 jk7 jk9 s10 s11 s12 s13 s22 Yb YS Y9 Y7 sr
theorem midlatitudeLegs_holds:Rows.MidlatitudeLegsSaid :=
 OpenClaim.holds_of_wide 8 Tryz.f8 rfl rfl rfl rfl rfl rfl rfl ⟨rfl,rfl,rfl,rfl,rfl⟩ rfl rfl rfl rfl rfl s0 Tryz.func8 sj si sw
  (fun os started H enc _=>lifted os started H enc)
