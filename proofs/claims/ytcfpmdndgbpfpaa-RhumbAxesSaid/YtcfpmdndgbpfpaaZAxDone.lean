/- The statement 'RhumbAxes': proved off the law's contract. -/
import Derived.Test.YtcfpmdndgbpfpaaRows
import Derived.Test.YtcfpmdndgbpfpaaZFrame
import Derived.Test.YtcfpmdndgbpfpaaZShut
import Derived.Test.YtcfpmdndgbpfpaaZLawBk
set_option linter.unusedVariables false
set_option linter.unusedSimpArgs false
set_option maxRecDepth 100000
namespace Go.Proofs.Ytcfpmdndgbpfpaa
open Go Go.ChangeShapes Go.WideShapes Go.ChangeAt Go.RowKit Go.Joins
theorem own:ownKnob Try.prog.godebug=none:=by kernel_rfl
theorem FJ:Sx.shA Try.prog 8 Try.f4.params.toList=some [(true,[some .i64,some .i64]),(true,[some .i64,some .i64])]:=by decide +kernel
theorem LD:∀ (l:List Int),l.length=4->∃ a0 a1 a2 a3,l=[a0,a1,a2,a3]:=by
 intro l h
 match l,h with
 | [a0,a1,a2,a3],_=>exact ⟨a0,a1,a2,a3,rfl⟩
theorem lifted (os:Os) (started:os.Started) (H:Type) (enc:TypeId × Value->H) :
 ReturnsInHanded {} Try.checked os 4 .any (Rows.rhumbAxesSpec.pre6 enc Try.prog Try.f4 Rows.rhumbAxesRow.domain false) (Rows.rhumbAxesSpec.post enc Try.prog Try.f4 false true false false):=by
 refine returnsInHanded_of_change (C:=Try.checked) own started (by kernel_rfl) Try.func4
  (ChangeSpec.witness6 (enc:=enc) (C:=Try.checked) false ⟨#[],#[.agg #[.int .i64 0,.int .i64 0],.agg #[.int .i64 0,.int .i64 0]],[]⟩ 8 (by kernel_rfl) (by kernel_rfl) (by kernel_rfl) (by kernel_rfl)) ?_
 intro W base args ds gs before hval hW hcnd _;have hW':=hW;obtain ⟨p,q,hA,hV,rfl,hfz,hnd⟩:=hW;obtain ⟨xs,hx,hl,hok,rfl,hstay⟩:=Sx.args_plain 8 Try.f4.params.toList args.toList ds p _ FJ hA (fun j t v h1 h2=>hval j t v (by simpa using h1) (by simpa using h2))
 obtain ⟨a0,a1,a2,a3,rfl⟩:=LD xs hl;have hA':DataW.TrodAll enc Try.prog W 0 (fun _=>true) true Try.f4.params.toList args.toList ds []:=hA
 obtain ⟨rfl,rfl⟩:=trodVars_none hV;rw [Try.params4] at hA'
 obtain ⟨v0,v1,d0,d1,_,_,-,rfl,-,-,-⟩:=trodAll_two hA'
 have hargs:args=⟨Sx.mkVals [(true,[some .i64,some .i64]),(true,[some .i64,some .i64])] [a0,a1,a2,a3]⟩:=by rw [<-hx]
 subst hargs;refine (UE a0 a1 a2 a3 W).mono fun e W' ⟨he,hw⟩=>?_
 subst he
 exact ⟨_,rfl,Sx.post_below (pa:=[]) (pv:=[]) hW' (fun _ _ _=>trodAll_mk1 (shut_bool Try.underlying4 _)) (fun sp _=>hstay _ _ _ _) (fun _ _=>rfl) rfl hw
  (ok_one (by kernel_rfl) rfl (okWide_bool_mk Try.underlying4 true))⟩
theorem s0:Try.prog.funcNamed Rows.rhumbAxesRow.func=some 4:=by kernel_rfl
theorem s10:(Rows.rhumbAxesRow.inPlace==Try.prog.inPlace 4)=true:=by kernel_rfl
theorem s11:(Rows.rhumbAxesRow.unfollowed==Try.prog.unfollowed 4)=true:=by kernel_rfl
theorem s12:(Rows.rhumbAxesRow.recurses==Try.prog.recurses 4)=true:=by kernel_rfl
theorem s13:(Rows.rhumbAxesRow.named==Try.prog.varsNamed 4)=true:=by kernel_rfl
theorem s22:(Rows.rhumbAxesRow.plainKeys==Try.prog.plainKeys)=true:=by kernel_rfl
theorem TV:(Rows.rhumbAxesRow.lifted==Try.prog.liftsFinal)=true:=by kernel_rfl
theorem Ut:(Try.prog.make==some Rows.rhumbAxesRow.make)=true:=by kernel_rfl
theorem sr:Ga Try.prog Try.f4 Rows.rhumbAxesSpec Rows.rhumbAxesRow=true:=by kernel_rfl
theorem si:Try.f4.isInstance Try.prog Rows.rhumbAxesRow.origin Rows.rhumbAxesRow.targs:=of_decide_eq_true (by kernel_rfl)
theorem sw:Try.f4.isWrapper Try.prog Rows.rhumbAxesRow.wrapper Rows.rhumbAxesRow.mainSum:=by unfold Func.isWrapper;rw [if_neg (of_decide_eq_false (by kernel_rfl))];exact ⟨rfl,rfl⟩
theorem sj:joinedFacts Try.prog 4 Try.f4 Rows.rhumbAxesSpec Rows.rhumbAxesRow=true :=
 D9 jk2 jk3 jk7 jk9 s10 s11 s12 s13 s22 SG Uw TV Ut sr
theorem rhumbAxes_holds:Rows.RhumbAxesSaid :=
 OpenClaim.holds_of_wide 4 Try.f4 rfl rfl rfl rfl rfl rfl rfl ⟨rfl,rfl,rfl,rfl,rfl⟩ rfl rfl rfl rfl rfl s0 Try.func4 sj si sw
  (fun os started H enc _=>lifted os started H enc)
