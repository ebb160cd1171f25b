/- The statement 'CompositeDistances': proved off the law's contract. -/
import Derived.Test.YtknhbpnclokciaaGreatRows
import Derived.Test.YtknhbpnclokciaaGreatZFrame
import Derived.Test.YtknhbpnclokciaaGreatZShut
import Derived.Test.YtknhbpnclokciaaGreatZLawCD
set_option linter.unusedVariables false
set_option linter.unusedSimpArgs false
set_option maxRecDepth 100000
namespace Go.Proofs.YtknhbpnclokciaaGreat
open Go Go.ChangeShapes Go.WideShapes Go.ChangeAt Go.RowKit Go.Joins
theorem own:ownKnob Tryz.prog.godebug=none:=by kernel_rfl
theorem jY:Sx.shA Tryz.prog 8 Tryz.f5.params.toList=some [(true,[some .i64,some .i64]),(true,[some .i64,some .i64]),(false,[some .i64])]:=by decide +kernel
theorem ql:∀ (l:List Int),l.length=5->∃ a0 a1 a2 a3 a4,l=[a0,a1,a2,a3,a4]:=by
 intro l h
 match l,h with
 | [a0,a1,a2,a3,a4],_=>exact ⟨a0,a1,a2,a3,a4,rfl⟩
theorem lifted (os:Os) (started:os.Started) (H:Type) (enc:TypeId × Value->H) :
 ReturnsInHanded {} Tryz.checked os 5 .any (Rows.compositeDistancesSpec.pre6 enc Tryz.prog Tryz.f5 Rows.compositeDistancesRow.domain false) (Rows.compositeDistancesSpec.post enc Tryz.prog Tryz.f5 false true false false):=by
 refine returnsInHanded_of_change (C:=Tryz.checked) own started (by kernel_rfl) Tryz.func5
  (ChangeSpec.witness6 (enc:=enc) (C:=Tryz.checked) false ⟨#[],#[.agg #[.int .i64 0,.int .i64 0],.agg #[.int .i64 0,.int .i64 0],.int .i64 0],[]⟩ 8 (by kernel_rfl) (by kernel_rfl) (by kernel_rfl) (by kernel_rfl)) ?_
 intro W base args ds gs before hval hW hcnd _;have hW':=hW;obtain ⟨p,q,hA,hV,rfl,hfz,hnd⟩:=hW;obtain ⟨xs,hx,hl,hok,rfl,hstay⟩:=Sx.args_plain 8 Tryz.f5.params.toList args.toList ds p _ jY hA (fun j t v h1 h2=>hval j t v (by simpa using h1) (by simpa using h2))
 obtain ⟨a0,a1,a2,a3,a4,rfl⟩:=ql xs hl;have hA':DataW.TrodAll enc Tryz.prog W 0 (fun _=>true) true Tryz.f5.params.toList args.toList ds []:=hA
 obtain ⟨rfl,rfl⟩:=trodVars_none hV;rw [Tryz.params5] at hA'
 obtain ⟨v0,v1,v2,d0,d1,d2,_,_,_,-,rfl,-,-,-,-⟩:=trodAll_three hA'
 have hargs:args=⟨Sx.mkVals [(true,[some .i64,some .i64]),(true,[some .i64,some .i64]),(false,[some .i64])] [a0,a1,a2,a3,a4]⟩:=by rw [<-hx]
 subst hargs;refine (VC a0 a1 a2 a3 a4 W).mono fun e W' ⟨he,hw⟩=>?_
 subst he
 exact ⟨_,rfl,Sx.post_below (pa:=[]) (pv:=[]) hW' (fun _ _ _=>trodAll_mk1 (shut_bool Tryz.underlying4 _)) (fun sp _=>hstay _ _ _ _) (fun _ _=>rfl) rfl hw
  (ok_one (by kernel_rfl) rfl (okWide_bool_mk Tryz.underlying4 true))⟩
theorem s0:Tryz.prog.funcNamed Rows.compositeDistancesRow.func=some 5:=by kernel_rfl
theorem s10:(Rows.compositeDistancesRow.inPlace==Tryz.prog.inPlace 5)=true:=by kernel_rfl
theorem s11:(Rows.compositeDistancesRow.unfollowed==Tryz.prog.unfollowed 5)=true:=by kernel_rfl
theorem s12:(Rows.compositeDistancesRow.recurses==Tryz.prog.recurses 5)=true:=by kernel_rfl
theorem s13:(Rows.compositeDistancesRow.named==Tryz.prog.varsNamed 5)=true:=by kernel_rfl
theorem s22:(Rows.compositeDistancesRow.plainKeys==Tryz.prog.plainKeys)=true:=by kernel_rfl
theorem Gb:(Rows.compositeDistancesRow.lifted==Tryz.prog.liftsFinal)=true:=by kernel_rfl
theorem Ig:(Tryz.prog.make==some Rows.compositeDistancesRow.make)=true:=by kernel_rfl
theorem sr:zN Tryz.prog Tryz.f5 Rows.compositeDistancesSpec Rows.compositeDistancesRow=true:=by kernel_rfl
theorem si:Tryz.f5.isInstance Tryz.prog Rows.compositeDistancesRow.origin Rows.compositeDistancesRow.targs:=of_decide_eq_true (by kernel_rfl)
theorem sw:Tryz.f5.isWrapper Tryz.prog Rows.compositeDistancesRow.wrapper Rows.compositeDistancesRow.mainSum:=by unfold Func.isWrapper;rw [if_neg (of_decide_eq_false (by kernel_rfl))];exact ⟨rfl,rfl⟩
theorem sj:joinedFacts Tryz.prog 5 Tryz.f5 Rows.compositeDistancesSpec Rows.compositeDistancesRow=true :=
 nK jk2 jk3 jk7 jk9 s10 s11 s12 s13 s22 Jp WM Gb Ig sr
theorem compositeDistances_holds:Rows.CompositeDistancesSaid :=
 OpenClaim.holds_of_wide 5 Tryz.f5 rfl rfl rfl rfl rfl rfl rfl ⟨rfl,rfl,rfl,rfl,rfl⟩ rfl rfl rfl rfl rfl s0 Tryz.func5 sj si sw
  (fun os started H enc _=>lifted os started H enc)
