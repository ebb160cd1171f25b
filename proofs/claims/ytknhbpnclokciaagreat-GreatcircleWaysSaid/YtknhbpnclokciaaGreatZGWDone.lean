/- The statement 'GreatcircleWays': proved off the law's contract. -/
import Derived.Test.YtknhbpnclokciaaGreatRows
import Derived.Test.YtknhbpnclokciaaGreatZFrame
import Derived.Test.YtknhbpnclokciaaGreatZShut
import Derived.Test.YtknhbpnclokciaaGreatZLawGW
set_option linter.unusedVariables false
set_option linter.unusedSimpArgs false
set_option maxRecDepth 100000
namespace Go.Proofs.YtknhbpnclokciaaGreat
open Go Go.ChangeShapes Go.WideShapes Go.ChangeAt Go.RowKit Go.Joins
theorem own:ownKnob Tryz.prog.godebug=none:=by kernel_rfl
theorem G7:Sx.shA Tryz.prog 8 Tryz.f9.params.toList=some [(true,[some .i64,some .i64]),(true,[some .i64,some .i64]),(false,[some .i64])]:=by decide +kernel
theorem QC:∀ (l:List Int),l.length=5->∃ a0 a1 a2 a3 a4,l=[a0,a1,a2,a3,a4]:=by
 intro l h
 match l,h with
 | [a0,a1,a2,a3,a4],_=>exact ⟨a0,a1,a2,a3,a4,rfl⟩
theorem lifted (os:Os) (started:os.Started) (H:Type) (enc:TypeId × Value->H) :
 ReturnsInHanded {} Tryz.checked os 9 .any (Rows.greatcircleWaysSpec.pre6 enc Tryz.prog Tryz.f9 Rows.greatcircleWaysRow.domain false) (Rows.greatcircleWaysSpec.post enc Tryz.prog Tryz.f9 false true false false):=by
 refine returnsInHanded_of_change (C:=Tryz.checked) own started (by kernel_rfl) Tryz.func9
  (ChangeSpec.witness6 (enc:=enc) (C:=Tryz.checked) false ⟨#[],#[.agg #[.int .i64 0,.int .i64 0],.agg #[.int .i64 0,.int .i64 0],.int .i64 0],[]⟩ 8 (by kernel_rfl) (by kernel_rfl) (by kernel_rfl) (by kernel_rfl)) ?_
 intro W base args ds gs before hval hW hcnd _;have hW':=hW;obtain ⟨p,q,hA,hV,rfl,hfz,hnd⟩:=hW;obtain ⟨xs,hx,hl,hok,rfl,hstay⟩:=Sx.args_plain 8 Tryz.f9.params.toList args.toList ds p _ G7 hA (fun j t v h1 h2=>hval j t v (by simpa using h1) (by simpa using h2))
 obtain ⟨a0,a1,a2,a3,a4,rfl⟩:=QC xs hl;have hA':DataW.TrodAll enc Tryz.prog W 0 (fun _=>true) true Tryz.f9.params.toList args.toList ds []:=hA
 obtain ⟨rfl,rfl⟩:=trodVars_none hV;rw [Tryz.params9] at hA'
 obtain ⟨v0,v1,v2,d0,d1,d2,_,_,_,-,rfl,-,-,-,-⟩:=trodAll_three hA'
 have hargs:args=⟨Sx.mkVals [(true,[some .i64,some .i64]),(true,[some .i64,some .i64]),(false,[some .i64])] [a0,a1,a2,a3,a4]⟩:=by rw [<-hx]
 subst hargs;refine (acB a0 a1 a2 a3 a4 W).mono fun e W' ⟨he,hw⟩=>?_
 subst he
 exact ⟨_,rfl,Sx.post_below (pa:=[]) (pv:=[]) hW' (fun _ _ _=>trodAll_mk1 (shut_bool Tryz.underlying4 _)) (fun sp _=>hstay _ _ _ _) (fun _ _=>rfl) rfl hw
  (ok_one (by kernel_rfl) rfl (okWide_bool_mk Tryz.underlying4 true))⟩
theorem s0:Tryz.prog.funcNamed Rows.greatcircleWaysRow.func=some 9:=by kernel_rfl
theorem s10:(Rows.greatcircleWaysRow.inPlace==Tryz.prog.inPlace 9)=true:=by kernel_rfl
theorem s11:(Rows.greatcircleWaysRow.unfollowed==Tryz.prog.unfollowed 9)=true:=by kernel_rfl
theorem s12:(Rows.greatcircleWaysRow.recurses==Tryz.prog.recurses 9)=true:=by kernel_rfl
theorem s13:(Rows.greatcircleWaysRow.named==Tryz.prog.varsNamed 9)=true:=by kernel_rfl
theorem s22:(Rows.greatcircleWaysRow.plainKeys==Tryz.prog.plainKeys)=true:=by kernel_rfl
theorem Y9:(Rows.greatcircleWaysRow.lifted==Tryz.prog.liftsFinal)=true:=by kernel_rfl
theorem Y7:(Tryz.prog.make==some Rows.greatcircleWaysRow.make)=true:=by kernel_rfl
theorem sr:Oc Tryz.prog Tryz.f9 Rows.greatcircleWaysSpec Rows.greatcircleWaysRow=true:=by kernel_rfl
theorem si:Tryz.f9.isInstance Tryz.prog Rows.greatcircleWaysRow.origin Rows.greatcircleWaysRow.targs:=of_decide_eq_true (by kernel_rfl)
theorem sw:Tryz.f9.isWrapper Tryz.prog Rows.greatcircleWaysRow.wrapper Rows.greatcircleWaysRow.mainSum:=by unfold Func.isWrapper;rw [if_neg (of_decide_eq_false (by kernel_rfl))];exact ⟨rfl,rfl⟩
theorem sj:joinedFacts Tryz.prog 9 Tryz.f9 Rows.greatcircleWaysSpec Rows.greatcircleWaysRow=true :=
 Jp jk2 jk3 jk7 jk9 s10 s11 s12 s13 s22 Yb YS Y9 Y7 sr
theorem greatcircleWays_holds:Rows.GreatcircleWaysSaid :=
 OpenClaim.holds_of_wide 9 Tryz.f9 rfl rfl rfl rfl rfl rfl rfl ⟨rfl,rfl,rfl,rfl,rfl⟩ rfl rfl rfl rfl rfl s0 Tryz.func9 sj si sw
  (fun os started H enc _=>lifted os started H enc)
