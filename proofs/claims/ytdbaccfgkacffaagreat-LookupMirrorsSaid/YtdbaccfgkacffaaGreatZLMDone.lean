/- The statement 'LookupMirrors': proved off the law's contract. -/
import Derived.Test.YtdbaccfgkacffaaGreatRows
import Derived.Test.YtdbaccfgkacffaaGreatZFrame
import Derived.Test.YtdbaccfgkacffaaGreatZShut
import Derived.Test.YtdbaccfgkacffaaGreatZLawLM
set_option linter.unusedVariables false
set_option linter.unusedSimpArgs false
set_option maxRecDepth 100000
namespace Go.Proofs.YtdbaccfgkacffaaGreat
open Go Go.ChangeShapes Go.WideShapes Go.ChangeAt Go.RowKit Go.Joins
theorem own:ownKnob Tryz.prog.godebug=none:=by kernel_rfl
theorem q9:Sx.shA Tryz.prog 8 Tryz.f4.params.toList=some [(true,[some .i64,some .i64,some .i64,some .i64,some .i64,some .i64])]:=by decide +kernel
theorem zX:∀ (l:List Int),l.length=6->∃ a0 a1 a2 a3 a4 a5,l=[a0,a1,a2,a3,a4,a5]:=by
 intro l h
 match l,h with
 | [a0,a1,a2,a3,a4,a5],_=>exact ⟨a0,a1,a2,a3,a4,a5,rfl⟩
theorem lifted (os:Os) (started:os.Started) (H:Type) (enc:TypeId × Value->H) :
 ReturnsInHanded {} Tryz.checked os 4 .any (Rows.lookupMirrorsSpec.pre6 enc Tryz.prog Tryz.f4 Rows.lookupMirrorsRow.domain false) (Rows.lookupMirrorsSpec.post enc Tryz.prog Tryz.f4 false true false false):=by
 refine returnsInHanded_of_change (C:=Tryz.checked) own started (by kernel_rfl) Tryz.func4
  (ChangeSpec.witness6 (enc:=enc) (C:=Tryz.checked) false ⟨#[],#[.agg #[.int .i64 0,.int .i64 0,.int .i64 0,.int .i64 0,.int .i64 0,.int .i64 0]],[]⟩ 8 (by kernel_rfl) (by kernel_rfl) (by kernel_rfl) (by kernel_rfl)) ?_
 intro W base args ds gs before hval hW hcnd _;have hW':=hW;obtain ⟨p,q,hA,hV,rfl,hfz,hnd⟩:=hW;obtain ⟨xs,hx,hl,hok,rfl,hstay⟩:=Sx.args_plain 8 Tryz.f4.params.toList args.toList ds p _ q9 hA (fun j t v h1 h2=>hval j t v (by simpa using h1) (by simpa using h2))
 obtain ⟨a0,a1,a2,a3,a4,a5,rfl⟩:=zX xs hl;have hA':DataW.TrodAll enc Tryz.prog W 0 (fun _=>true) true Tryz.f4.params.toList args.toList ds []:=hA
 obtain ⟨rfl,rfl⟩:=trodVars_none hV;rw [Tryz.params4] at hA'
 obtain ⟨v0,d0,-,rfl,-⟩:=trodAll_one hA'
 have hargs:args=⟨Sx.mkVals [(true,[some .i64,some .i64,some .i64,some .i64,some .i64,some .i64])] [a0,a1,a2,a3,a4,a5]⟩:=by rw [<-hx]
 subst hargs;refine (R8 a0 a1 a2 a3 a4 a5 W).mono fun e W' ⟨he,hw⟩=>?_
 subst he
 exact ⟨_,rfl,Sx.post_below (pa:=[]) (pv:=[]) hW' (fun _ _ _=>trodAll_mk1 (shut_bool Tryz.underlying4 _)) (fun sp _=>hstay _ _ _ _) (fun _ _=>rfl) rfl hw
  (ok_one (by kernel_rfl) rfl (okWide_bool_mk Tryz.underlying4 true))⟩
theorem s0:Tryz.prog.funcNamed Rows.lookupMirrorsRow.func=some 4:=by kernel_rfl
theorem s10:(Rows.lookupMirrorsRow.inPlace==Tryz.prog.inPlace 4)=true:=by kernel_rfl
theorem s11:(Rows.lookupMirrorsRow.unfollowed==Tryz.prog.unfollowed 4)=true:=by kernel_rfl
theorem s12:(Rows.lookupMirrorsRow.recurses==Tryz.prog.recurses 4)=true:=by kernel_rfl
theorem s13:(Rows.lookupMirrorsRow.named==Tryz.prog.varsNamed 4)=true:=by kernel_rfl
theorem s22:(Rows.lookupMirrorsRow.plainKeys==Tryz.prog.plainKeys)=true:=by kernel_rfl
theorem YB:(Rows.lookupMirrorsRow.lifted==Tryz.prog.liftsFinal)=true:=by kernel_rfl
theorem XL:(Tryz.prog.make==some Rows.lookupMirrorsRow.make)=true:=by kernel_rfl
theorem sr:Ie Tryz.prog Tryz.f4 Rows.lookupMirrorsSpec Rows.lookupMirrorsRow=true:=by kernel_rfl
theorem si:Tryz.f4.isInstance Tryz.prog Rows.lookupMirrorsRow.origin Rows.lookupMirrorsRow.targs:=of_decide_eq_true (by kernel_rfl)
theorem sw:Tryz.f4.isWrapper Tryz.prog Rows.lookupMirrorsRow.wrapper Rows.lookupMirrorsRow.mainSum:=by unfold Func.isWrapper;rw [if_neg (of_decide_eq_false (by kernel_rfl))];exact ⟨rfl,rfl⟩
theorem sj:joinedFacts Tryz.prog 4 Tryz.f4 Rows.lookupMirrorsSpec Rows.lookupMirrorsRow=true :=
 yY jk2 jk3 jk7 jk9 s10 s11 s12 s13 s22 WN ac7 YB XL sr
theorem lookupMirrors_holds:Rows.LookupMirrorsSaid :=
 OpenClaim.holds_of_wide 4 Tryz.f4 rfl rfl rfl rfl rfl rfl rfl ⟨rfl,rfl,rfl,rfl,rfl⟩ rfl rfl rfl rfl rfl s0 Tryz.func4 sj si sw
  (fun os started H enc _=>lifted os started H enc)
