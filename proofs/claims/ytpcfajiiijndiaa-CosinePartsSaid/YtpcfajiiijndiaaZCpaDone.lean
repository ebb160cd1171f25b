/- The statement 'CosineParts': proved off the law's contract. -/
import Derived.Test.YtpcfajiiijndiaaRows
import Derived.Test.YtpcfajiiijndiaaZFrame
import Derived.Test.YtpcfajiiijndiaaZShut
import Derived.Test.YtpcfajiiijndiaaZLawCpa
set_option linter.unusedVariables false
set_option linter.unusedSimpArgs false
set_option maxRecDepth 100000
namespace Go.Proofs.Ytpcfajiiijndiaa
open Go Go.ChangeShapes Go.WideShapes Go.ChangeAt Go.RowKit Go.Joins
theorem own:ownKnob Try.prog.godebug=none:=by kernel_rfl
theorem iK:Sx.shA Try.prog 8 Try.f3.params.toList=some [(true,[some .i64,some .i64,some .i64,some .i64,some .i64,some .i64]),(false,[some .u32]),(false,[some .u32]),(false,[some .u32])]:=by decide +kernel
theorem mq:∀ (l:List Int),l.length=9->∃ a0 a1 a2 a3 a4 a5 a6 a7 a8,l=[a0,a1,a2,a3,a4,a5,a6,a7,a8]:=by
 intro l h
 match l,h with
 | [a0,a1,a2,a3,a4,a5,a6,a7,a8],_=>exact ⟨a0,a1,a2,a3,a4,a5,a6,a7,a8,rfl⟩
theorem lifted (os:Os) (started:os.Started) (H:Type) (enc:TypeId × Value->H) :
 ReturnsInHanded {} Try.checked os 3 .any (Rows.cosinePartsSpec.pre6 enc Try.prog Try.f3 Rows.cosinePartsRow.domain false) (Rows.cosinePartsSpec.post enc Try.prog Try.f3 false true false false):=by
 refine returnsInHanded_of_change (C:=Try.checked) own started (by kernel_rfl) Try.func3
  (ChangeSpec.witness6 (enc:=enc) (C:=Try.checked) false ⟨#[],#[.agg #[.int .i64 0,.int .i64 0,.int .i64 0,.int .i64 0,.int .i64 0,.int .i64 0],.int .u32 0,.int .u32 0,.int .u32 0],[]⟩ 8 (by kernel_rfl) (by kernel_rfl) (by kernel_rfl) (by kernel_rfl)) ?_
 intro W base args ds gs before hval hW hcnd _;have hW':=hW;obtain ⟨p,q,hA,hV,rfl,hfz,hnd⟩:=hW;obtain ⟨xs,hx,hl,hok,rfl,hstay⟩:=Sx.args_plain 8 Try.f3.params.toList args.toList ds p _ iK hA (fun j t v h1 h2=>hval j t v (by simpa using h1) (by simpa using h2))
 obtain ⟨a0,a1,a2,a3,a4,a5,a6,a7,a8,rfl⟩:=mq xs hl;have hA':DataW.TrodAll enc Try.prog W 0 (fun _=>true) true Try.f3.params.toList args.toList ds []:=hA
 obtain ⟨rfl,rfl⟩:=trodVars_none hV;rw [Try.params3] at hA'
 obtain ⟨v0,v1,v2,v3,d0,d1,d2,d3,_,_,_,_,-,rfl,-,-,-,-,-⟩:=trodAll_four hA'
 have hargs:args=⟨Sx.mkVals [(true,[some .i64,some .i64,some .i64,some .i64,some .i64,some .i64]),(false,[some .u32]),(false,[some .u32]),(false,[some .u32])] [a0,a1,a2,a3,a4,a5,a6,a7,a8]⟩:=by rw [<-hx]
 subst hargs
 have hu:(0<=a6/\a6<=4294967295)/\(0<=a7/\a7<=4294967295)/\(0<=a8/\a8<=4294967295):=by
  have m0:IntKind.u32.min=0:=by decide
  have m1:IntKind.u32.max=4294967295:=by decide
  have n0:IntKind.i32.min=-2147483648:=by decide
  have n1:IntKind.i32.max=2147483647:=by decide
  simp [Sx.okIs,Sx.okI,Lit.wf,m0,m1,n0,n1] at hok;omega
 refine (Hu a0 a1 a2 a3 a4 a5 a6 a7 a8 W hu).mono fun e W' ⟨he,hw⟩=>?_
 subst he
 exact ⟨_,rfl,Sx.post_below (pa:=[]) (pv:=[]) hW' (fun _ _ _=>trodAll_mk1 (shut_bool Try.underlying4 _)) (fun sp _=>hstay _ _ _ _) (fun _ _=>rfl) rfl hw
  (ok_one (by kernel_rfl) rfl (okWide_bool_mk Try.underlying4 true))⟩
theorem s0:Try.prog.funcNamed Rows.cosinePartsRow.func=some 3:=by kernel_rfl
theorem s10:(Rows.cosinePartsRow.inPlace==Try.prog.inPlace 3)=true:=by kernel_rfl
theorem s11:(Rows.cosinePartsRow.unfollowed==Try.prog.unfollowed 3)=true:=by kernel_rfl
theorem s12:(Rows.cosinePartsRow.recurses==Try.prog.recurses 3)=true:=by kernel_rfl
theorem s13:(Rows.cosinePartsRow.named==Try.prog.varsNamed 3)=true:=by kernel_rfl
theorem s22:(Rows.cosinePartsRow.plainKeys==Try.prog.plainKeys)=true:=by kernel_rfl
theorem JA:(Rows.cosinePartsRow.lifted==Try.prog.liftsFinal)=true:=by kernel_rfl
theorem Jm:(Try.prog.make==some Rows.cosinePartsRow.make)=true:=by kernel_rfl
theorem sr:yX Try.prog Try.f3 Rows.cosinePartsSpec Rows.cosinePartsRow=true:=by kernel_rfl
theorem si:Try.f3.isInstance Try.prog Rows.cosinePartsRow.origin Rows.cosinePartsRow.targs:=of_decide_eq_true (by kernel_rfl)
theorem sw:Try.f3.isWrapper Try.prog Rows.cosinePartsRow.wrapper Rows.cosinePartsRow.mainSum:=by unfold Func.isWrapper;rw [if_neg (of_decide_eq_false (by kernel_rfl))];exact ⟨rfl,rfl⟩
theorem sj:joinedFacts Try.prog 3 Try.f3 Rows.cosinePartsSpec Rows.cosinePartsRow=true :=
 oI jk2 jk3 jk7 jk9 s10 s11 s12 s13 s22 Hz QK JA Jm sr
theorem cosineParts_holds:Rows.CosinePartsSaid :=
 OpenClaim.holds_of_wide 3 Try.f3 rfl rfl rfl rfl rfl rfl rfl ⟨rfl,rfl,rfl,rfl,rfl⟩ rfl rfl rfl rfl rfl s0 Try.func3 sj si sw
  (fun os started H enc _=>lifted os started H enc)
