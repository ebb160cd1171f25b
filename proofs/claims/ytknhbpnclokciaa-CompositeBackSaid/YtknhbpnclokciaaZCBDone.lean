/- The statement 'CompositeBack': proved off the law's contract. -/
import Derived.Test.YtknhbpnclokciaaRows
import Derived.Test.YtknhbpnclokciaaZFrame
import Derived.Test.YtknhbpnclokciaaZShut
import Derived.Test.YtknhbpnclokciaaZLawCB
set_option linter.unusedVariables false
set_option linter.unusedSimpArgs false
set_option maxRecDepth 100000
namespace Go.Proofs.Ytknhbpnclokciaa
open Go Go.ChangeShapes Go.WideShapes Go.ChangeAt Go.RowKit Go.Joins
theorem own:ownKnob Try.prog.godebug=none:=by kernel_rfl
theorem jY:Sx.shA Try.prog 8 Try.f3.params.toList=some [(true,[some .i64,some .i64]),(true,[some .i64,some .i64]),(false,[some .i64])]:=by decide +kernel
theorem ql:∀ (l:List Int),l.length=5->∃ a0 a1 a2 a3 a4,l=[a0,a1,a2,a3,a4]:=by
 intro l h
 match l,h with
 | [a0,a1,a2,a3,a4],_=>exact ⟨a0,a1,a2,a3,a4,rfl⟩
theorem lifted (os:Os) (started:os.Started) (H:Type) (enc:TypeId × Value->H) :
 ReturnsInHanded {} Try.checked os 3 .any (Rows.compositeBackSpec.pre6 enc Try.prog Try.f3 Rows.compositeBackRow.domain false) (Rows.compositeBackSpec.post enc Try.prog Try.f3 false true false false):=by
 refine returnsInHanded_of_change (C:=Try.checked) own started (by kernel_rfl) Try.func3
  (ChangeSpec.witness6 (enc:=enc) (C:=Try.checked) false ⟨#[],#[.agg #[.int .i64 0,.int .i64 0],.agg #[.int .i64 0,.int .i64 0],.int .i64 0],[]⟩ 8 (by kernel_rfl) (by kernel_rfl) (by kernel_rfl) (by kernel_rfl)) ?_
 intro W base args ds gs before hval hW hcnd _;have hW':=hW;obtain ⟨p,q,hA,hV,rfl,hfz,hnd⟩:=hW;obtain ⟨xs,hx,hl,hok,rfl,hstay⟩:=Sx.args_plain 8 Try.f3.params.toList args.toList ds p _ jY hA (fun j t v h1 h2=>hval j t v (by simpa using h1) (by simpa using h2))
 obtain ⟨a0,a1,a2,a3,a4,rfl⟩:=ql xs hl;have hA':DataW.TrodAll enc Try.prog W 0 (fun _=>true) true Try.f3.params.toList args.toList ds []:=hA
 obtain ⟨rfl,rfl⟩:=trodVars_none hV;rw [Try.params3] at hA'
 obtain ⟨v0,v1,v2,d0,d1,d2,_,_,_,-,rfl,-,-,-,-⟩:=trodAll_three hA'
 have hargs:args=⟨Sx.mkVals [(true,[some .i64,some .i64]),(true,[some .i64,some .i64]),(false,[some .i64])] [a0,a1,a2,a3,a4]⟩:=by rw [<-hx]
 subst hargs;refine (lS a0 a1 a2 a3 a4 W).mono fun e W' ⟨he,hw⟩=>?_
 subst he
 exact ⟨_,rfl,Sx.post_below (pa:=[]) (pv:=[]) hW' (fun _ _ _=>trodAll_mk1 (shut_bool Try.underlying4 _)) (fun sp _=>hstay _ _ _ _) (fun _ _=>rfl) rfl hw
  (ok_one (by kernel_rfl) rfl (okWide_bool_mk Try.underlying4 true))⟩
theorem s0:Try.prog.funcNamed Rows.compositeBackRow.func=some 3:=by kernel_rfl
theorem s10:(Rows.compositeBackRow.inPlace==Try.prog.inPlace 3)=true:=by kernel_rfl
theorem s11:(Rows.compositeBackRow.unfollowed==Try.prog.unfollowed 3)=true:=by kernel_rfl
theorem s12:(Rows.compositeBackRow.recurses==Try.prog.recurses 3)=true:=by kernel_rfl
theorem s13:(Rows.compositeBackRow.named==Try.prog.varsNamed 3)=true:=by kernel_rfl
theorem s22:(Rows.compositeBackRow.plainKeys==Try.prog.plainKeys)=true:=by kernel_rfl
theorem Gb:(Rows.compositeBackRow.lifted==Try.prog.liftsFinal)=true:=by kernel_rfl
theorem Ig:(Try.prog.make==some Rows.compositeBackRow.make)=true:=by kernel_rfl
theorem sr:zN Try.prog Try.f3 Rows.compositeBackSpec Rows.compositeBackRow=true:=by kernel_rfl
theorem si:Try.f3.isInstance Try.prog Rows.compositeBackRow.origin Rows.compositeBackRow.targs:=of_decide_eq_true (by kernel_rfl)
theorem sw:Try.f3.isWrapper Try.prog Rows.compositeBackRow.wrapper Rows.compositeBackRow.mainSum:=by unfold Func.isWrapper;rw [if_neg (of_decide_eq_false (by kernel_rfl))];exact ⟨rfl,rfl⟩
theorem sj:joinedFacts Try.prog 3 Try.f3 Rows.compositeBackSpec Rows.compositeBackRow=true :=
 nK jk2 jk3 jk7 jk9 s10 s11 s12 s13 s22 Jp WM Gb Ig sr
theorem compositeBack_holds:Rows.CompositeBackSaid :=
 OpenClaim.holds_of_wide 3 Try.f3 rfl rfl rfl rfl rfl rfl rfl ⟨rfl,rfl,rfl,rfl,rfl⟩ rfl rfl rfl rfl rfl s0 Try.func3 sj si sw
  (fun os started H enc _=>lifted os started H enc)
