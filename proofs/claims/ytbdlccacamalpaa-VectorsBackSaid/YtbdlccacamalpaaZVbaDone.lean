/- The statement 'VectorsBack': proved off the law's contract. -/
import Derived.Test.YtbdlccacamalpaaRows
import Derived.Test.YtbdlccacamalpaaZFrame
import Derived.Test.YtbdlccacamalpaaZShut
import Derived.Test.YtbdlccacamalpaaZLawVba
set_option linter.unusedVariables false
set_option linter.unusedSimpArgs false
set_option maxRecDepth 100000
namespace Go.Proofs.Ytbdlccacamalpaa
open Go Go.ChangeShapes Go.WideShapes Go.ChangeAt Go.RowKit Go.Joins
theorem own:ownKnob Try.prog.godebug=none:=by kernel_rfl
theorem Br:Sx.shA Try.prog 8 Try.f4.params.toList=some [(true,[some .i64,some .i64])]:=by decide +kernel
theorem Hy:∀ (l:List Int),l.length=2->∃ a0 a1,l=[a0,a1]:=by
 intro l h
 match l,h with
 | [a0,a1],_=>exact ⟨a0,a1,rfl⟩
theorem lifted (os:Os) (started:os.Started) (H:Type) (enc:TypeId × Value->H) :
 ReturnsInHanded {} Try.checked os 4 .any (Rows.vectorsBackSpec.pre6 enc Try.prog Try.f4 Rows.vectorsBackRow.domain false) (Rows.vectorsBackSpec.post enc Try.prog Try.f4 false true false false):=by
 refine returnsInHanded_of_change (C:=Try.checked) own started (by kernel_rfl) Try.func4
  (ChangeSpec.witness6 (enc:=enc) (C:=Try.checked) false ⟨#[],#[.agg #[.int .i64 0,.int .i64 0]],[]⟩ 8 (by kernel_rfl) (by kernel_rfl) (by kernel_rfl) (by kernel_rfl)) ?_
 intro W base args ds gs before hval hW hcnd _;have hW':=hW;obtain ⟨p,q,hA,hV,rfl,hfz,hnd⟩:=hW;obtain ⟨xs,hx,hl,hok,rfl,hstay⟩:=Sx.args_plain 8 Try.f4.params.toList args.toList ds p _ Br hA (fun j t v h1 h2=>hval j t v (by simpa using h1) (by simpa using h2))
 obtain ⟨a0,a1,rfl⟩:=Hy xs hl;have hA':DataW.TrodAll enc Try.prog W 0 (fun _=>true) true Try.f4.params.toList args.toList ds []:=hA
 obtain ⟨rfl,rfl⟩:=trodVars_none hV;rw [Try.params4] at hA'
 obtain ⟨v0,d0,-,rfl,-⟩:=trodAll_one hA'
 have hargs:args=⟨Sx.mkVals [(true,[some .i64,some .i64])] [a0,a1]⟩:=by rw [<-hx]
 subst hargs;refine (Eg a0 a1 W).mono fun e W' ⟨he,hw⟩=>?_
 subst he
 exact ⟨_,rfl,Sx.post_below (pa:=[]) (pv:=[]) hW' (fun _ _ _=>trodAll_mk1 (shut_bool Try.underlying4 _)) (fun sp _=>hstay _ _ _ _) (fun _ _=>rfl) rfl hw
  (ok_one (by kernel_rfl) rfl (okWide_bool_mk Try.underlying4 true))⟩
theorem s0:Try.prog.funcNamed Rows.vectorsBackRow.func=some 4:=by kernel_rfl
theorem s10:(Rows.vectorsBackRow.inPlace==Try.prog.inPlace 4)=true:=by kernel_rfl
theorem s11:(Rows.vectorsBackRow.unfollowed==Try.prog.unfollowed 4)=true:=by kernel_rfl
theorem s12:(Rows.vectorsBackRow.recurses==Try.prog.recurses 4)=true:=by kernel_rfl
theorem s13:(Rows.vectorsBackRow.named==Try.prog.varsNamed 4)=true:=by kernel_rfl
theorem s22:(Rows.vectorsBackRow.plainKeys==Try.prog.plainKeys)=true:=by kernel_rfl
theorem RJ:(Rows.vectorsBackRow.lifted==Try.prog.liftsFinal)=true:=by kernel_rfl
theorem RY:(Try.prog.make==some Rows.vectorsBackRow.make)=true:=by kernel_rfl
theorem sr:EE Try.prog Try.f4 Rows.vectorsBackSpec Rows.vectorsBackRow=true:=by kernel_rfl
theorem si:Try.f4.isInstance Try.prog Rows.vectorsBackRow.origin Rows.vectorsBackRow.targs:=of_decide_eq_true (by kernel_rfl)
theorem sw:Try.f4.isWrapper Try.prog Rows.vectorsBackRow.wrapper Rows.vectorsBackRow.mainSum:=by unfold Func.isWrapper;rw [if_neg (of_decide_eq_false (by kernel_rfl))];exact ⟨rfl,rfl⟩
theorem sj:joinedFacts Try.prog 4 Try.f4 Rows.vectorsBackSpec Rows.vectorsBackRow=true :=
 Bo jk2 jk3 jk7 jk9 s10 s11 s12 s13 s22 OQ Sc RJ RY sr
theorem vectorsBack_holds:Rows.VectorsBackSaid :=
 OpenClaim.holds_of_wide 4 Try.f4 rfl rfl rfl rfl rfl rfl rfl ⟨rfl,rfl,rfl,rfl,rfl⟩ rfl rfl rfl rfl rfl s0 Try.func4 sj si sw
  (fun os started H enc _=>lifted os started H enc)
