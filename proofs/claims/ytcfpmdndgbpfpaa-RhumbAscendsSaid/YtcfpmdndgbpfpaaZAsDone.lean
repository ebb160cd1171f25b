/- The statement 'RhumbAscends': proved off the law's contract. -/
import Derived.Test.YtcfpmdndgbpfpaaRows
import Derived.Test.YtcfpmdndgbpfpaaZFrame
import Derived.Test.YtcfpmdndgbpfpaaZShut
import Derived.Test.YtcfpmdndgbpfpaaZLawAs
set_option linter.unusedVariables false
set_option linter.unusedSimpArgs false
set_option maxRecDepth 100000
namespace Go.Proofs.Ytcfpmdndgbpfpaa
open Go Go.ChangeShapes Go.WideShapes Go.ChangeAt Go.RowKit Go.Joins
theorem own:ownKnob Try.prog.godebug=none:=by kernel_rfl
theorem Ar:Sx.shA Try.prog 8 Try.f3.params.toList=some [(false,[some .i64]),(false,[some .i64])]:=by decide +kernel
theorem EA:∀ (l:List Int),l.length=2->∃ a0 a1,l=[a0,a1]:=by
 intro l h
 match l,h with
 | [a0,a1],_=>exact ⟨a0,a1,rfl⟩
theorem lifted (os:Os) (started:os.Started) (H:Type) (enc:TypeId × Value->H) :
 ReturnsInHanded {} Try.checked os 3 .any (Rows.rhumbAscendsSpec.pre6 enc Try.prog Try.f3 Rows.rhumbAscendsRow.domain false) (Rows.rhumbAscendsSpec.post enc Try.prog Try.f3 false true false false):=by
 refine returnsInHanded_of_change (C:=Try.checked) own started (by kernel_rfl) Try.func3
  (ChangeSpec.witness6 (enc:=enc) (C:=Try.checked) false ⟨#[],#[.int .i64 0,.int .i64 0],[]⟩ 8 (by kernel_rfl) (by kernel_rfl) (by kernel_rfl) (by kernel_rfl)) ?_
 intro W base args ds gs before hval hW hcnd _;have hW':=hW;obtain ⟨p,q,hA,hV,rfl,hfz,hnd⟩:=hW;obtain ⟨xs,hx,hl,hok,rfl,hstay⟩:=Sx.args_plain 8 Try.f3.params.toList args.toList ds p _ Ar hA (fun j t v h1 h2=>hval j t v (by simpa using h1) (by simpa using h2))
 obtain ⟨a0,a1,rfl⟩:=EA xs hl;have hA':DataW.TrodAll enc Try.prog W 0 (fun _=>true) true Try.f3.params.toList args.toList ds []:=hA
 obtain ⟨rfl,rfl⟩:=trodVars_none hV;rw [Try.params3] at hA'
 obtain ⟨v0,v1,d0,d1,_,_,-,rfl,-,-,-⟩:=trodAll_two hA'
 have hargs:args=⟨Sx.mkVals [(false,[some .i64]),(false,[some .i64])] [a0,a1]⟩:=by rw [<-hx]
 subst hargs;refine (DU a0 a1 W).mono fun e W' ⟨he,hw⟩=>?_
 subst he
 exact ⟨_,rfl,Sx.post_below (pa:=[]) (pv:=[]) hW' (fun _ _ _=>trodAll_mk1 (shut_bool Try.underlying4 _)) (fun sp _=>hstay _ _ _ _) (fun _ _=>rfl) rfl hw
  (ok_one (by kernel_rfl) rfl (okWide_bool_mk Try.underlying4 true))⟩
theorem s0:Try.prog.funcNamed Rows.rhumbAscendsRow.func=some 3:=by kernel_rfl
theorem s10:(Rows.rhumbAscendsRow.inPlace==Try.prog.inPlace 3)=true:=by kernel_rfl
theorem s11:(Rows.rhumbAscendsRow.unfollowed==Try.prog.unfollowed 3)=true:=by kernel_rfl
theorem s12:(Rows.rhumbAscendsRow.recurses==Try.prog.recurses 3)=true:=by kernel_rfl
theorem s13:(Rows.rhumbAscendsRow.named==Try.prog.varsNamed 3)=true:=by kernel_rfl
theorem s22:(Rows.rhumbAscendsRow.plainKeys==Try.prog.plainKeys)=true:=by kernel_rfl
theorem Jj:(Rows.rhumbAscendsRow.lifted==Try.prog.liftsFinal)=true:=by kernel_rfl
theorem Jb:(Try.prog.make==some Rows.rhumbAscendsRow.make)=true:=by kernel_rfl
theorem sr:Dj Try.prog Try.f3 Rows.rhumbAscendsSpec Rows.rhumbAscendsRow=true:=by kernel_rfl
theorem si:Try.f3.isInstance Try.prog Rows.rhumbAscendsRow.origin Rows.rhumbAscendsRow.targs:=of_decide_eq_true (by kernel_rfl)
theorem sw:Try.f3.isWrapper Try.prog Rows.rhumbAscendsRow.wrapper Rows.rhumbAscendsRow.mainSum:=by unfold Func.isWrapper;rw [if_neg (of_decide_eq_false (by kernel_rfl))];exact ⟨rfl,rfl⟩
theorem sj:joinedFacts Try.prog 3 Try.f3 Rows.rhumbAscendsSpec Rows.rhumbAscendsRow=true :=
 zf jk2 jk3 jk7 jk9 s10 s11 s12 s13 s22 Ik Jm Jj Jb sr
theorem rhumbAscends_holds:Rows.RhumbAscendsSaid :=
 OpenClaim.holds_of_wide 3 Try.f3 rfl rfl rfl rfl rfl rfl rfl ⟨rfl,rfl,rfl,rfl,rfl⟩ rfl rfl rfl rfl rfl s0 Try.func3 sj si sw
  (fun os started H enc _=>lifted os started H enc)
