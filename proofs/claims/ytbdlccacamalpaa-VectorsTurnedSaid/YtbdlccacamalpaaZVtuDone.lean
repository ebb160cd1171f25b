/- The statement 'VectorsTurned': proved off the law's contract. -/
import Derived.Test.YtbdlccacamalpaaRows
import Derived.Test.YtbdlccacamalpaaZFrame
import Derived.Test.YtbdlccacamalpaaZShut
import Derived.Test.YtbdlccacamalpaaZLawVtu
set_option linter.unusedVariables false
set_option linter.unusedSimpArgs false
set_option maxRecDepth 100000
namespace Go.Proofs.Ytbdlccacamalpaa
open Go Go.ChangeShapes Go.WideShapes Go.ChangeAt Go.RowKit Go.Joins
theorem own:ownKnob Try.prog.godebug=none:=by kernel_rfl
theorem Br:Sx.shA Try.prog 8 Try.f3.params.toList=some [(false,[some .i32]),(false,[some .i32]),(false,[some .i32]),(false,[some .i32]),(false,[some .i32])]:=by decide +kernel
theorem Hy:∀ (l:List Int),l.length=5->∃ a0 a1 a2 a3 a4,l=[a0,a1,a2,a3,a4]:=by
 intro l h
 match l,h with
 | [a0,a1,a2,a3,a4],_=>exact ⟨a0,a1,a2,a3,a4,rfl⟩
theorem lifted (os:Os) (started:os.Started) (H:Type) (enc:TypeId × Value->H) :
 ReturnsInHanded {} Try.checked os 3 .any (Rows.vectorsTurnedSpec.pre6 enc Try.prog Try.f3 Rows.vectorsTurnedRow.domain false) (Rows.vectorsTurnedSpec.post enc Try.prog Try.f3 false true false false):=by
 refine returnsInHanded_of_change (C:=Try.checked) own started (by kernel_rfl) Try.func3
  (ChangeSpec.witness6 (enc:=enc) (C:=Try.checked) false ⟨#[],#[.int .i32 0,.int .i32 0,.int .i32 0,.int .i32 0,.int .i32 0],[]⟩ 8 (by kernel_rfl) (by kernel_rfl) (by kernel_rfl) (by kernel_rfl)) ?_
 intro W base args ds gs before hval hW hcnd _;have hW':=hW;obtain ⟨p,q,hA,hV,rfl,hfz,hnd⟩:=hW;obtain ⟨xs,hx,hl,hok,rfl,hstay⟩:=Sx.args_plain 8 Try.f3.params.toList args.toList ds p _ Br hA (fun j t v h1 h2=>hval j t v (by simpa using h1) (by simpa using h2))
 obtain ⟨a0,a1,a2,a3,a4,rfl⟩:=Hy xs hl;have hA':DataW.TrodAll enc Try.prog W 0 (fun _=>true) true Try.f3.params.toList args.toList ds []:=hA
 obtain ⟨rfl,rfl⟩:=trodVars_none hV;rw [Try.params3] at hA'
 obtain ⟨v0,vs0,d0,ds0,p0,q0,-,rfl,-,-,hA0⟩:=trodAll_cons hA'
 obtain ⟨v1,vs1,d1,ds1,p1,q1,-,rfl,-,-,hA1⟩:=trodAll_cons hA0;obtain ⟨v2,vs2,d2,ds2,p2,q2,-,rfl,-,-,hA2⟩:=trodAll_cons hA1;obtain ⟨v3,vs3,d3,ds3,p3,q3,-,rfl,-,-,hA3⟩:=trodAll_cons hA2;obtain ⟨v4,vs4,d4,ds4,p4,q4,-,rfl,-,-,hA4⟩:=trodAll_cons hA3;obtain ⟨-,rfl,-⟩:=trodAll_nil hA4;have hargs:args=⟨Sx.mkVals [(false,[some .i32]),(false,[some .i32]),(false,[some .i32]),(false,[some .i32]),(false,[some .i32])] [a0,a1,a2,a3,a4]⟩:=by rw [<-hx]
 subst hargs;refine (Tm a0 a1 a2 a3 a4 W).mono fun e W' ⟨he,hw⟩=>?_
 subst he
 exact ⟨_,rfl,Sx.post_below (pa:=[]) (pv:=[]) hW' (fun _ _ _=>trodAll_mk1 (shut_bool Try.underlying4 _)) (fun sp _=>hstay _ _ _ _) (fun _ _=>rfl) rfl hw
  (ok_one (by kernel_rfl) rfl (okWide_bool_mk Try.underlying4 true))⟩
theorem s0:Try.prog.funcNamed Rows.vectorsTurnedRow.func=some 3:=by kernel_rfl
theorem s10:(Rows.vectorsTurnedRow.inPlace==Try.prog.inPlace 3)=true:=by kernel_rfl
theorem s11:(Rows.vectorsTurnedRow.unfollowed==Try.prog.unfollowed 3)=true:=by kernel_rfl
theorem s12:(Rows.vectorsTurnedRow.recurses==Try.prog.recurses 3)=true:=by kernel_rfl
theorem s13:(Rows.vectorsTurnedRow.named==Try.prog.varsNamed 3)=true:=by kernel_rfl
theorem s22:(Rows.vectorsTurnedRow.plainKeys==Try.prog.plainKeys)=true:=by kernel_rfl
theorem RJ:(Rows.vectorsTurnedRow.lifted==Try.prog.liftsFinal)=true:=by kernel_rfl
theorem RY:(Try.prog.make==some Rows.vectorsTurnedRow.make)=true:=by kernel_rfl
theorem sr:EE Try.prog Try.f3 Rows.vectorsTurnedSpec Rows.vectorsTurnedRow=true:=by kernel_rfl
theorem si:Try.f3.isInstance Try.prog Rows.vectorsTurnedRow.origin Rows.vectorsTurnedRow.targs:=of_decide_eq_true (by kernel_rfl)
theorem sw:Try.f3.isWrapper Try.prog Rows.vectorsTurnedRow.wrapper Rows.vectorsTurnedRow.mainSum:=by unfold Func.isWrapper;rw [if_neg (of_decide_eq_false (by kernel_rfl))];exact ⟨rfl,rfl⟩
theorem sj:joinedFacts Try.prog 3 Try.f3 Rows.vectorsTurnedSpec Rows.vectorsTurnedRow=true :=
 Bo jk2 jk3 jk7 jk9 s10 s11 s12 s13 s22 OQ Sc RJ RY sr
theorem vectorsTurned_holds:Rows.VectorsTurnedSaid :=
 OpenClaim.holds_of_wide 3 Try.f3 rfl rfl rfl rfl rfl rfl rfl ⟨rfl,rfl,rfl,rfl,rfl⟩ rfl rfl rfl rfl rfl s0 Try.func3 sj si sw
  (fun os started H enc _=>lifted os started H enc)
