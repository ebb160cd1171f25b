/- The statement 'GreatcircleOn': proved off the law's contract. -/
import Derived.Test.YtmldbeipmappnaaRows
import Derived.Test.YtmldbeipmappnaaZFrame
import Derived.Test.YtmldbeipmappnaaZShut
import Derived.Test.YtmldbeipmappnaaZOnT
set_option linter.unusedVariables false
set_option linter.unusedSimpArgs false
set_option maxRecDepth 100000
namespace Go.Proofs.Ytmldbeipmappnaa
open Go Go.ChangeShapes Go.WideShapes Go.ChangeAt Go.RowKit Go.Joins
theorem own:ownKnob Try.prog.godebug=none:=by kernel_rfl
theorem Fb:Sx.shA Try.prog 8 Try.f6.params.toList=some [(true,[some .i64,some .i64]),(true,[some .i64,some .i64]),(false,[some .u8]),(false,[some .i64]),(false,[some .i64])]:=by decide +kernel
theorem Nf:∀ (l:List Int),l.length=7->∃ a0 a1 a2 a3 a4 a5 a6,l=[a0,a1,a2,a3,a4,a5,a6]:=by
 intro l h
 match l,h with
 | [a0,a1,a2,a3,a4,a5,a6],_=>exact ⟨a0,a1,a2,a3,a4,a5,a6,rfl⟩
theorem lifted (os:Os) (started:os.Started) (H:Type) (enc:TypeId × Value->H) :
 ReturnsInHanded {} Try.checked os 6 .any (Rows.greatcircleOnSpec.pre6 enc Try.prog Try.f6 Rows.greatcircleOnRow.domain false) (Rows.greatcircleOnSpec.post enc Try.prog Try.f6 false true false false):=by
 refine returnsInHanded_of_change (C:=Try.checked) own started (by kernel_rfl) Try.func6
  (ChangeSpec.witness6 (enc:=enc) (C:=Try.checked) false ⟨#[],#[.agg #[.int .i64 0,.int .i64 0],.agg #[.int .i64 0,.int .i64 0],.int .u8 0,.int .i64 0,.int .i64 0],[]⟩ 8 (by kernel_rfl) (by kernel_rfl) (by kernel_rfl) (by kernel_rfl)) ?_
 intro W base args ds gs before hval hW hcnd _;have hW':=hW;obtain ⟨p,q,hA,hV,rfl,hfz,hnd⟩:=hW;obtain ⟨xs,hx,hl,hok,rfl,hstay⟩:=Sx.args_plain 8 Try.f6.params.toList args.toList ds p _ Fb hA (fun j t v h1 h2=>hval j t v (by simpa using h1) (by simpa using h2))
 obtain ⟨a0,a1,a2,a3,a4,a5,a6,rfl⟩:=Nf xs hl;have hA':DataW.TrodAll enc Try.prog W 0 (fun _=>true) true Try.f6.params.toList args.toList ds []:=hA
 obtain ⟨rfl,rfl⟩:=trodVars_none hV;rw [Try.params6] at hA'
 obtain ⟨v0,vs0,d0,ds0,p0,q0,-,rfl,-,-,hA0⟩:=trodAll_cons hA'
 obtain ⟨v1,vs1,d1,ds1,p1,q1,-,rfl,-,-,hA1⟩:=trodAll_cons hA0;obtain ⟨v2,vs2,d2,ds2,p2,q2,-,rfl,-,-,hA2⟩:=trodAll_cons hA1;obtain ⟨v3,vs3,d3,ds3,p3,q3,-,rfl,-,-,hA3⟩:=trodAll_cons hA2;obtain ⟨v4,vs4,d4,ds4,p4,q4,-,rfl,-,-,hA4⟩:=trodAll_cons hA3;obtain ⟨-,rfl,-⟩:=trodAll_nil hA4;have hargs:args=⟨Sx.mkVals [(true,[some .i64,some .i64]),(true,[some .i64,some .i64]),(false,[some .u8]),(false,[some .i64]),(false,[some .i64])] [a0,a1,a2,a3,a4,a5,a6]⟩:=by rw [<-hx]
 subst hargs
 have hu:0<=a4/\a4<=255:=by
  have p0:IntKind.u8.min=0:=by decide
  have p1:IntKind.u8.max=255:=by decide
  have m0:IntKind.u32.min=0:=by decide
  have m1:IntKind.u32.max=4294967295:=by decide
  have n0:IntKind.i32.min=-2147483648:=by decide
  have n1:IntKind.i32.max=2147483647:=by decide
  simp [Sx.okIs,Sx.okI,Lit.wf,p0,p1,m0,m1,n0,n1] at hok;omega
 refine (MU a0 a1 a2 a3 a4 a5 a6 W hu).mono fun e W' ⟨he,hw⟩=>?_
 subst he
 exact ⟨_,rfl,Sx.post_below (pa:=[]) (pv:=[]) hW' (fun _ _ _=>trodAll_mk1 (shut_bool Try.underlying4 _)) (fun sp _=>hstay _ _ _ _) (fun _ _=>rfl) rfl hw
  (ok_one (by kernel_rfl) rfl (okWide_bool_mk Try.underlying4 true))⟩
theorem s0:Try.prog.funcNamed Rows.greatcircleOnRow.func=some 6:=by kernel_rfl
theorem s10:(Rows.greatcircleOnRow.inPlace==Try.prog.inPlace 6)=true:=by kernel_rfl
theorem s11:(Rows.greatcircleOnRow.unfollowed==Try.prog.unfollowed 6)=true:=by kernel_rfl
theorem s12:(Rows.greatcircleOnRow.recurses==Try.prog.recurses 6)=true:=by kernel_rfl
theorem s13:(Rows.greatcircleOnRow.named==Try.prog.varsNamed 6)=true:=by kernel_rfl
theorem s22:(Rows.greatcircleOnRow.plainKeys==Try.prog.plainKeys)=true:=by kernel_rfl
theorem V7:(Rows.greatcircleOnRow.lifted==Try.prog.liftsFinal)=true:=by kernel_rfl
theorem VK:(Try.prog.make==some Rows.greatcircleOnRow.make)=true:=by kernel_rfl
theorem sr:J2 Try.prog Try.f6 Rows.greatcircleOnSpec Rows.greatcircleOnRow=true:=by kernel_rfl
theorem si:Try.f6.isInstance Try.prog Rows.greatcircleOnRow.origin Rows.greatcircleOnRow.targs:=of_decide_eq_true (by kernel_rfl)
theorem sw:Try.f6.isWrapper Try.prog Rows.greatcircleOnRow.wrapper Rows.greatcircleOnRow.mainSum:=by unfold Func.isWrapper;rw [if_neg (of_decide_eq_false (by kernel_rfl))];exact ⟨rfl,rfl⟩
theorem sj:joinedFacts Try.prog 6 Try.f6 Rows.greatcircleOnSpec Rows.greatcircleOnRow=true :=
 FN jk2 jk3 jk7 jk9 s10 s11 s12 s13 s22 Uk Wt V7 VK sr
theorem greatcircleOn_holds:Rows.GreatcircleOnSaid :=
 OpenClaim.holds_of_wide 6 Try.f6 rfl rfl rfl rfl rfl rfl rfl ⟨rfl,rfl,rfl,rfl,rfl⟩ rfl rfl rfl rfl rfl s0 Try.func6 sj si sw
  (fun os started H enc _=>lifted os started H enc)
