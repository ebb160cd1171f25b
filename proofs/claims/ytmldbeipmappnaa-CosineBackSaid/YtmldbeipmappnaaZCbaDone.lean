/- The statement 'CosineBack': proved off the law's contract. -/
import Derived.Test.YtmldbeipmappnaaRows
import Derived.Test.YtmldbeipmappnaaZFrame
import Derived.Test.YtmldbeipmappnaaZShut
import Derived.Test.YtmldbeipmappnaaZLawCba
set_option linter.unusedVariables false
set_option linter.unusedSimpArgs false
set_option maxRecDepth 100000
namespace Go.Proofs.Ytmldbeipmappnaa
open Go Go.ChangeShapes Go.WideShapes Go.ChangeAt Go.RowKit Go.Joins
theorem own:ownKnob Try.prog.godebug=none:=by kernel_rfl
theorem iq:Sx.shA Try.prog 8 Try.f7.params.toList=some [(false,[some .i64]),(false,[some .i64]),(false,[some .i64])]:=by decide +kernel
theorem jU:∀ (l:List Int),l.length=3->∃ a0 a1 a2,l=[a0,a1,a2]:=by
 intro l h
 match l,h with
 | [a0,a1,a2],_=>exact ⟨a0,a1,a2,rfl⟩
theorem lifted (os:Os) (started:os.Started) (H:Type) (enc:TypeId × Value->H) :
 ReturnsInHanded {} Try.checked os 7 .any (Rows.cosineBackSpec.pre6 enc Try.prog Try.f7 Rows.cosineBackRow.domain false) (Rows.cosineBackSpec.post enc Try.prog Try.f7 false true false false):=by
 refine returnsInHanded_of_change (C:=Try.checked) own started (by kernel_rfl) Try.func7
  (ChangeSpec.witness6 (enc:=enc) (C:=Try.checked) false ⟨#[],#[.int .i64 0,.int .i64 0,.int .i64 0],[]⟩ 8 (by kernel_rfl) (by kernel_rfl) (by kernel_rfl) (by kernel_rfl)) ?_
 intro W base args ds gs before hval hW hcnd _;have hW':=hW;obtain ⟨p,q,hA,hV,rfl,hfz,hnd⟩:=hW;obtain ⟨xs,hx,hl,hok,rfl,hstay⟩:=Sx.args_plain 8 Try.f7.params.toList args.toList ds p _ iq hA (fun j t v h1 h2=>hval j t v (by simpa using h1) (by simpa using h2))
 obtain ⟨a0,a1,a2,rfl⟩:=jU xs hl;have hA':DataW.TrodAll enc Try.prog W 0 (fun _=>true) true Try.f7.params.toList args.toList ds []:=hA
 obtain ⟨rfl,rfl⟩:=trodVars_none hV;rw [Try.params7] at hA'
 obtain ⟨v0,v1,v2,d0,d1,d2,_,_,_,-,rfl,-,-,-,-⟩:=trodAll_three hA'
 have hargs:args=⟨Sx.mkVals [(false,[some .i64]),(false,[some .i64]),(false,[some .i64])] [a0,a1,a2]⟩:=by rw [<-hx]
 subst hargs;refine (afg a0 a1 a2 W).mono fun e W' ⟨he,hw⟩=>?_
 subst he
 exact ⟨_,rfl,Sx.post_below (pa:=[]) (pv:=[]) hW' (fun _ _ _=>trodAll_mk1 (shut_bool Try.underlying4 _)) (fun sp _=>hstay _ _ _ _) (fun _ _=>rfl) rfl hw
  (ok_one (by kernel_rfl) rfl (okWide_bool_mk Try.underlying4 true))⟩
theorem s0:Try.prog.funcNamed Rows.cosineBackRow.func=some 7:=by kernel_rfl
theorem s10:(Rows.cosineBackRow.inPlace==Try.prog.inPlace 7)=true:=by kernel_rfl
theorem s11:(Rows.cosineBackRow.unfollowed==Try.prog.unfollowed 7)=true:=by kernel_rfl
theorem s12:(Rows.cosineBackRow.recurses==Try.prog.recurses 7)=true:=by kernel_rfl
theorem s13:(Rows.cosineBackRow.named==Try.prog.varsNamed 7)=true:=by kernel_rfl
theorem s22:(Rows.cosineBackRow.plainKeys==Try.prog.plainKeys)=true:=by kernel_rfl
theorem FD:(Rows.cosineBackRow.lifted==Try.prog.liftsFinal)=true:=by kernel_rfl
theorem ER:(Try.prog.make==some Rows.cosineBackRow.make)=true:=by kernel_rfl
theorem sr:yL Try.prog Try.f7 Rows.cosineBackSpec Rows.cosineBackRow=true:=by kernel_rfl
theorem si:Try.f7.isInstance Try.prog Rows.cosineBackRow.origin Rows.cosineBackRow.targs:=of_decide_eq_true (by kernel_rfl)
theorem sw:Try.f7.isWrapper Try.prog Rows.cosineBackRow.wrapper Rows.cosineBackRow.mainSum:=by unfold Func.isWrapper;rw [if_neg (of_decide_eq_false (by kernel_rfl))];exact ⟨rfl,rfl⟩
theorem sj:joinedFacts Try.prog 7 Try.f7 Rows.cosineBackSpec Rows.cosineBackRow=true :=
 mR jk2 jk3 jk7 jk9 s10 s11 s12 s13 s22 Gj Tp FD ER sr
theorem cosineBack_holds:Rows.CosineBackSaid :=
 OpenClaim.holds_of_wide 7 Try.f7 rfl rfl rfl rfl rfl rfl rfl ⟨rfl,rfl,rfl,rfl,rfl⟩ rfl rfl rfl rfl rfl s0 Try.func7 sj si sw
  (fun os started H enc _=>lifted os started H enc)
