/- The statement 'GreatcircleTracks': proved off the law's contract. -/
import Derived.Test.YtfffpodaabdpfaaGreatRows
import Derived.Test.YtfffpodaabdpfaaGreatFrame
import Derived.Test.YtfffpodaabdpfaaGreatShut
import Derived.Test.YtfffpodaabdpfaaGreatLawGT
namespace Go.Proofs.YtfffpodaabdpfaaGreat
open Go Go.ChangeShapes Go.WideShapes Go.ChangeAt Go.RowKit Go.Joins
set_option linter.unusedVariables false
theorem own:ownKnob Tryz.prog.godebug=none:=by kernel_rfl
theorem plainArgs:Sx.shA Tryz.prog 8 Tryz.f7.params.toList=some [(true,[some .i64,some .i64]),(true,[some .i64,some .i64]),(true,[some .i64,some .i64]),(false,[some .i64])]:=by decide +kernel
theorem listLen:∀ (l:List Int),l.length=7→∃ a0 a1 a2 a3 a4 a5 a6,l=[a0,a1,a2,a3,a4,a5,a6]:=by
 intro l h
 match l,h with
 | [a0,a1,a2,a3,a4,a5,a6],_=>exact ⟨a0,a1,a2,a3,a4,a5,a6,rfl⟩
set_option maxRecDepth 100000 in
theorem lifted (os:Os) (started:os.Started) (H:Type) (enc:TypeId × Value→H) :
 ReturnsInHanded {} Tryz.checked os 7 .any (Rows.greatcircleTracksSpec.pre6 enc Tryz.prog Tryz.f7 Rows.greatcircleTracksRow.domain false) (Rows.greatcircleTracksSpec.post enc Tryz.prog Tryz.f7 false true false false):=by
 refine returnsInHanded_of_change (C:=Tryz.checked) own started (by kernel_rfl) Tryz.func7
  (ChangeSpec.witness6 (enc:=enc) (C:=Tryz.checked) false ⟨#[],#[.agg #[.int .i64 0,.int .i64 0],.agg #[.int .i64 0,.int .i64 0],.agg #[.int .i64 0,.int .i64 0],.int .i64 0],[]⟩ 8 (by kernel_rfl) (by kernel_rfl) (by kernel_rfl) (by kernel_rfl)) ?_
 intro W base args ds gs before hval hW hcnd _
 have hW':=hW
 obtain ⟨p,q,hA,hV,rfl,hfz,hnd⟩:=hW
 obtain ⟨xs,hx,hl,hok,rfl,hstay⟩:=Sx.args_plain 8 Tryz.f7.params.toList args.toList ds p _ plainArgs hA (fun j t v h1 h2=>hval j t v (by simpa using h1) (by simpa using h2))
 obtain ⟨a0,a1,a2,a3,a4,a5,a6,rfl⟩:=listLen xs hl
 have hA':DataW.TrodAll enc Tryz.prog W 0 (fun _=>true) true Tryz.f7.params.toList args.toList ds []:=hA
 obtain ⟨rfl,rfl⟩:=trodVars_none hV
 rw [Tryz.params7] at hA'
 obtain ⟨v0,v1,v2,v3,d0,d1,d2,d3,_,_,_,_,-,rfl,-,-,-,-,-⟩:=trodAll_four hA'
 have hargs:args=⟨Sx.mkVals [(true,[some .i64,some .i64]),(true,[some .i64,some .i64]),(true,[some .i64,some .i64]),(false,[some .i64])] [a0,a1,a2,a3,a4,a5,a6]⟩:=by rw [← hx]
 subst hargs
 refine (c_lawGT a0 a1 a2 a3 a4 a5 a6 W).mono fun e W' ⟨he,hw⟩=>?_
 subst he
 exact ⟨_,rfl,Sx.post_below (pa:=[]) (pv:=[]) hW' (fun _ _ _=>trodAll_mk1 (shut_bool Tryz.underlying4 _)) (fun sp _=>hstay _ _ _ _) (fun _ _=>rfl) rfl hw
  (ok_one (by kernel_rfl) rfl (okWide_bool_mk Tryz.underlying4 true))⟩
theorem s0:Tryz.prog.funcNamed Rows.greatcircleTracksRow.func=some 7:=by kernel_rfl
theorem s10:(Rows.greatcircleTracksRow.inPlace == Tryz.prog.inPlace 7)=true:=by kernel_rfl
theorem s11:(Rows.greatcircleTracksRow.unfollowed == Tryz.prog.unfollowed 7)=true:=by kernel_rfl
theorem s12:(Rows.greatcircleTracksRow.recurses == Tryz.prog.recurses 7)=true:=by kernel_rfl
theorem s13:(Rows.greatcircleTracksRow.named == Tryz.prog.varsNamed 7)=true:=by kernel_rfl
theorem s22:(Rows.greatcircleTracksRow.plainKeys == Tryz.prog.plainKeys)=true:=by kernel_rfl
theorem s24b:(Rows.greatcircleTracksRow.lifted == Tryz.prog.liftsFinal)=true:=by kernel_rfl
theorem s24c:(Tryz.prog.make == some Rows.greatcircleTracksRow.make)=true:=by kernel_rfl
theorem sr:jrest Tryz.prog Tryz.f7 Rows.greatcircleTracksSpec Rows.greatcircleTracksRow=true:=by kernel_rfl
theorem si:Tryz.f7.isInstance Tryz.prog Rows.greatcircleTracksRow.origin Rows.greatcircleTracksRow.targs:=of_decide_eq_true (by kernel_rfl)
theorem sw:Tryz.f7.isWrapper Tryz.prog Rows.greatcircleTracksRow.wrapper Rows.greatcircleTracksRow.mainSum:=by unfold Func.isWrapper;rw [if_neg (of_decide_eq_false (by kernel_rfl))];exact ⟨rfl,rfl⟩
theorem sj:joinedFacts Tryz.prog 7 Tryz.f7 Rows.greatcircleTracksSpec Rows.greatcircleTracksRow=true :=
 joined_of jk2 jk3 jk7 jk9 s10 s11 s12 s13 s22 jk23b jk24 s24b s24c sr
theorem greatcircleTracks_holds:Rows.GreatcircleTracksSaid :=
 OpenClaim.holds_of_wide 7 Tryz.f7 rfl rfl rfl rfl rfl rfl rfl ⟨rfl,rfl,rfl,rfl,rfl⟩ rfl rfl rfl rfl rfl s0 Tryz.func7 sj si sw
  (fun os started H enc _=>lifted os started H enc)
end Go.Proofs.YtfffpodaabdpfaaGreat
