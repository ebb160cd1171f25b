/- The statement on the legs of composite sailing: proved off the law's contract. -/
import Derived.Test.YtknhbpnclokciaaGreatRows
import Derived.WalkKit
import Derived.ProofKit
import Derived.OpenShut
import Derived.ChangeOld
import Derived.Below
import Derived.Lib.SmallJoins
import Derived.Deep.Slices
import Derived.WideKeyArgs
import Derived.Test.YtknhbpnclokciaaGreatZShut
import Derived.Test.YtknhbpnclokciaaGreatZLawCL
set_option linter.unusedVariables false
set_option linter.unusedSimpArgs false
set_option maxRecDepth 1000000
namespace Go.Proofs.YtknhbpnclokciaaGreat
open Go Go.ChangeShapes Go.WideShapes Go.ChangeAt Go.RowKit Go.Joins Go.Deep Go.WideElems
section
variable {H:Type} {enc:TypeId × Value->H} {P:Program}
theorem post_below {f:Func} {s:ChangeSpec} {apart fresh handsOn again:Bool} {W W':World} {args:Array Value} {v:Value} {ds gs:List (DataW H)} {before pa pv:List MemPlace}
 (hW:DataW.Whole enc P f.params.toList s.vars apart W args.toList ds gs before)
 (hres:∀ (b:Nat) (sp:Nat->Bool) (hd:Bool),DataW.TrodAll enc P W' b sp hd f.resultTypes.toList (v.resultList f.resultTypes.size) (s.fn H (ds++gs)).results [])
 (hargs:∀ sp:Nat->Bool,(∀ p∈before,sp p.block=true)->DataW.TrodAll enc P W' 0 sp true f.params.toList args.toList (s.fn H (ds++gs)).args pa)
 (hvars:∀ sp:Nat->Bool,(∀ p∈before,sp p.block=true)->DataW.TrodVars enc P W' sp s.vars (s.fn H (ds++gs)).vars pv)
 (hps:before=pa++pv) (hb:Below W.heap.size W W')
 (hok:∀ (j:Nat) (t:TypeId) (r:Value),f.resultTypes[j]? = some t->(v.resultList f.resultTypes.size)[j]? = some r->Value.okWide P W' .any 0 t r) :
 s.post enc P f apart fresh handsOn again W args v W':=by
 have hlt:∀ p∈before,p.block<W.heap.size:=fun p hp=>hW.lt p hp
 have hold:∀ p∈before,(fun b=>decide (b<W.heap.size)) p.block=true:=fun p hp=>by simpa using hlt p hp
 refine ⟨ds,gs,before,[],pa,pv,hW,hres _ _ _,hargs _ hold,hvars _ hold,World.keptBut_mono (fun p hp=>⟨hp,?_⟩) (hb.frame (·∈before)),fun _=>?_⟩
 . rw [hps,List.mem_append] at hp;exact Or.inr hp
 . obtain ⟨_,_,_,_,_,hz,hn⟩:=hW;refine ⟨hok,_,_,([]++pa)++pv,⟨[]++pa,pv,trodAll_append (hargs _ (fun _ _=>rfl)) (hres _ _ _),hvars _ (fun _ _=>rfl),rfl,?_,?_⟩,?_⟩
   . intro b off hp;have hin:MemPlace.cell b off∈before:=by rw [hps];simpa using hp
     rw [hb.frozen (hlt _ hin)];exact hz b off hin
   . intro ha;have:=hn ha;rw [hps] at this
     simpa using this
   . intro p hp _;rw [hps]
     simpa using hp
end
theorem own:ownKnob Tryz.prog.godebug=none:=by kernel_rfl
theorem JI:Tryz.prog.cellsOf 23=2:=by kernel_rfl
theorem QS:Tryz.prog.cellsOf 3=1:=by kernel_rfl
theorem adR:Tryz.prog.readableRec 25=true:=by kernel_rfl
theorem aez:25<Tryz.prog.types.size:=of_decide_eq_true (by kernel_rfl)
theorem aeO {α:Type} (l:List α) (h:l.length=2):∃ a b,l=[a,b]:=by
 match l,h with
 | [a,b],_=>exact ⟨a,b,rfl⟩
section
variable {H:Type} {enc:TypeId × Value->H} {w:World} {base:Nat} {spare:Nat->Bool} {held:Bool}
theorem TM {n:Nat} {cs:List Value} {x:DataW H × List MemPlace} (h:DataW.trod enc Tryz.prog w base spare held n 23 cs=some x):∃ a b:Int,cs=[.int .i64 a,.int .i64 b]:=by
 obtain ⟨y0,y1,m,_,hl,h0,h1⟩:=trod_struct2 Tryz.underlying23 h;rw [JI] at hl;obtain ⟨c0,c1,rfl⟩:=aeO cs hl;simp [QS] at h0 h1;obtain ⟨a,e0,_,_⟩:=DataW.trod_int Tryz.underlying3 h0;obtain ⟨b,e1,_,_⟩:=DataW.trod_int Tryz.underlying3 h1;simp at e0 e1;exact ⟨a,b,by rw [e0,e1]⟩
theorem Qw {n:Nat} {v:Value} {x:DataW H × List MemPlace} (h:DataW.trod enc Tryz.prog w base spare held n 25 [v]=some x) :
 ∃ (a:Option Addr) (cap:Nat) (L:Cs),v=.slice a L.length cap/\SlI 2 w a L:=by
 rcases open_slice Tryz.underlying25 h with ⟨h0,_⟩|⟨a,len,cap,m,n,D,Pl,h0,hb,hl,hm,hmm,hx,hi⟩
 . simp at h0;exact ⟨none,0,[],h0,.inl rfl⟩
 . simp at h0;rw [JI] at hi;have hle:len<=m:=by rw [hmm];split<;>omega
   have hone:∀ i,i<len->∃ l:Int × Int,w.cell? (a.add (i*2))=some (.int .i64 l.1)/\w.cell? ((a.add (i*2)).add 1)=some (.int .i64 l.2):=by
    intro i hil;obtain ⟨cs',hc,ht⟩:=hi i (by omega)
    obtain ⟨p,q,rfl⟩:=TM ht;obtain ⟨_,_,hcell⟩:=World.cells?_some hc;have k0:=hcell 0 (by omega);have k1:=hcell 1 (by omega)
    exact ⟨(p,q),by simpa [Addr.add] using k0,k1⟩
   haveI:Inhabited (Int × Int):=⟨(0,0)⟩
   obtain ⟨f,hf⟩:=choose_lt hone;refine ⟨some a,cap,(List.range len).map (fun i=>[(f i).1,(f i).2]),by simpa using h0,?_⟩
   by_cases h00:len=0
   . subst h00;exact .inl rfl
   . obtain ⟨b,off,spot⟩:=a;have c0:=(hf 0 (by omega)).1
     have hspot:spot=none:=by simpa [Addr.add] using World.cell?_spot c0
     subst hspot;refine .inr ⟨b,off,rfl,?_,?_,fun i hi'=>?_⟩
     . have:=World.cells?_block (hi 0 (by omega)).choose_spec.1 (by omega)
       simpa [Addr.add] using this
     . intro x hx;obtain ⟨i,_,rfl⟩:=List.mem_map.1 hx;rfl
     . simp only [List.length_map,List.length_range] at hi'
       obtain ⟨q0,q1⟩:=hf i hi'
       simp only [Addr.add_lit] at q0 q1;intro j hj;simp only [List.getElem_map,List.getElem_range] at hj ⊢
       match j,hj with
       | 0,_=>simpa using q0
       | 1,_=>simpa using q1
end
theorem lifted (os:Os) (started:os.Started) (H:Type) (enc:TypeId × Value->H) :
 ReturnsInHanded {} Tryz.checked os 4 .any (Rows.compositeLegsSpec.pre6 enc Tryz.prog Tryz.f4 Rows.compositeLegsRow.domain false) (Rows.compositeLegsSpec.post enc Tryz.prog Tryz.f4 false true false false):=by
 refine returnsInHanded_of_change (C:=Tryz.checked) own started (by kernel_rfl) Tryz.func4
  (ChangeSpec.witness6 (enc:=enc) (C:=Tryz.checked) false ⟨#[],#[.slice none 0 0,.int .i64 0],[]⟩ 8 (by kernel_rfl) (by kernel_rfl) (by kernel_rfl) (by kernel_rfl)) ?_
 intro W base args ds gs before hval0 hW hcnd _;have hval:∀ (j:Nat) t v,Tryz.f4.params[j]? = some t->args[j]? = some v->Value.okWide Tryz.prog W .any base t v:=hval0;have hW':=hW;obtain ⟨p,q,hA0,hV,rfl,hfz,hnd⟩:=hW;have hA:DataW.TrodAll enc Tryz.prog W 0 (fun _=>true) true Tryz.f4.params.toList args.toList ds p:=hA0
 rw [Tryz.params4] at hA hval;obtain ⟨v0,v1,d0,d1,p0,p1,rfl,rfl,rfl,h0,h1⟩:=trodAll_two hA;obtain ⟨rfl,rfl⟩:=trodVars_none hV;obtain ⟨lim,rfl,rfl,rfl,wc⟩:=open_int Tryz.underlying3 (hval 1 3 v1 rfl rfl) h1;have h0':=h0;have hpl:∀ x∈p0,x.block<W.heap.size:=fun x hx=>hW'.lt x (by simp [hx])
 obtain ⟨fuel,hf⟩:=h0
 have hv0:v0.cells.toList=[v0]:=by
  obtain ⟨a,n,c,rfl⟩:=okWide_slice Tryz.underlying25 (hval 0 25 v0 rfl rfl);rfl
 rw [hv0] at hf;obtain ⟨a,cap,L,rfl,hL⟩:=Qw hf;clear hA0 hval0;simp only [List.append_nil] at hW'
 refine (UG a cap L lim W hL).mono fun e W' ⟨he,hw⟩=>?_
 subst he
 exact ⟨_,rfl,post_below (pa:=p0) (pv:=[]) hW' (fun _ _ _=>trodAll_mk1 (shut_bool Tryz.underlying4 _))
  (fun sp hsp=>by
   have:=trodAll_mk2 (Trod_stays jk2 adR aez h0' (fun x hx=>hw.same (hpl x hx)) (fun x hx=>hsp x (by simpa using hx))) (shut_int (w:=W') (base:=0) (spare:=sp) (held:=true) Tryz.underlying3 wc)
   rw [List.append_nil] at this;exact this) (fun _ _=>rfl) (by simp) hw
  (ok_one (by kernel_rfl) rfl (okWide_bool_mk Tryz.underlying4 true))⟩
theorem s0:Tryz.prog.funcNamed Rows.compositeLegsRow.func=some 4:=by kernel_rfl
theorem s10:(Rows.compositeLegsRow.inPlace==Tryz.prog.inPlace 4)=true:=by kernel_rfl
theorem s11:(Rows.compositeLegsRow.unfollowed==Tryz.prog.unfollowed 4)=true:=by kernel_rfl
theorem s12:(Rows.compositeLegsRow.recurses==Tryz.prog.recurses 4)=true:=by kernel_rfl
theorem s13:(Rows.compositeLegsRow.named==Tryz.prog.varsNamed 4)=true:=by kernel_rfl
theorem s22:(Rows.compositeLegsRow.plainKeys==Tryz.prog.plainKeys)=true:=by kernel_rfl
theorem Gb:(Rows.compositeLegsRow.lifted==Tryz.prog.liftsFinal)=true:=by kernel_rfl
theorem Ig:(Tryz.prog.make==some Rows.compositeLegsRow.make)=true:=by kernel_rfl
theorem sr:zN Tryz.prog Tryz.f4 Rows.compositeLegsSpec Rows.compositeLegsRow=true:=by kernel_rfl
theorem si:Tryz.f4.isInstance Tryz.prog Rows.compositeLegsRow.origin Rows.compositeLegsRow.targs:=of_decide_eq_true (by kernel_rfl)
theorem sw:Tryz.f4.isWrapper Tryz.prog Rows.compositeLegsRow.wrapper Rows.compositeLegsRow.mainSum:=by unfold Func.isWrapper;rw [if_neg (of_decide_eq_false (by kernel_rfl))];exact ⟨rfl,rfl⟩
theorem sj:joinedFacts Tryz.prog 4 Tryz.f4 Rows.compositeLegsSpec Rows.compositeLegsRow=true :=
 nK jk2 jk3 jk7 jk9 s10 s11 s12 s13 s22 Jp WM Gb Ig sr
theorem compositeLegs_holds:Rows.CompositeLegsSaid :=
 OpenClaim.holds_of_wide 4 Tryz.f4 rfl rfl rfl rfl rfl rfl rfl ⟨rfl,rfl,rfl,rfl,rfl⟩ rfl rfl rfl rfl rfl s0 Tryz.func4 sj si sw
  (fun os started H enc _=>lifted os started H enc)
