/- The statement 'LookupTables': proved off the law's contract. -/
import Derived.Test.YtoniodlcogpdbaaGreatRows
import Derived.WalkKit
import Derived.ProofKit
import Derived.OpenShut
import Derived.ChangeOld
import Derived.Below
import Derived.Lib.SmallJoins
import Derived.Deep.Slices
import Derived.WideKeyArgs
import Derived.Test.YtoniodlcogpdbaaGreatZFrame
import Derived.Test.YtoniodlcogpdbaaGreatZShut
import Derived.Test.YtoniodlcogpdbaaGreatZTbT
set_option linter.unusedVariables false
set_option linter.unusedSimpArgs false
set_option maxRecDepth 1000000
namespace Go.Proofs.YtoniodlcogpdbaaGreat
open Go Go.ChangeShapes Go.WideShapes Go.ChangeAt Go.RowKit Go.Joins Go.Deep Go.WideElems
theorem own:ownKnob Tryz.prog.godebug=none:=by kernel_rfl
theorem Fq:Tryz.prog.cellsOf 26=2:=by kernel_rfl
theorem Oh:Tryz.prog.cellsOf 24=6:=by kernel_rfl
theorem Uo:Tryz.prog.cellsOf 22=1:=by kernel_rfl
theorem DJ:Tryz.prog.cellsOf 3=1:=by kernel_rfl
theorem WB:Tryz.prog.readableRec 24=true:=by kernel_rfl
theorem WK:Tryz.prog.readableRec 26=true:=by kernel_rfl
theorem ack:24<Tryz.prog.types.size:=of_decide_eq_true (by kernel_rfl)
theorem aaV:26<Tryz.prog.types.size:=of_decide_eq_true (by kernel_rfl)
theorem adC {α:Type} (l:List α) (h:l.length=6):∃ a b c d e f,l=[a,b,c,d,e,f]:=by
 match l,h with
 | [a,b,c,d,e,f],_=>exact ⟨a,b,c,d,e,f,rfl⟩
theorem adw {α:Type} (l:List α) (h:l.length=2):∃ a b,l=[a,b]:=by
 match l,h with
 | [a,b],_=>exact ⟨a,b,rfl⟩
section
variable {H:Type} {enc:TypeId × Value->H} {w:World} {base:Nat} {spare:Nat->Bool} {held:Bool}
theorem xM {n:Nat} {cs:List Value} {x:DataW H × List MemPlace} (h:DataW.trod enc Tryz.prog w base spare held n 26 cs=some x):∃ a b:Int,cs=[.int .i64 a,.int .i64 b]:=by
 obtain ⟨y0,y1,m,_,hl,h0,h1⟩:=trod_struct2 Tryz.underlying26 h;rw [Fq] at hl;obtain ⟨c0,c1,rfl⟩:=adw cs hl;simp [DJ] at h0 h1;obtain ⟨a,e0,_,_⟩:=DataW.trod_int Tryz.underlying3 h0;obtain ⟨b,e1,_,_⟩:=DataW.trod_int Tryz.underlying3 h1;simp at e0 e1;exact ⟨a,b,by rw [e0,e1]⟩
theorem zP {n:Nat} {v:Value} {x:DataW H × List MemPlace} (h:DataW.trod enc Tryz.prog w base spare held n 22 [v]=some x) :
 ∃ (a:Option Addr) (cap:Nat) (L:Cs),v=.slice a L.length cap/\SlI 2 w a L:=by
 rcases open_slice Tryz.underlying22 h with ⟨h0,_⟩|⟨a,len,cap,m,n,D,Pl,h0,hb,hl,hm,hmm,hx,hi⟩
 . simp at h0;exact ⟨none,0,[],h0,.inl rfl⟩
 . simp at h0;rw [Fq] at hi;have hle:len<=m:=by rw [hmm];split<;>omega
   have hone:∀ i,i<len->∃ l:Int × Int,w.cell? (a.add (i*2))=some (.int .i64 l.1)/\w.cell? ((a.add (i*2)).add 1)=some (.int .i64 l.2):=by
    intro i hil;obtain ⟨cs',hc,ht⟩:=hi i (by omega)
    obtain ⟨p,q,rfl⟩:=xM ht;obtain ⟨_,_,hcell⟩:=World.cells?_some hc;have k0:=hcell 0 (by omega);have k1:=hcell 1 (by omega)
    exact ⟨(p,q),by simpa [Addr.add] using k0,k1⟩
   haveI:Inhabited (Int × Int):=⟨(0,0)⟩
   obtain ⟨f,hf⟩:=choose_lt hone;refine ⟨some a,cap,(List.range len).map (fun i=>[(f i).1,(f i).2]),by simpa using h0,?_⟩
   by_cases h00:len=0
   . subst h00;exact .inl rfl
   . obtain ⟨b,off,spot⟩:=a;have c0:=(hf 0 (by omega)).1
     have hspot:spot=none:=by simpa [Addr.add] using World.cell?_spot c0
     subst hspot;refine .inr ⟨b,off,rfl,?_,?_,fun i hi'=>?_⟩
     . have:=World.cells?_block (hi 0 (by omega)).choose_spec.1 (by omega)
       simpa [Addr.add] using this
     . intro x hx;obtain ⟨i,_,rfl⟩:=List.mem_map.1 hx;rfl
     . simp only [List.length_map,List.length_range] at hi'
       obtain ⟨q0,q1⟩:=hf i hi'
       simp only [Addr.add_lit] at q0 q1;intro j hj;simp only [List.getElem_map,List.getElem_range] at hj ⊢
       match j,hj with
       | 0,_=>simpa using q0
       | 1,_=>simpa using q1
theorem Bf {P:Program} {t:TypeId} {f0 f1 f2 f3 f4 f5:Field} {fuel:Nat} {cs:List Value} {x:DataW H × List MemPlace} (ht:P.underlying t=some (.struct #[f0,f1,f2,f3,f4,f5])) (h:DataW.trod enc P w base spare held fuel t cs=some x) :
 ∃ y0 y1 y2 y3 y4 y5 n,cs.length=P.cellsOf t/\DataW.trod enc P w base spare held n f0.type ((cs.drop f0.offset).take (P.cellsOf f0.type))=some y0/\DataW.trod enc P w base spare held n f1.type ((cs.drop f1.offset).take (P.cellsOf f1.type))=some y1/\DataW.trod enc P w base spare held n f2.type ((cs.drop f2.offset).take (P.cellsOf f2.type))=some y2/\DataW.trod enc P w base spare held n f3.type ((cs.drop f3.offset).take (P.cellsOf f3.type))=some y3/\DataW.trod enc P w base spare held n f4.type ((cs.drop f4.offset).take (P.cellsOf f4.type))=some y4/\DataW.trod enc P w base spare held n f5.type ((cs.drop f5.offset).take (P.cellsOf f5.type))=some y5:=by
 obtain ⟨xs,n,_,rfl,hl,hlen,hf⟩:=DataW.trod_struct ht h
 match xs,hlen with
 | [y0,y1,y2,y3,y4,y5],_=>exact ⟨y0,y1,y2,y3,y4,y5,n,hl,by simpa using hf 0 f0 rfl,by simpa using hf 1 f1 rfl,by simpa using hf 2 f2 rfl,by simpa using hf 3 f3 rfl,by simpa using hf 4 f4 rfl,by simpa using hf 5 f5 rfl⟩
theorem DX {n:Nat} {cs:List Value} {x:DataW H × List MemPlace} (h:DataW.trod enc Tryz.prog w base spare held n 24 cs=some x) :
 ∃ (la de eh ez:Int) (aH aZ:Option Addr) (cH cZ:Nat) (L M:Cs),cs=[.int .i64 la,.int .i64 de,.slice aH L.length cH,.slice aZ M.length cZ,.int .i64 eh,.int .i64 ez]/\SlI 2 w aH L/\SlI 2 w aZ M:=by
 obtain ⟨y0,y1,y2,y3,y4,y5,m,hl,h0,h1,h2,h3,h4,h5⟩:=Bf Tryz.underlying24 h;rw [Oh] at hl;obtain ⟨c0,c1,c2,c3,c4,c5,rfl⟩:=adC cs hl;simp [DJ,Uo] at h0 h1 h2 h3 h4 h5;obtain ⟨la,e0,_,_⟩:=DataW.trod_int Tryz.underlying3 h0;obtain ⟨de,e1,_,_⟩:=DataW.trod_int Tryz.underlying3 h1;obtain ⟨eh,e4,_,_⟩:=DataW.trod_int Tryz.underlying3 h4;obtain ⟨ez,e5,_,_⟩:=DataW.trod_int Tryz.underlying3 h5;obtain ⟨aH,cH,L,e2,s2⟩:=zP h2;obtain ⟨aZ,cZ,M,e3,s3⟩:=zP h3;simp at e0 e1 e4 e5;exact ⟨la,de,eh,ez,aH,aZ,cH,cZ,L,M,by rw [e0,e1,e2,e3,e4,e5],s2,s3⟩
end
theorem BH {cs:Array Value} {l:List Value} (h:(Value.agg cs).cells.toList=l):cs=l.toArray:=by
 have h2:cs.toList=l:=h;rw [<-h2]
theorem lifted (os:Os) (started:os.Started) (H:Type) (enc:TypeId × Value->H) :
 ReturnsInHanded {} Tryz.checked os 3 .any (Rows.lookupTablesSpec.pre6 enc Tryz.prog Tryz.f3 Rows.lookupTablesRow.domain false) (Rows.lookupTablesSpec.post enc Tryz.prog Tryz.f3 false true false false):=by
 refine returnsInHanded_of_change (C:=Tryz.checked) own started (by kernel_rfl) Tryz.func3
  (ChangeSpec.witness6 (enc:=enc) (C:=Tryz.checked) false ⟨#[],#[.agg #[.int .i64 0,.int .i64 0,.slice none 0 0,.slice none 0 0,.int .i64 0,.int .i64 0],.agg #[.int .i64 0,.int .i64 0,.slice none 0 0,.slice none 0 0,.int .i64 0,.int .i64 0],.agg #[.int .i64 0,.int .i64 0],.agg #[.int .i64 0,.int .i64 0]],[]⟩ 8 (by kernel_rfl) (by kernel_rfl) (by kernel_rfl) (by kernel_rfl)) ?_
 intro W base args ds gs before hval0 hW hcnd _;have hval:∀ (j:Nat) t v,Tryz.f3.params[j]? = some t->args[j]? = some v->Value.okWide Tryz.prog W .any base t v:=hval0;have hW':=hW;obtain ⟨p,q,hA0,hV,rfl,hfz,hnd⟩:=hW;have hA:DataW.TrodAll enc Tryz.prog W 0 (fun _=>true) true Tryz.f3.params.toList args.toList ds p:=hA0
 rw [Tryz.params3] at hA hval;obtain ⟨v0,v1,v2,v3,d0,d1,d2,d3,p0,p1,p2,p3,rfl,rfl,rfl,h0,h1,h2,h3⟩:=trodAll_four hA;obtain ⟨rfl,rfl⟩:=trodVars_none hV;have h0':=h0;have h1':=h1;have h2':=h2;have h3':=h3;have hp0:∀ x∈p0,x.block<W.heap.size:=fun x hx=>hW'.lt x (by simp [hx])
 have hp1:∀ x∈p1,x.block<W.heap.size:=fun x hx=>hW'.lt x (by simp [hx])
 have hp2:∀ x∈p2,x.block<W.heap.size:=fun x hx=>hW'.lt x (by simp [hx])
 have hp3:∀ x∈p3,x.block<W.heap.size:=fun x hx=>hW'.lt x (by simp [hx])
 obtain ⟨c0,rfl,_⟩:=okWide_struct Tryz.underlying24 (hval 0 24 v0 rfl rfl);obtain ⟨c1,rfl,_⟩:=okWide_struct Tryz.underlying24 (hval 1 24 v1 rfl rfl);obtain ⟨c2,rfl,_⟩:=okWide_struct Tryz.underlying26 (hval 2 26 v2 rfl rfl);obtain ⟨c3,rfl,_⟩:=okWide_struct Tryz.underlying26 (hval 3 26 v3 rfl rfl);obtain ⟨f0,g0⟩:=h0;obtain ⟨f1,g1⟩:=h1;obtain ⟨f2,g2⟩:=h2;obtain ⟨f3,g3⟩:=h3;obtain ⟨la,de,eh,ez,aH,aZ,cH,cZ,L,M,k0,sH,sZ⟩:=DX g0;obtain ⟨la2,de2,eh2,ez2,bH,bZ,dH,dZ,I,Y,k1,sI,sY⟩:=DX g1;obtain ⟨a0,a1,k2⟩:=xM g2;obtain ⟨b0,b1,k3⟩:=xM g3;clear hA0 hval0 g0 g1 g2 g3;obtain rfl:=BH k0;obtain rfl:=BH k1;obtain rfl:=BH k2;obtain rfl:=BH k3;refine (UD la de eh ez la2 de2 eh2 ez2 a0 a1 b0 b1 aH aZ bH bZ cH cZ dH dZ L M I Y W sH sZ sI sY).mono fun e W' ⟨he,hw⟩=>?_
 subst he
 refine ⟨_,rfl,Sx.post_below (pa:=p0++p1++p2++p3) (pv:=[]) hW' (fun _ _ _=>trodAll_mk1 (shut_bool Tryz.underlying4 _))
  (fun sp hsp=>?_) (fun _ _=>rfl) (by simp) hw
  (ok_one (by kernel_rfl) rfl (okWide_bool_mk Tryz.underlying4 true))⟩
 have T:=trodAll_mk4 (Trod_stays jk2 WB ack h0' (fun x hx=>hw.same (hp0 x hx)) (fun x hx=>hsp x (by simp [hx]))) (Trod_stays jk2 WB ack h1' (fun x hx=>hw.same (hp1 x hx)) (fun x hx=>hsp x (by simp [hx]))) (Trod_stays jk2 WK aaV h2' (fun x hx=>hw.same (hp2 x hx)) (fun x hx=>hsp x (by simp [hx]))) (Trod_stays jk2 WK aaV h3' (fun x hx=>hw.same (hp3 x hx)) (fun x hx=>hsp x (by simp [hx])))
 simp only [List.append_assoc] at T ⊢
 exact T
theorem s0:Tryz.prog.funcNamed Rows.lookupTablesRow.func=some 3:=by kernel_rfl
theorem s10:(Rows.lookupTablesRow.inPlace==Tryz.prog.inPlace 3)=true:=by kernel_rfl
theorem s11:(Rows.lookupTablesRow.unfollowed==Tryz.prog.unfollowed 3)=true:=by kernel_rfl
theorem s12:(Rows.lookupTablesRow.recurses==Tryz.prog.recurses 3)=true:=by kernel_rfl
theorem s13:(Rows.lookupTablesRow.named==Tryz.prog.varsNamed 3)=true:=by kernel_rfl
theorem s22:(Rows.lookupTablesRow.plainKeys==Tryz.prog.plainKeys)=true:=by kernel_rfl
theorem adh:(Rows.lookupTablesRow.lifted==Tryz.prog.liftsFinal)=true:=by kernel_rfl
theorem ady:(Tryz.prog.make==some Rows.lookupTablesRow.make)=true:=by kernel_rfl
theorem sr:PZ Tryz.prog Tryz.f3 Rows.lookupTablesSpec Rows.lookupTablesRow=true:=by kernel_rfl
theorem si:Tryz.f3.isInstance Tryz.prog Rows.lookupTablesRow.origin Rows.lookupTablesRow.targs:=of_decide_eq_true (by kernel_rfl)
theorem sw:Tryz.f3.isWrapper Tryz.prog Rows.lookupTablesRow.wrapper Rows.lookupTablesRow.mainSum:=by unfold Func.isWrapper;rw [if_neg (of_decide_eq_false (by kernel_rfl))];exact ⟨rfl,rfl⟩
theorem sj:joinedFacts Tryz.prog 3 Tryz.f3 Rows.lookupTablesSpec Rows.lookupTablesRow=true :=
 LK jk2 jk3 jk7 jk9 s10 s11 s12 s13 s22 abV adi adh ady sr
theorem lookupTables_holds:Rows.LookupTablesSaid :=
 OpenClaim.holds_of_wide 3 Tryz.f3 rfl rfl rfl rfl rfl rfl rfl ⟨rfl,rfl,rfl,rfl,rfl⟩ rfl rfl rfl rfl rfl s0 Tryz.func3 sj si sw
  (fun os started H enc _=>lifted os started H enc)
