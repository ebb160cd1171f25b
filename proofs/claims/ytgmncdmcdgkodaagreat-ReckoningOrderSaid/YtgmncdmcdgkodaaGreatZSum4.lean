/- The contract of Traverse where a leg is not valid. -/
import Derived.Test.YtgmncdmcdgkodaaGreatZSumM
import Derived.Deep.AppendLies
import Derived.Lib.SliceRun
import Derived.Test.YtgmncdmcdgkodaaGreatZRk8
import Derived.Test.YtgmncdmcdgkodaaGreatZTm1
import Derived.Shelf.Bytes.SlCase
set_option linter.unusedVariables false
set_option linter.unusedSimpArgs false
set_option maxRecDepth 100000
set_option maxHeartbeats 4000000
namespace Go.Proofs.YtgmncdmcdgkodaaGreat
open Go.RowKit Alm
end Go.Proofs.YtgmncdmcdgkodaaGreat
namespace Go.Proofs.YtgmncdmcdgkodaaGreat
open Go.RowKit Alm
def lv (l:ag):List Value:=[.int .i64 l.cl,.int .i64 l.ch,.int .i64 l.dl,.int .i64 l.dh]
def flat (L:List ag):List Value:=L.flatMap lv
theorem qg (l:ag) (L:List ag):flat (l::L)=lv l++flat L:=rfl
theorem oC (L:List ag):(flat L).length=L.length*4:=by
 induction L with
 | nil=>rfl
 | cons l L ih=>rw [qg,List.length_append,ih,List.length_cons];simp [lv];omega
theorem flat_get (L:List ag):∀ (i:Nat) (hi:i<L.length) (k:Nat) (hk:k<4),(flat L)[i*4+k]? = (lv L[i])[k]?:=by
 induction L with
 | nil=>intro i hi;simp at hi
 | cons l L ih =>
  intro i hi k hk;have hl:(lv l).length=4:=rfl;rw [qg];cases i with
  | zero=>rw [List.getElem?_append_left (by omega)];simp
  | succ i =>
   rw [List.getElem?_append_right (by omega),show (i+1)*4+k-(lv l).length=i*4+k by omega,ih i (by simp at hi;omega) k hk]
   rfl
theorem BC (L:List ag):∀ u∈flat L,u.oneCell'=true:=by
 intro u hu;unfold flat at hu;rw [List.mem_flatMap] at hu;obtain ⟨l,_,h⟩:=hu;unfold lv at h;simp at h;rcases h with rfl|rfl|rfl|rfl<;>rfl
theorem tC {w:World} {b off:Nat} {L:List ag} (h:bW w b off L):∀ j u,(flat L)[j]? = some u->w.cell? ⟨b,off+j,none⟩=some u:=by
 intro j u hu
 have hj:j<(flat L).length:=by
  rcases Nat.lt_or_ge j (flat L).length with h|h
  . exact h
  . rw [List.getElem?_eq_none h] at hu;cases hu
 rw [oC] at hj;have e:j=j/4*4+j%4:=by omega
 have hi:j/4<L.length:=by omega
 rw [e,flat_get L (j/4) hi (j%4) (by omega)] at hu
 obtain ⟨c0,c1,c2,c3⟩:=h.2 (j/4) hi;have hk:j%4=0∨j%4=1∨j%4=2∨j%4=3:=by omega
 rw [show off+j=off+j/4*4+j%4 by omega]
 unfold lv at hu;rcases hk with k|k|k|k<;>rw [k] at hu ⊢<;>simp at hu<;>subst hu<;>assumption
theorem zx {w:World} {base n:Nat} {e:TypeId} {g cap:Nat} {L:List ag} (h:w.ownsRow base e 4 (.slice (some ⟨g,0,none⟩) n cap) n (flat L)) (h0:0<n):n=L.length/\base<=g/\g<w.heap.size/\bW w g 0 L/\(∀ j,w.frozen? ⟨g,j,none⟩=false):=by
 obtain ⟨hl,h|⟨g',cap',cur,hv,hb,hg,hc,hm,hs,ht⟩⟩:=h
 . omega
 . injection hv with e1 e2 e3
   obtain rfl:g=g':=by injection e1 with e1;injection e1
   have hgl:g<w.heap.size:=by
    rcases Nat.lt_or_ge g w.heap.size with hlt|hge
    . exact hlt
    . rw [Array.getElem?_eq_none hge] at hg;cases hg
   rw [oC] at hl;have hn:n=L.length:=by omega
   have hcell:∀ j u,(flat L)[j]? = some u->w.cell? ⟨g,j,none⟩=some u:=by
    intro j u hu;rw [cell_of_row w g j cur e (0,0) hg]
    have hj:j<(flat L).length:=by
     rcases Nat.lt_or_ge j (flat L).length with h|h
     . exact h
     . rw [List.getElem?_eq_none h] at hu;cases hu
    rw [<-ht] at hu hj;rw [List.getElem?_take_of_lt (by rw [List.length_take] at hj;omega)] at hu
    simpa using hu
   refine ⟨hn,hb,hgl,⟨hgl,fun i hi=>?_⟩,fun j=>?_⟩
   . have k0:=flat_get L i hi 0 (by omega);have k1:=flat_get L i hi 1 (by omega);have k2:=flat_get L i hi 2 (by omega);have k3:=flat_get L i hi 3 (by omega)
     unfold nC;simp only [Nat.zero_add];exact ⟨hcell _ _ k0,hcell _ _ k1,hcell _ _ k2,hcell _ _ k3⟩
   . simp [World.frozen?,hg]
theorem um:∃ (i:TypeInfo) (z:Value),Tryz.prog.info? 35=some i/\i.zero=some z/\i.size=4/\i.bytes=32/\z.cells.size=4:=by
 have h1:((Tryz.prog.info? 35).bind fun i=>i.zero.map fun z=>(i.size,i.bytes,z.cells.size))=some (4,32,4):=by kernel_rfl
 cases hi:Tryz.prog.info? 35 with
 | none=>rw [hi] at h1;simp at h1
 | some i =>
  rw [hi] at h1;cases hz:i.zero with
  | none=>simp [hz] at h1
  | some z =>
   simp [hz] at h1;exact ⟨i,z,rfl,hz,h1.1,h1.2.1,h1.2.2⟩
theorem ED (b off cap:Nat) (L:List ag) (w:World) (hR:bW w b off L) (h0:0<L.length) (hn:L.length<=60) :
 Calls Tryz.prog 12 #[.slice (some ⟨b,off,none⟩) L.length cap] w fun e w'=>∃ g c,e=.returned (.slice (some ⟨g,0,none⟩) L.length c)/\w'.ownsRow w.heap.size 35 4 (.slice (some ⟨g,0,none⟩) L.length c) L.length (flat L)/\Below w.heap.size w w':=by
 obtain ⟨i,z,hi,hz,hs,hb,hzs⟩:=um;have q22:∀ (w:World) (a:Option Addr) (n c n' c':Nat),(binOp .eql 28 (.slice a n c) (.slice none n' c')).run Tryz.prog w=.ok (.bool a.isNone) w:=fun w a n c n' c'=>Lib.run_eql_slice_nil w _ _ a n c n' c' Tryz.underlying28
 have A:=Lib.hid hR;clear hR;go_enter Tryz.func12,Tryz.ntmps12;go_wp2_with (at_builtin;refine wpList_append_lies _ rfl _ _ 28 rfl w.heap.size 35 i z 4 32 Tryz.underlying28 hi hz hs hb hzs (by omega) _ _ _ rfl (World.ownsRow_made w #[] 0 (Nat.le_refl _) (Nat.zero_le _) (by simp)) ⟨b,off,none⟩ L.length cap (flat L) rfl ?qc1 ?qc2 ?qc3 ?qc7 ?qc4 ?qc5 ?qc6 _ rfl ?_)
 case qc1=>exact oC L
 case qc2 =>
  intro j u hj;rw [Addr.add_lit];exact Lib.cell?_alloc_some _ (tC A.out j u hj)
 case qc3=>exact BC L
 case qc7=>exact h0
 case qc4=>simp [maxLen];omega
 case qc5=>omega
 case qc6=>simp
 intro g c w1 hown hgrow hat hlt;go_wp2;go_ret;refine ⟨g,c,by first|rfl|simp,by simpa using hown,?_⟩
 exact ((Below.refl _ w).alloc (Nat.le_refl _) _).grown hgrow (by simp) (by intro k hk;simp [Value.ownBlock] at hk;omega)
end Go.Proofs.YtgmncdmcdgkodaaGreat
namespace Go.Proofs.YtgmncdmcdgkodaaGreat
open Go.RowKit Alm
def eQ (w:World) (g o:Nat) (l:ag):World:=(((w.setCell ⟨g,o,none⟩ (.int .i64 l.cl)).setCell ⟨g,o+1,none⟩ (.int .i64 l.ch)).setCell ⟨g,o+2,none⟩ (.int .i64 l.dl)).setCell ⟨g,o+3,none⟩ (.int .i64 l.dh)
theorem yZ (w:World) (g o p:Nat) (l:ag) (h:p<o∨o+4<=p):(eQ w g o l).cell? ⟨g,p,none⟩=w.cell? ⟨g,p,none⟩:=by
 unfold eQ;rw [World.cell?_setCell_other _ _ _ _ (by intro e;injection e with _ e;omega),World.cell?_setCell_other _ _ _ _ (by intro e;injection e with _ e;omega),World.cell?_setCell_other _ _ _ _ (by intro e;injection e with _ e;omega),World.cell?_setCell_other _ _ _ _ (by intro e;injection e with _ e;omega)]
theorem mR (w:World) (g o p:Nat) (l m:ag) (h:nC w g p m) (hp:p+4<=o∨o+4<=p):nC (eQ w g o l) g p m:=by
 obtain ⟨a,b,c,d⟩:=h;refine ⟨?_,?_,?_,?_⟩<;>rw [yZ _ _ _ _ _ (by omega)]<;>assumption
theorem Ay (w:World) (g o:Nat) (l m:ag) (h:nC w g o m):nC (eQ w g o l) g o l:=by
 obtain ⟨a,b,c,d⟩:=h;unfold eQ;have sm:∀ (w:World) (p:Nat) (v u:Value),w.cell? ⟨g,p,none⟩=some u->(w.setCell ⟨g,p,none⟩ v).cell? ⟨g,p,none⟩=some v:=fun w p v u h=>World.cell?_setCell_same _ _ _ h
 have ot:∀ (w:World) (p q:Nat) (v:Value),p≠q->(w.setCell ⟨g,p,none⟩ v).cell? ⟨g,q,none⟩=w.cell? ⟨g,q,none⟩:=fun w p q v h=>World.cell?_setCell_other _ _ _ _ (by intro e;injection e with _ e;exact h e)
 refine ⟨?_,?_,?_,?_⟩
 . rw [ot _ _ _ _ (by omega),ot _ _ _ _ (by omega),ot _ _ _ _ (by omega)];exact sm _ _ _ _ a
 . rw [ot _ _ _ _ (by omega),ot _ _ _ _ (by omega)];exact sm _ _ _ _ (by rw [ot _ _ _ _ (by omega)];exact b)
 . rw [ot _ _ _ _ (by omega)];exact sm _ _ _ _ (by rw [ot _ _ _ _ (by omega),ot _ _ _ _ (by omega)];exact c)
 . exact sm _ _ _ _ (by rw [ot _ _ _ _ (by omega),ot _ _ _ _ (by omega),ot _ _ _ _ (by omega)];exact d)
theorem qI {w0 w:World} {N g:Nat} (h:Below N w0 w) (o:Nat) (l:ag) (hg:N<=g):Below N w0 (eQ w g o l) :=
 (((h.setCell (p:=⟨g,o,none⟩) hg _).setCell (p:=⟨g,o+1,none⟩) hg _).setCell (p:=⟨g,o+2,none⟩) hg _).setCell (p:=⟨g,o+3,none⟩) hg _
theorem dV (w:World) (g o:Nat) (l:ag):(eQ w g o l).heap.size=w.heap.size:=by simp [eQ]
theorem nS (w:World) (g o:Nat) (l:ag) (a:Addr):(eQ w g o l).frozen? a=w.frozen? a:=by simp [eQ]
def G7 (w:World) (g:Nat) (L:List ag) (i:Nat):Prop:=∀ k (h:k<L.length),nC w g (k*4) (if k<i∨L.length<=k+i then L[L.length-1-k] else L[k])
structure vk (B:Nat) (w wr:World) (g:Nat) (L:List ag) (i:Nat):Prop where
 below:Below B w wr
 lt:g<wr.heap.size
 row:G7 wr g L i
 free:∀ j,wr.frozen? ⟨g,j,none⟩=false
theorem vk.drew {B:Nat} {w wr:World} {g:Nat} {L:List ag} {i:Nat} (h:vk B w wr g L i):vk B w wr.drew g L i:=⟨h.below.drew,h.lt,h.row,h.free⟩
theorem AY {B:Nat} {w wr:World} {g:Nat} {L:List ag} {i j:Nat} (hB:B<=g) (h:vk B w wr g L i) (hij:i+j+1=L.length) (hi:i<j) :
 vk B w (eQ (eQ wr g (i*4) (L[j])) g (j*4) (L[i])) g L (i+1):=by
 refine ⟨qI (qI h.below _ _ hB) _ _ hB,by rw [dV,dV];exact h.lt,?_,fun j=>by rw [nS,nS];exact h.free j⟩
 intro k hk;have r:=h.row k hk
 by_cases e1:k=i
 . subst e1;have e3:L[L.length-1-k]'(by omega)=L[j]:=by congr 1;omega
   rw [if_pos (by omega),e3]
   rw [if_neg (by omega)] at r
   exact mR _ _ _ _ _ _ (Ay _ _ _ _ _ r) (by omega)
 . by_cases e2:k=j
   . have e3:L[L.length-1-k]'(by omega)=L[i]:=by congr 1;omega
     rw [if_pos (by omega),e3]
     rw [if_neg (by omega)] at r
     subst e2;exact Ay _ _ _ _ _ (mR _ _ _ _ _ _ r (by omega))
   . have e4:(k<i+1∨L.length<=k+(i+1))↔(k<i∨L.length<=k+i):=by omega
     simp only [e4];exact mR _ _ _ _ _ _ (mR _ _ _ _ _ _ r (by omega)) (by omega)
theorem Cn {B:Nat} {w wr:World} {g:Nat} {L:List ag} {i:Nat} (h:vk B w wr g L i) (hi:¬ 2*i+1<L.length):bW wr g 0 L.reverse:=by
 refine ⟨h.lt,fun k hk=>?_⟩
 rw [List.length_reverse] at hk;have r:=h.row k hk;rw [List.getElem_reverse,Nat.zero_add]
 by_cases e:k<i∨L.length<=k+i
 . rw [if_pos e] at r;exact r
 . rw [if_neg e] at r;have:L[L.length-1-k]'(by omega)=L[k]:=by congr 1;omega
   rw [this];exact r
end Go.Proofs.YtgmncdmcdgkodaaGreat
namespace Go.Proofs.YtgmncdmcdgkodaaGreat
open Go.RowKit Alm
theorem yP (B g cap:Nat) (L:List ag) (w:World) (hB:B<=g) (hR:bW w g 0 L) (hf:∀ j,w.frozen? ⟨g,j,none⟩=false) (h0:0<L.length) (hn:L.length<=60) :
 Calls Tryz.prog 13 #[.slice (some ⟨g,0,none⟩) L.length cap] w fun e w'=>e=.returned (.tuple #[])/\bW w' g 0 L.reverse/\(∀ j,w'.frozen? ⟨g,j,none⟩=false)/\Below B w w':=by
 have A0:Hid (vk B w w g L 0):=⟨Below.refl _ _,hR.1,fun k hk=>by rw [if_neg (by omega)];have:=hR.2 k hk;rwa [Nat.zero_add] at this,hf⟩
 clear hR hf;go_enter Tryz.func13,Tryz.ntmps13;go_wp2;go_loopw [2,3] (fun v2 v3 wr=>∃ i j:Nat,v2=.int .i64 (i:Int)/\v3=.int .i64 (j:Int)/\i+j+1=L.length/\vk B w wr g L i) (fun v2 v3 _=>(intOf v3-intOf v2+1).toNat)
 case atStart =>
  exact ⟨0,L.length-1,rfl,by first|(congr 1;omega)|omega,by omega,A0.out⟩
 case round =>
  obtain ⟨i,j,rfl,rfl,hij,hr⟩:=hrel;have HR:=Lib.hid hr;clear hr A0
  by_cases hl:i<j
  . have STEP:=Lib.hid ((AY hB HR.out hij hl).drew);have r1:=HR.out.row i (by omega)
    have r2:=HR.out.row j (by omega)
    rw [if_neg (by omega)] at r1 r2
    have ej:L.length-1-i=j:=by omega
    obtain ⟨p0,p1,p2,p3⟩:=r1;obtain ⟨q0,q1,q2,q3⟩:=r2;have f0:=HR.out.free;have hl':(i:Int)<(j:Int):=by omega
    have hn':(j:Int)<(L.length:Int):=by omega
    have hn'':(i:Int)<(L.length:Int):=by omega
    clear h0;go_wp2;go_region
    all_goals
     go_wp2;go_light;exact ⟨⟨i+1,j-1,by rw [show ((i+1:Nat):Int)=(i:Int)+1 by omega],by rw [show ((j-1:Nat):Int)=(j:Int)-1 by omega],by omega,STEP.out⟩,by simp only [intOf];omega⟩
  . have hl':¬ (i:Int)<(j:Int):=by omega
    have FIN:=Lib.hid (Cn HR.out (by omega))
    go_wp2;go_end0;exact ⟨rfl,FIN.out,HR.out.free,HR.out.below⟩
end Go.Proofs.YtgmncdmcdgkodaaGreat
namespace Go.Proofs.YtgmncdmcdgkodaaGreat
open Go.RowKit Alm Sx
theorem ru {L:List ag} (h:∀ l∈L,l.rgt=true):∀ l∈L,l.ok=true/\l.dh<=1073741824:=fun l hl=>by
 have:=(iM l).1 (h l hl);refine ⟨?_,by omega⟩
 unfold ag.ok pz;simp only [Bool.and_eq_true,decide_eq_true_eq,aG];omega
theorem gq (a:Option Addr) (cap:Nat) (L:List ag) (w:World) (hL:bG w a L) (hn:L.length<=60) (hr:∀ l∈L,l.rgt=true) :
 Calls Tryz.prog 11 #[.slice a L.length cap] w fun e w'=>e=.returned (.tuple #[.agg #[.int .i64 (sumOf ag.xl L),.int .i64 (sumOf ag.xh L)],.agg #[.int .i64 (sumOf ag.yl L),.int .i64 (sumOf ag.yh L)],.int .i64 0])/\Below w.heap.size w w':=by
 have HL:=Lib.hid hL
 have CG:Hid (∀ wr:World,Below w.heap.size w wr->Calls Tryz.prog 27 #[.slice a L.length cap] wr fun e w'=>e=.returned (.int .i64 0)/\Below wr.heap.size wr w'):=Lib.hid (fun wr hb=>by
  have:=gH a cap L wr (HL.out.below hb) (by omega)
  rw [show eH L=0 from by unfold eH;rw [List.all_eq_true.2 hr];simp;omega] at this
  exact this)
 have CT:Hid (∀ wr:World,Below w.heap.size w wr->_):=Lib.hid (fun wr hb=>zN a cap L wr (HL.out.below hb) hn (ru hr))
 clear hL hr hn HL;generalize sumOf ag.xl L=x1 at *
 generalize sumOf ag.xh L=x2 at *
 generalize sumOf ag.yl L=x3 at *
 generalize sumOf ag.yh L=x4 at *
 have K0:=Lib.hid (((au w).new w.heap.size rfl 23 #[.int .i64 0,.int .i64 0]).new (w.heap.size+1) (by simp) 23 #[.int .i64 0,.int .i64 0])
 go_enter Tryz.func11,Tryz.ntmps11;go_wp2_with fail;refine (CG.out _ K0.out.1).mono ?_;rintro e w1 ⟨rfl,hb⟩;have K1:=Lib.hid (K0.out.below hb);clear hb CG K0;go_wp2_with fail;refine (CT.out _ K1.out.1).mono ?_;rintro e w2 ⟨rfl,hb⟩;have K2:=Lib.hid (K1.out.below hb);clear hb CT K1;have a0:=K2.out.c (g:=w.heap.size) (t:=23) (cs:=#[.int .i64 0,.int .i64 0]) (by simp) (i:=0) (v:=.int .i64 0) rfl;have fa0:=K2.out.f (g:=w.heap.size) (t:=23) (cs:=#[.int .i64 0,.int .i64 0]) (by simp) 0
 have a1:=K2.out.c (g:=w.heap.size) (t:=23) (cs:=#[.int .i64 0,.int .i64 0]) (by simp) (i:=1) (v:=.int .i64 0) rfl;have fa1:=K2.out.f (g:=w.heap.size) (t:=23) (cs:=#[.int .i64 0,.int .i64 0]) (by simp) 1
 have b0:=K2.out.c (g:=w.heap.size+1) (t:=23) (cs:=#[.int .i64 0,.int .i64 0]) (by simp) (i:=0) (v:=.int .i64 0) rfl;have fb0:=K2.out.f (g:=w.heap.size+1) (t:=23) (cs:=#[.int .i64 0,.int .i64 0]) (by simp) 0
 have b1:=K2.out.c (g:=w.heap.size+1) (t:=23) (cs:=#[.int .i64 0,.int .i64 0]) (by simp) (i:=1) (v:=.int .i64 0) rfl;have fb1:=K2.out.f (g:=w.heap.size+1) (t:=23) (cs:=#[.int .i64 0,.int .i64 0]) (by simp) 1
 go_wp2;refine bodyPost_ret (by simp [results,Tryz.results11,go_sem,a0,a1,b0,b1];try rfl) rfl ⟨by first|rfl|(simp;done)|(simp;rfl),by have:=K2.out.1;go_light;go_grown⟩
theorem wz (a:Option Addr) (cap:Nat) (L:List ag) (w:World) (hL:bG w a L) (hn:L.length<=60) (hr:L.all ag.rgt=false) :
 Calls Tryz.prog 11 #[.slice a L.length cap] w fun e w'=>e=.returned (.tuple #[.agg #[.int .i64 0,.int .i64 0],.agg #[.int .i64 0,.int .i64 0],.int .i64 1])/\Below w.heap.size w w':=by
 have HL:=Lib.hid hL
 have CG:Hid (∀ wr:World,Below w.heap.size w wr->Calls Tryz.prog 27 #[.slice a L.length cap] wr fun e w'=>e=.returned (.int .i64 1)/\Below wr.heap.size wr w'):=Lib.hid (fun wr hb=>by
  have:=gH a cap L wr (HL.out.below hb) (by omega)
  rw [show eH L=1 from by unfold eH;rw [hr];rfl] at this
  exact this)
 clear hL hr;have K0:=Lib.hid (((au w).new w.heap.size rfl 23 #[.int .i64 0,.int .i64 0]).new (w.heap.size+1) (by simp) 23 #[.int .i64 0,.int .i64 0])
 go_enter Tryz.func11,Tryz.ntmps11;go_wp2_with fail;refine (CG.out _ K0.out.1).mono ?_;rintro e w1 ⟨rfl,hb⟩;have K1:=Lib.hid (K0.out.below hb);clear hb CG K0;have a0:=K1.out.c (g:=w.heap.size) (t:=23) (cs:=#[.int .i64 0,.int .i64 0]) (by simp) (i:=0) (v:=.int .i64 0) rfl;have fa0:=K1.out.f (g:=w.heap.size) (t:=23) (cs:=#[.int .i64 0,.int .i64 0]) (by simp) 0
 have a1:=K1.out.c (g:=w.heap.size) (t:=23) (cs:=#[.int .i64 0,.int .i64 0]) (by simp) (i:=1) (v:=.int .i64 0) rfl;have fa1:=K1.out.f (g:=w.heap.size) (t:=23) (cs:=#[.int .i64 0,.int .i64 0]) (by simp) 1
 have b0:=K1.out.c (g:=w.heap.size+1) (t:=23) (cs:=#[.int .i64 0,.int .i64 0]) (by simp) (i:=0) (v:=.int .i64 0) rfl;have fb0:=K1.out.f (g:=w.heap.size+1) (t:=23) (cs:=#[.int .i64 0,.int .i64 0]) (by simp) 0
 have b1:=K1.out.c (g:=w.heap.size+1) (t:=23) (cs:=#[.int .i64 0,.int .i64 0]) (by simp) (i:=1) (v:=.int .i64 0) rfl;have fb1:=K1.out.f (g:=w.heap.size+1) (t:=23) (cs:=#[.int .i64 0,.int .i64 0]) (by simp) 1
 go_wp2;refine bodyPost_ret (by simp [results,Tryz.results11,go_sem,a0,a1,b0,b1];try rfl) rfl ⟨by first|rfl|(simp;done)|(simp;rfl),by have:=K1.out.1;go_light;go_grown⟩
theorem yQ (a b c d:Int) (sa:Option Addr) (n cap:Nat) (w:World) (hv:plB a b c d=false) :
 Calls Tryz.prog 15 #[.agg #[.int .i64 a,.int .i64 b,.int .i64 c,.int .i64 d],.slice sa n cap] w fun e w'=>e=.returned (rnV [0,0,0,0,1])/\Below w.heap.size w w':=by
 have CV:=Lib.hid (fun w=>Ch a b c d w)
 rw [hv] at CV;clear hv;have K0:=Lib.hid (((au w).new w.heap.size rfl 41 #[.int .i64 a,.int .i64 b,.int .i64 c,.int .i64 d]).new (w.heap.size+1) (by simp) 41 #[.int .i64 0,.int .i64 0,.int .i64 0,.int .i64 0])
 go_enter Tryz.func15,Tryz.ntmps15;go_wp2_with fail;refine (CV.out _).mono ?_;rintro e w1 ⟨rfl,hb1⟩;have K1:=Lib.hid (K0.out.below hb1);clear hb1 K0 CV;have q0:=K1.out.c (g:=w.heap.size+1) (t:=41) (cs:=#[.int .i64 0,.int .i64 0,.int .i64 0,.int .i64 0]) (by simp) (i:=0) (v:=.int .i64 0) rfl;have g0:=K1.out.f (g:=w.heap.size+1) (t:=41) (cs:=#[.int .i64 0,.int .i64 0,.int .i64 0,.int .i64 0]) (by simp) 0
 have q1:=K1.out.c (g:=w.heap.size+1) (t:=41) (cs:=#[.int .i64 0,.int .i64 0,.int .i64 0,.int .i64 0]) (by simp) (i:=1) (v:=.int .i64 0) rfl;have g1:=K1.out.f (g:=w.heap.size+1) (t:=41) (cs:=#[.int .i64 0,.int .i64 0,.int .i64 0,.int .i64 0]) (by simp) 1
 have q2:=K1.out.c (g:=w.heap.size+1) (t:=41) (cs:=#[.int .i64 0,.int .i64 0,.int .i64 0,.int .i64 0]) (by simp) (i:=2) (v:=.int .i64 0) rfl;have g2:=K1.out.f (g:=w.heap.size+1) (t:=41) (cs:=#[.int .i64 0,.int .i64 0,.int .i64 0,.int .i64 0]) (by simp) 2
 have q3:=K1.out.c (g:=w.heap.size+1) (t:=41) (cs:=#[.int .i64 0,.int .i64 0,.int .i64 0,.int .i64 0]) (by simp) (i:=3) (v:=.int .i64 0) rfl;have g3:=K1.out.f (g:=w.heap.size+1) (t:=41) (cs:=#[.int .i64 0,.int .i64 0,.int .i64 0,.int .i64 0]) (by simp) 3
 go_wp2;refine bodyPost_ret (by simp [results,Tryz.results15,go_sem,q0,q1,q2,q3];try rfl) rfl ⟨by first|rfl|(simp;done)|(simp;rfl),by have:=K1.out.1;go_light;go_grown⟩
theorem Aa (x0 x1 c d W0 W1 E0 E1 V0 V1:Int):(∃ e,e≠0/\rnF x0 x1 c d W0 W1 E0 E1 V0 V1=[0,0,0,0,e])∨∃ u v,rnF x0 x1 c d W0 W1 E0 E1 V0 V1=[x0,x1,u,v,0]:=by
 unfold rnF rnM rnN rnO;split
 . exact .inl ⟨25,by decide,rfl⟩
 split
 . exact .inl ⟨25,by decide,rfl⟩
 split
 . rename_i h;exact .inl ⟨_,h,rfl⟩
 split
 . rename_i h;exact .inl ⟨_,h,rfl⟩
 split
 . rename_i h;exact .inl ⟨_,h,rfl⟩
 split
 . rename_i h;exact .inl ⟨_,h,rfl⟩
 split
 . exact .inr ⟨_,_,rfl⟩
 . exact .inr ⟨_,_,rfl⟩
theorem zi (a b c d:Int) (L:List ag) (hn:L.length<=60) (hr:∀ l∈L,l.rgt=true):∃ R:List Int,((∃ e,e≠0/\R=[0,0,0,0,e])∨(-5400000<=a/\a<=b/\b<=5400000)/\∃ u v,R=[a+sumOf ag.xl L,b+sumOf ag.xh L,u,v,0]) /\
 ∀ (sa:Option Addr) (cap:Nat) (w:World),bG w sa L->Calls Tryz.prog 15 #[.agg #[.int .i64 a,.int .i64 b,.int .i64 c,.int .i64 d],.slice sa L.length cap] w fun e w'=>e=.returned (rnV R)/\Below w.heap.size w w':=by
 cases hv:plB a b c d
 . exact ⟨_,.inl ⟨1,by decide,rfl⟩,fun sa cap w _=>yQ a b c d sa L.length cap w hv⟩
 . refine ⟨_,?_,fun sa cap w hL=>EO a b c d sa cap L w hL hn hr hv⟩
   have h2:-5400000<=a/\a<=b/\b<=5400000:=by unfold plB at hv;have:=of_decide_eq_true hv;omega
   rcases Aa (a+sumOf ag.xl L) (b+sumOf ag.xh L) c d (wyL a L L.length) (wyH b L L.length) (sumOf eaL L) (sumOf eaH L) (sumOf weL L) (sumOf weH L) with h|h
   . exact .inl h
   . exact .inr ⟨h2,h⟩
theorem Ao (W:World) (b0:Addr) (p:Option Addr) (c:Nat) :
 (Builtin.append_ #[ 28,28] 28 #[.slice (some b0) 0 0,.slice p 0 c]).run Tryz.prog W=.ok (.slice (some b0) 0 0) W:=by
 obtain ⟨i,z,hi,_⟩:=um;cases p<;>simp [Builtin.append_,run_underlying Tryz.underlying28,sizeOf,typeInfo,hi,Builtin.lenOf,Builtin.firstCells,loadCells,loadCellsFrom,storeCells]
theorem AP (a:Option Addr) (cap:Nat) (w:World) (hnil:a=none->cap=0) :
 Calls Tryz.prog 12 #[.slice a 0 cap] w fun e w'=>∃ a' c,e=.returned (.slice a' 0 c)/\Below w.heap.size w w':=by
 have q22:∀ (w:World) (a:Option Addr) (n c n' c':Nat),(binOp .eql 28 (.slice a n c) (.slice none n' c')).run Tryz.prog w=.ok (.bool a.isNone) w:=fun w a n c n' c'=>Lib.run_eql_slice_nil w _ _ a n c n' c' Tryz.underlying28
 cases a with
 | none =>
  obtain rfl:=hnil rfl;go_enter Tryz.func12,Tryz.ntmps12;go_wp2;go_ret;exact ⟨⟨none,0,rfl⟩,Below.refl _ _⟩
 | some ad =>
  have hrun:=Ao (w.alloc (.cells #[] 35)) ⟨w.heap.size,0,none⟩ (some ad) cap;clear hnil;go_enter Tryz.func12,Tryz.ntmps12;go_wp2_with (at_builtin;refine Lib.wpList_append_run_sl _ rfl _ _ 28 rfl _ _ rfl rfl hrun ?_)
  go_ret;exact ⟨_,_,rfl,(Below.refl _ w).alloc (Nat.le_refl _) _⟩
theorem GK (a:Option Addr) (cap:Nat) (w:World) :
 Calls Tryz.prog 13 #[.slice a 0 cap] w fun e w'=>e=.returned (.tuple #[])/\Below w.heap.size w w':=by
 go_enter Tryz.func13,Tryz.ntmps13;go_wp2;refine wp_loop_rounds 1 ?_;rw [rounds_succ];go_wp2;go_end0;exact ⟨rfl,Below.refl _ _⟩
def Hz (B:Nat) (w:World) (a:Option Addr) (L:List ag):Prop:=L=[]∨∃ g,a=some ⟨g,0,none⟩/\B<=g/\bW w g 0 L/\∀ j,w.frozen? ⟨g,j,none⟩=false
theorem AJ (a:Option Addr) (cap:Nat) (L:List ag) (w:World) (hL:bG w a L) (hn:L.length<=60) (hnil:a=none->cap=0) :
 Calls Tryz.prog 12 #[.slice a L.length cap] w fun e w'=>∃ a' c,e=.returned (.slice a' L.length c)/\Hz w.heap.size w' a' L/\Below w.heap.size w w':=by
 by_cases h0:L=[]
 . subst h0;refine (AP a cap w hnil).mono ?_;rintro e w' ⟨a',c,rfl,hb⟩;exact ⟨a',c,rfl,.inl rfl,hb⟩
 . have hp:0<L.length:=List.length_pos_iff.2 h0;rcases hL with h|⟨b,off,rfl,hR⟩
   . exact absurd h h0
   . refine (ED b off cap L w hR hp hn).mono ?_;rintro e w' ⟨g,c,rfl,ho,hb⟩;obtain ⟨_,k1,_,k3,k4⟩:=zx ho hp;exact ⟨_,c,rfl,.inr ⟨g,rfl,k1,k3,k4⟩,hb⟩
theorem zY (B:Nat) (a:Option Addr) (cap:Nat) (L:List ag) (w:World) (hL:Hz B w a L) (hB:B<=w.heap.size) (hn:L.length<=60) :
 Calls Tryz.prog 13 #[.slice a L.length cap] w fun e w'=>e=.returned (.tuple #[])/\bG w' a L.reverse/\Below B w w':=by
 by_cases h0:L=[]
 . subst h0;refine (GK a cap w).mono ?_;rintro e w' ⟨rfl,hb⟩;exact ⟨rfl,.inl rfl,hb.mono hB⟩
 . have hp:0<L.length:=List.length_pos_iff.2 h0;rcases hL with h|⟨g,rfl,hg,hR,hf⟩
   . exact absurd h h0
   . refine (yP B g cap L w hg hR hf hp hn).mono ?_;rintro e w' ⟨rfl,k1,_,k3⟩;exact ⟨rfl,.inr ⟨g,0,rfl,k1⟩,k3⟩
theorem bW.take {w:World} {b off:Nat} {L:List ag} (h:bW w b off L) (k:Nat):bW w b off (L.take k) :=
 ⟨h.1,fun i hi=>by
  rw [List.length_take] at hi;rw [List.getElem_take];exact h.2 i (by omega)⟩
theorem bW.drop {w:World} {b off:Nat} {L:List ag} (h:bW w b off L) (k:Nat) (hk:k<=L.length):bW w b (off+k*4) (L.drop k) :=
 ⟨h.1,fun i hi=>by
  rw [List.length_drop] at hi;rw [List.getElem_drop];have:=h.2 (k+i) (by omega)
  rwa [show off+(k+i)*4=off+k*4+i*4 by omega] at this⟩
theorem iO (f:ag->Int) (L:List ag) (k:Nat):sumOf f L=sumOf f (L.take k)+sumOf f (L.drop k):=by
 rw [<-gV,List.take_append_drop]
theorem Af (cut:Int) (n:Nat) (h0:0<=cut):∃ k:Nat,cut.tmod ((n:Int)+1)=(k:Int)/\k<=n:=by
 refine ⟨(cut%((n:Int)+1)).toNat,?_,?_⟩
 . rw [Int.tmod_eq_emod_of_nonneg h0];have:=Int.emod_nonneg cut (show (n:Int)+1≠0 by omega);omega
 . have:=Int.emod_lt_of_pos cut (show 0<(n:Int)+1 by omega);have:=Int.emod_nonneg cut (show (n:Int)+1≠0 by omega);omega
theorem ny:∀ w,(sizeOf 35).run Tryz.prog w=.ok 4 w:=fun _=>by kernel_rfl
theorem Ej (a:Option Addr) (cap k:Nat) (L:List ag) (hk:k<=L.length) (hn:L.length<=cap) (hnil:a=none->cap=0):(∀ w,bG w a L->bG w a (L.take k))/\∀ w,(Instr.slice 28 (.slice a L.length cap) none (some (.int .i64 (k:Int))) none).run Tryz.prog w=.ok (.slice a k cap) w:=by
 have he:Tryz.prog.elem 28=35:=by kernel_rfl
 refine ⟨fun w h=>?_,fun w=>?_⟩
 . rcases h with rfl|⟨b,off,rfl,hR⟩
   . exact .inl (by simp)
   . exact .inr ⟨b,off,rfl,hR.take k⟩
 . cases a with
   | none =>
    obtain rfl:=hnil rfl;obtain rfl:k=0:=by omega
    rw [show L.length=0 by omega]
    kernel_rfl
   | some ad =>
    rw [run_slice_h w _ _ _ _ (by rw [he];exact Tryz.underlying28) _ _ (by omega) (by omega),he,ny]
    simp [sliced,Addr.add]
theorem Ep (a:Option Addr) (cap k:Nat) (L:List ag) (hk:k<=L.length) (hn:L.length<=cap) (hnil:a=none->cap=0):∃ (a':Option Addr) (c':Nat),(∀ w,bG w a L->bG w a' (L.drop k))/\∀ w,(Instr.slice 28 (.slice a L.length cap) (some (.int .i64 (k:Int))) none none).run Tryz.prog w=.ok (.slice a' (L.length-k) c') w:=by
 have he:Tryz.prog.elem 28=35:=by kernel_rfl
 cases a with
 | none =>
  obtain rfl:=hnil rfl;obtain rfl:k=0:=by omega
  rw [show L.length=0 by omega]
  have:L=[]:=List.eq_nil_of_length_eq_zero (by omega)
  subst this;exact ⟨none,0,fun w _=>.inl rfl,fun w=>by kernel_rfl⟩
 | some ad =>
  by_cases e:cap=k
  . have:L.drop k=[]:=List.drop_eq_nil_iff.2 (by omega)
    refine ⟨some ad,0,fun w _=>.inl this,fun w=>?_⟩
    rw [run_slice_l w _ _ _ _ (by rw [he];exact Tryz.underlying28) _ _ (by omega) (by omega),he,ny]
    simp [sliced,e]
  . refine ⟨some (ad.add (k*4)),cap-k,fun w h=>?_,fun w=>?_⟩
    . rcases h with rfl|⟨b,off,hb,hR⟩
      . exact .inl (by simp)
      . injection hb with hb;subst hb
        exact .inr ⟨b,off+k*4,by simp [Addr.add],hR.drop k hk⟩
    . rw [run_slice_l w _ _ _ _ (by rw [he];exact Tryz.underlying28) _ _ (by omega) (by omega),he,ny]
      simp [sliced,e]
