/- Reckoning: the times of arrival. -/
import Derived.Test.YtgmncdmcdgkodaaGreatZRk5
import Derived.Deep.DeepCutAuto
import Derived.Deep.RegionHeld3
set_option linter.unusedVariables false
set_option linter.unusedSimpArgs false
set_option maxRecDepth 100000
set_option maxHeartbeats 8000000
namespace Go.Proofs.YtgmncdmcdgkodaaGreat
open Go.RowKit Alm Sx
def atV (al ah fl fh:Int) (L:List ag) (i:Nat):List Int:=[fl+sumOf ag.dl (L.take (i+1))*3600000/ah,fh+(sumOf ag.dh (L.take (i+1))*3600000+al-1)/al]
def atL (al ah fl fh:Int) (L:List ag) (n:Nat):Cs:=(List.range n).map (atV al ah fl fh L)
def atB (x:List Int):Bool:=tmB (x.getD 0 0) (x.getD 1 0)
def arE (al ah fl fh:Int) (L:List ag):Int:=if (atL al ah fl fh L L.length).all atB=true then 0 else 5
def arR (al ah fl fh:Int) (L:List ag):Cs:=if (atL al ah fl fh L L.length).all atB=true then atL al ah fl fh L L.length else []
theorem Ar (al ah fl fh:Int) (L:List ag) (n:Nat):atL al ah fl fh L (n+1)=atL al ah fl fh L n++[atV al ah fl fh L n]:=by
 unfold atL;rw [List.range_succ,List.map_append];rfl
theorem mW (al ah fl fh:Int) (L:List ag) (n:Nat):(atL al ah fl fh L n).length=n:=by unfold atL;simp
theorem iM (l:ag):l.rgt=true↔(l.cl<=l.ch/\-1099511627776<=l.cl/\l.ch<=1099511627776)/\(0<=l.dl/\l.dl<=l.dh/\l.dh<=21600000):=by
 unfold ag.rgt;rw [Bool.and_eq_true,decide_eq_true_eq,aG]
 constructor<;>(intro h;omega)
theorem rP (al ah fl fh:Int) (L:List ag) (n:Nat):(atL al ah fl fh L n).all atB=true↔∀ j,j<n->atB (atV al ah fl fh L j)=true:=by
 unfold atL;rw [List.all_eq_true]
 constructor
 . intro h j hj;exact h _ (List.mem_map.2 ⟨j,List.mem_range.2 hj,rfl⟩)
 . intro h x hx;obtain ⟨j,hj,rfl⟩:=List.mem_map.1 hx;exact h j (List.mem_range.1 hj)
theorem Hu {al ah fl fh:Int} {L:List ag} (h:∀ j,j<L.length->atB (atV al ah fl fh L j)=true):arE al ah fl fh L=0/\arR al ah fl fh L=atL al ah fl fh L L.length:=by
 have:=(rP al ah fl fh L L.length).2 h;exact ⟨if_pos this,if_pos this⟩
theorem Ga {al ah fl fh:Int} {L:List ag} {i:Nat} (hi:i<L.length) (h:atB (atV al ah fl fh L i)=false):arE al ah fl fh L=5/\arR al ah fl fh L=[]:=by
 have:¬ (atL al ah fl fh L L.length).all atB=true:=fun q=>by
  have:=(rP al ah fl fh L L.length).1 q i hi;rw [h] at this;cases this
 exact ⟨if_neg this,if_neg this⟩
theorem yA (L:List ag) (h:∀ l∈L,l.rgt=true):0<=sumOf ag.dl L/\sumOf ag.dl L<=sumOf ag.dh L/\sumOf ag.dh L<=21600000*(L.length:Int):=by
 induction L with
 | nil=>simp [sumOf]
 | cons l L ih =>
  have a:=ih fun x hx=>h x (.tail _ hx)
  have b:=(iM l).1 (h l (.head _));rw [aR,aR,List.length_cons];omega
theorem dF (a b:Int):tmB a b=true↔a<=b/\(-70368744177664<=a/\a<=70368744177664)/\(-70368744177664<=b/\b<=70368744177664):=by
 unfold tmB vL;simp only [Bool.and_eq_true,decide_eq_true_eq]
theorem GD {al ah fl fh S T:Int} (hs:1<=al/\al<=ah/\ah<=200000) (ht:tmB fl fh=true) (hS:0<=S/\S<=2000000000) (hT:0<=T/\T<=2000000000) :
 IntKind.i64.wrap (S*3600000)=S*3600000/\IntKind.i64.wrap (T*3600000)=T*3600000/\(0<=S*3600000/\S*3600000<=9000000000000000000)/\(0<=T*3600000/\T*3600000<=9000000000000000000) /\
 IntKind.i64.wrap (fl+S*3600000/ah)=fl+S*3600000/ah/\IntKind.i64.wrap (fh+(T*3600000+al-1)/al)=fh+(T*3600000+al-1)/al:=by
 have t:=(dF _ _).1 ht;have q1:=nI (a:=S*3600000) (b:=ah) (by omega) (by omega)
 have q2:=nI (a:=T*3600000+al-1) (b:=al) (by omega) (by omega)
 refine ⟨Go.IntWalk.i64_in _ (by omega),Go.IntWalk.i64_in _ (by omega),by omega,by omega,Go.IntWalk.i64_in _ (by omega),Go.IntWalk.i64_in _ (by omega)⟩
theorem oL (a:Option Addr) (cap:Nat) (L:List ag) (al ah fl fh:Int) (w:World) (hL:bG w a L) (hn:L.length<=60) (hr:∀ l∈L,l.rgt=true) (hs:1<=al/\al<=ah/\ah<=200000) (ht:tmB fl fh=true) :
 Calls Tryz.prog 8 #[.slice a L.length cap,.agg #[.int .i64 al,.int .i64 ah],.agg #[.int .i64 fl,.int .i64 fh]] w fun e w'=>(∃ u,e=.returned (.tuple #[u,.int .i64 (arE al ah fl fh L)])/\bK 2 26 w.heap.size w' u (arR al ah fl fh L))/\Below w.heap.size w w':=by
 have HL:=Lib.hid hL;have HR:=Lib.hid hr;clear hL hr;have HT:=Lib.hid ht;have HS:=Lib.hid hs;have CS:=Lib.hid (fun w=>pq al ah w)
 rw [show decide (0<=al/\al<=ah/\ah<=200000)=true from decide_eq_true (by omega)] at CS
 have CT:=Lib.hid (fun w=>ma fl fh w)
 rw [ht] at CT;have hz:(al==0)=false:=by simp;omega
 clear ht hs
 have CG:Hid (∀ wr:World,Below w.heap.size w wr->Calls Tryz.prog 27 #[.slice a L.length cap] wr fun e w'=>e=.returned (.int .i64 0)/\Below wr.heap.size wr w'):=Lib.hid (fun wr hb=>by
  have:=gH a cap L wr (HL.out.below hb) (by omega)
  rw [show eH L=0 from by unfold eH;rw [List.all_eq_true.2 HR.out];simp;omega] at this
  exact this)
 have K0:=Lib.hid (((au w).new w.heap.size rfl 23 #[.int .i64 al,.int .i64 ah]).new (w.heap.size+1) (by simp) 26 #[.int .i64 fl,.int .i64 fh])
 go_enter Tryz.func8,Tryz.ntmps8;go_wp2_with fail;refine (CS.out _).mono ?_;rintro e w1 ⟨rfl,hb1⟩;have K1:=Lib.hid (K0.out.below hb1);clear hb1 K0 CS;have t0:=K1.out.c (g:=w.heap.size+1) (t:=26) (cs:=#[.int .i64 fl,.int .i64 fh]) (by simp) (i:=0) (v:=.int .i64 fl) rfl
 have t1:=K1.out.c (g:=w.heap.size+1) (t:=26) (cs:=#[.int .i64 fl,.int .i64 fh]) (by simp) (i:=1) (v:=.int .i64 fh) rfl
 go_wp2_with fail;refine (CT.out _).mono ?_;rintro e w2 ⟨rfl,hb2⟩;have K2:=Lib.hid (K1.out.below hb2);clear hb2 K1 CT t0 t1;go_wp2_with fail;refine (CG.out _ K2.out.1).mono ?_;rintro e w3 ⟨rfl,hb3⟩;have K3:=Lib.hid (K2.out.below hb3);clear hb3 K2 CG;have s0:=K3.out.c (g:=w.heap.size) (t:=23) (cs:=#[.int .i64 al,.int .i64 ah]) (by simp) (i:=0) (v:=.int .i64 al) rfl
 go_wp2;have K4:=Lib.hid (K3.out.new w3.heap.size rfl 23 #[.int .i64 0,.int .i64 0]);have HW3:Hid (w.heap.size+1<w3.heap.size):=Lib.hid (K3.out.lt (g:=w.heap.size+1) (t:=26) (cs:=#[.int .i64 fl,.int .i64 fh]) (by simp))
 clear s0;go_loopw [9,32] (fun v9 v32 wr=>∃ i:Nat,v32=.int .i64 (i:Int)/\i<=L.length/\(∀ j,j<i->atB (atV al ah fl fh L j)=true)/\bK 2 26 (w3.heap.size+1) wr v9 (atL al ah fl fh L i)/\KS w wr [(w3.heap.size,23,#[.int .i64 (sumOf ag.dl (L.take i)),.int .i64 (sumOf ag.dh (L.take i))]),(w.heap.size+1,26,#[.int .i64 fl,.int .i64 fh]),(w.heap.size,23,#[.int .i64 al,.int .i64 ah])]) (fun _ v32 _=>((L.length:Int)-intOf v32).toNat)
 case atStart =>
  exact ⟨0,rfl,Nat.zero_le _,fun j h=>by omega,bK.nil _ _ _ _,K4.out⟩
 case round =>
  obtain ⟨i,rfl,hi,hok,ho,hK⟩:=hrel;have K:=Lib.hid hK;have O:=Lib.hid ho;have OK:=Lib.hid hok;clear hK ho hok K4 K3;have HSZ:Hid ((atL al ah fl fh L i).length+1<=1000000):=by have:=mW al ah fl fh L i;exact Lib.hid (by omega)
  by_cases hl:i<L.length
  . rcases HL.out.below K.out.1 with h0|⟨b,off,rfl,hR⟩
    . rw [h0] at hl;simp at hl
    . obtain ⟨c0,c1,c2,c3⟩:=hR.2 i hl;have hl':(i:Int)<(L.length:Int):=by omega
      have s0:=fun o:Obj=>(K.out.alloc o).c (g:=w3.heap.size) (t:=23) (cs:=#[.int .i64 (sumOf ag.dl (L.take i)),.int .i64 (sumOf ag.dh (L.take i))]) (by simp) (i:=0) rfl
      have s1:=fun o:Obj=>(K.out.alloc o).c (g:=w3.heap.size) (t:=23) (cs:=#[.int .i64 (sumOf ag.dl (L.take i)),.int .i64 (sumOf ag.dh (L.take i))]) (by simp) (i:=1) rfl
      have f0:=fun o:Obj=>(K.out.alloc o).f (g:=w3.heap.size) (t:=23) (cs:=#[.int .i64 (sumOf ag.dl (L.take i)),.int .i64 (sumOf ag.dh (L.take i))]) (by simp) 0
      have f1:=fun o:Obj=>(K.out.alloc o).f (g:=w3.heap.size) (t:=23) (cs:=#[.int .i64 (sumOf ag.dl (L.take i)),.int .i64 (sumOf ag.dh (L.take i))]) (by simp) 1
      have T1:=Lib.hid (aX ag.dl L i hl);have T2:=Lib.hid (aX ag.dh L i hl);have B1:=yA (L.take i) (fun l h=>HR.out l (List.mem_of_mem_take h))
      have BL:(L.take i).length<=60:=by rw [List.length_take];omega
      have B2:=(iM L[i]).1 (HR.out _ (List.getElem_mem hl));have q1:IntKind.i64.wrap (sumOf ag.dl (L.take i)+L[i].dl)=sumOf ag.dl (L.take (i+1)):=by rw [T1.out];exact Go.IntWalk.i64_in _ (by omega)
      have q2:IntKind.i64.wrap (sumOf ag.dh (L.take i)+L[i].dh)=sumOf ag.dh (L.take (i+1)):=by rw [T2.out];exact Go.IntWalk.i64_in _ (by omega)
      have N:=Lib.hid (GD (al:=al) (ah:=ah) (fl:=fl) (fh:=fh) (S:=sumOf ag.dl (L.take (i+1))) (T:=sumOf ag.dh (L.take (i+1))) HS.out HT.out (by rw [T1.out];omega) (by rw [T2.out];omega))
      clear B1 B2 BL T1 T2;go_upto_region 14 with (fail)
      have K2:=Lib.hid (qU (l':=[(w.heap.size+1,26,#[.int .i64 fl,.int .i64 fh]),(w.heap.size,23,#[.int .i64 al,.int .i64 ah])]) (K.out.alloc (.cells #[.int .i64 L[i].cl,.int .i64 L[i].ch,.int .i64 L[i].dl,.int .i64 L[i].dh] 35)) (g:=w3.heap.size) (t:=23) (c0:=.int .i64 (sumOf ag.dl (L.take i))) (c1:=.int .i64 (sumOf ag.dh (L.take i))) (by simp) (by have:=HW3.out;omega) (by intro p hp;have:=HW3.out;simp at hp;rcases hp with rfl|rfl<;>simp only []<;>omega) (by intro p hp;simp at hp;rcases hp with rfl|rfl<;>simp) (.int .i64 (sumOf ag.dl (L.take (i+1)))) (.int .i64 (sumOf ag.dh (L.take (i+1)))))
      have O2:=Lib.hid (((O.out.alloc (.cells #[.int .i64 L[i].cl,.int .i64 L[i].ch,.int .i64 L[i].dl,.int .i64 L[i].dh] 35)).far (p:=⟨w3.heap.size,0,none⟩) (Nat.lt_succ_self _) (.int .i64 (sumOf ag.dl (L.take (i+1))))).far (p:=⟨w3.heap.size,1,none⟩) (Nat.lt_succ_self _) (.int .i64 (sumOf ag.dh (L.take (i+1)))));have F1:=Lib.hid (fun w=>Bu (sumOf ag.dl (L.take (i+1))*3600000) ah _ w N.out.2.2.1 (by have:=HS.out;omega) rfl)
      have F2:=Lib.hid (fun w=>F7 (sumOf ag.dh (L.take (i+1))*3600000) al _ w N.out.2.2.2.1 (by have:=HS.out;omega) rfl)
      obtain ⟨n1,n2,_,_,n3,n4⟩:=N.out;clear s0 s1 f0 f1 q1 q2 K hR c0 c1 c2 c3;have hS:=HS.out;clear N O;generalize hW:((wr.alloc (.cells #[.int .i64 L[i].cl,.int .i64 L[i].ch,.int .i64 L[i].dl,.int .i64 L[i].dh] 35)).setCell ⟨w3.heap.size,0,none⟩ (.int .i64 (sumOf ag.dl (L.take (i+1))))).setCell ⟨w3.heap.size,1,none⟩ (.int .i64 (sumOf ag.dh (L.take (i+1))))=W at *
      have VX:atV al ah fl fh L i=[fl+sumOf ag.dl (L.take (i+1))*3600000/ah,fh+(sumOf ag.dh (L.take (i+1))*3600000+al-1)/al]:=rfl;generalize hX:fl+sumOf ag.dl (L.take (i+1))*3600000/ah=X at *
      generalize hY:fh+(sumOf ag.dh (L.take (i+1))*3600000+al-1)/al=Y at *
      generalize hP:sumOf ag.dl (L.take (i+1))*3600000/ah=P at *
      generalize hQ:(sumOf ag.dh (L.take (i+1))*3600000+al-1)/al=Q at *
      have VX:=Lib.hid VX;clear hW hP hQ hS;go_cut [13] (fun s13 wx=>s13=.pointer (some ⟨W.heap.size,0,none⟩)/\KS W wx [(W.heap.size,26,#[.int .i64 X,.int .i64 Y])])
      case first =>
       have K0:Hid (KS W W.drew []):=Lib.hid (au W).drew;have KD:=Lib.hid K2.out.drew;have s0:=KD.out.c (g:=w3.heap.size) (t:=23) (cs:=#[.int .i64 (sumOf ag.dl (L.take (i+1))),.int .i64 (sumOf ag.dh (L.take (i+1)))]) (by simp) (i:=0) (v:=.int .i64 (sumOf ag.dl (L.take (i+1)))) rfl
       have s0o:=fun o:Obj=>(KD.out.alloc o).c (g:=w3.heap.size) (t:=23) (cs:=#[.int .i64 (sumOf ag.dl (L.take (i+1))),.int .i64 (sumOf ag.dh (L.take (i+1)))]) (by simp) (i:=0) (v:=.int .i64 (sumOf ag.dl (L.take (i+1)))) rfl
       have s0p:=fun o:Obj=>((K2.out.alloc o).drew).c (g:=w3.heap.size) (t:=23) (cs:=#[.int .i64 (sumOf ag.dl (L.take (i+1))),.int .i64 (sumOf ag.dh (L.take (i+1)))]) (by simp) (i:=0) (v:=.int .i64 (sumOf ag.dl (L.take (i+1)))) rfl
       have s1:=KD.out.c (g:=w3.heap.size) (t:=23) (cs:=#[.int .i64 (sumOf ag.dl (L.take (i+1))),.int .i64 (sumOf ag.dh (L.take (i+1)))]) (by simp) (i:=1) (v:=.int .i64 (sumOf ag.dh (L.take (i+1)))) rfl
       have s1o:=fun o:Obj=>(KD.out.alloc o).c (g:=w3.heap.size) (t:=23) (cs:=#[.int .i64 (sumOf ag.dl (L.take (i+1))),.int .i64 (sumOf ag.dh (L.take (i+1)))]) (by simp) (i:=1) (v:=.int .i64 (sumOf ag.dh (L.take (i+1)))) rfl
       have s1p:=fun o:Obj=>((K2.out.alloc o).drew).c (g:=w3.heap.size) (t:=23) (cs:=#[.int .i64 (sumOf ag.dl (L.take (i+1))),.int .i64 (sumOf ag.dh (L.take (i+1)))]) (by simp) (i:=1) (v:=.int .i64 (sumOf ag.dh (L.take (i+1)))) rfl
       have t0:=KD.out.c (g:=w.heap.size+1) (t:=26) (cs:=#[.int .i64 fl,.int .i64 fh]) (by simp) (i:=0) (v:=.int .i64 fl) rfl
       have t0o:=fun o:Obj=>(KD.out.alloc o).c (g:=w.heap.size+1) (t:=26) (cs:=#[.int .i64 fl,.int .i64 fh]) (by simp) (i:=0) (v:=.int .i64 fl) rfl
       have t0p:=fun o:Obj=>((K2.out.alloc o).drew).c (g:=w.heap.size+1) (t:=26) (cs:=#[.int .i64 fl,.int .i64 fh]) (by simp) (i:=0) (v:=.int .i64 fl) rfl
       have t1:=KD.out.c (g:=w.heap.size+1) (t:=26) (cs:=#[.int .i64 fl,.int .i64 fh]) (by simp) (i:=1) (v:=.int .i64 fh) rfl
       have t1o:=fun o:Obj=>(KD.out.alloc o).c (g:=w.heap.size+1) (t:=26) (cs:=#[.int .i64 fl,.int .i64 fh]) (by simp) (i:=1) (v:=.int .i64 fh) rfl
       have t1p:=fun o:Obj=>((K2.out.alloc o).drew).c (g:=w.heap.size+1) (t:=26) (cs:=#[.int .i64 fl,.int .i64 fh]) (by simp) (i:=1) (v:=.int .i64 fh) rfl
       have a0:=KD.out.c (g:=w.heap.size) (t:=23) (cs:=#[.int .i64 al,.int .i64 ah]) (by simp) (i:=0) (v:=.int .i64 al) rfl
       have a0o:=fun o:Obj=>(KD.out.alloc o).c (g:=w.heap.size) (t:=23) (cs:=#[.int .i64 al,.int .i64 ah]) (by simp) (i:=0) (v:=.int .i64 al) rfl
       have a0p:=fun o:Obj=>((K2.out.alloc o).drew).c (g:=w.heap.size) (t:=23) (cs:=#[.int .i64 al,.int .i64 ah]) (by simp) (i:=0) (v:=.int .i64 al) rfl
       have a1:=KD.out.c (g:=w.heap.size) (t:=23) (cs:=#[.int .i64 al,.int .i64 ah]) (by simp) (i:=1) (v:=.int .i64 ah) rfl
       have a1o:=fun o:Obj=>(KD.out.alloc o).c (g:=w.heap.size) (t:=23) (cs:=#[.int .i64 al,.int .i64 ah]) (by simp) (i:=1) (v:=.int .i64 ah) rfl
       have a1p:=fun o:Obj=>((K2.out.alloc o).drew).c (g:=w.heap.size) (t:=23) (cs:=#[.int .i64 al,.int .i64 ah]) (by simp) (i:=1) (v:=.int .i64 ah) rfl
       clear K2
       go_region_held3 (fun w'=>w'.cell? ⟨w3.heap.size,0,none⟩=some (.int .i64 (sumOf ag.dl (L.take (i+1))))/\w'.cell? ⟨w3.heap.size,1,none⟩=some (.int .i64 (sumOf ag.dh (L.take (i+1))))/\w'.cell? ⟨w.heap.size+1,0,none⟩=some (.int .i64 fl)/\w'.cell? ⟨w.heap.size+1,1,none⟩=some (.int .i64 fh)/\w'.cell? ⟨w.heap.size,0,none⟩=some (.int .i64 al)/\w'.cell? ⟨w.heap.size,1,none⟩=some (.int .i64 ah))
        (first
         | (refine ⟨?_,?_,?_,?_,?_,?_⟩<;>with_reducible assumption)
         | with_reducible exact ⟨s0o _,s1o _,t0o _,t1o _,a0o _,a1o _⟩
         | with_reducible exact ⟨s0p _,s1p _,t0p _,t1p _,a0p _,a1p _⟩)
        (first
         | ((go_at_call 28;with_reducible refine (F1.out _).mono ?_);rintro r wm ⟨rfl,rfl⟩)
         | ((go_at_call 29;with_reducible refine (F2.out _).mono ?_);rintro r wm ⟨rfl,rfl⟩))
       all_goals (go_wp2_with fail)
       all_goals go_meet
       all_goals
        first
         | exact ⟨rfl,((au W).new W.heap.size rfl _ _).drew⟩
         | exact ⟨rfl,(au W).drew.new _ rfl _ _⟩
      case rest =>
      generalize wc=w5 at *
      obtain ⟨rfl,hK⟩:=hcut;generalize hg:W.heap.size=g at *
      clear hg;have KX:=Lib.hid hK;have K5:=Lib.hid (K2.out.below hK.1);have O5:=Lib.hid (O2.out.below hK.1);clear hK K2 O2 F1 F2 n1 n2 n3 n4 hX hY;have CV:=Lib.hid (fun w=>ma X Y w)
      have KY:=KX;have m0:=KY.out.c (g:=g) (t:=26) (cs:=#[.int .i64 X,.int .i64 Y]) (by simp) (i:=0) (v:=.int .i64 X) rfl;have m1:=KY.out.c (g:=g) (t:=26) (cs:=#[.int .i64 X,.int .i64 Y]) (by simp) (i:=1) (v:=.int .i64 Y) rfl
      cases hv:tmB X Y
      . rw [hv] at CV;have R:=Lib.hid (Ga (al:=al) (ah:=ah) (fl:=fl) (fh:=fh) hl (by rw [VX.out];exact hv))
        go_wp2_with fail;refine (CV.out _).mono ?_;rintro e w6 ⟨rfl,hb6⟩;have K6:=Lib.hid (K5.out.below hb6);clear hb6 K5 O5 CV m0 m1 KX KY;go_wp2;refine bodyPost_ret (by simp [results,Tryz.results8,go_sem];try rfl) rfl ⟨⟨_,by rw [R.out.1],by rw [R.out.2];exact bK.nil _ _ _ _⟩,K6.out.1⟩
      . rw [hv] at CV
        have FIN:Hid (∀ j,j<i+1->atB (atV al ah fl fh L j)=true):=Lib.hid (by
         intro j hj
         by_cases q:j<i
         . exact OK.out j q
         . obtain rfl:j=i:=by omega
           rw [VX.out];exact hv)
        have ND:Hid (atL al ah fl fh L (i+1)=atL al ah fl fh L i++[[X,Y]]):=Lib.hid (by rw [Ar,VX.out])
        go_wp2_with fail;refine (CV.out _).mono ?_;rintro e w6 ⟨rfl,hb6⟩;have K6:=Lib.hid (K5.out.below hb6);have O6:=Lib.hid (O5.out.below hb6);have KZ:=Lib.hid (KX.out.below hb6);clear hb6 K5 O5 CV m0 m1 KX KY;have KY:=KZ;have m0:=KY.out.c (g:=g) (t:=26) (cs:=#[.int .i64 X,.int .i64 Y]) (by simp) (i:=0) (v:=.int .i64 X) rfl;have m1:=KY.out.c (g:=g) (t:=26) (cs:=#[.int .i64 X,.int .i64 Y]) (by simp) (i:=1) (v:=.int .i64 Y) rfl
        have BS:Hid (w3.heap.size+1<=w6.heap.size):=Lib.hid (by have:=K6.out.lt (g:=w3.heap.size) (t:=23) (cs:=#[.int .i64 (sumOf ag.dl (L.take (i+1))),.int .i64 (sumOf ag.dh (L.take (i+1)))]) (by simp);omega)
        go_wp2_with (at_builtin;refine kr FI rfl _ _ rfl _ (w3.heap.size+1) _ (atL al ah fl fh L i) [[X,Y]] rfl (O6.out.alloc _) _ 1 1 rfl rfl (fun j u hj=>oM _ _ rfl _ _ rfl _ j u hj) (by intro x hx;simp at hx;subst hx;rfl) (Nat.succ_pos _) HSZ.out (Nat.le_trans BS.out (sW _ _)) ?_;intro v10 w10 O10 B10 G10 E10)
        have O10':=Lib.hid O10;have K10:=Lib.hid ((K6.out.alloc _).upto B10 (by have:=HW3.out;omega) (by intro p hp;have:=HW3.out;simp at hp;rcases hp with rfl|rfl|rfl<;>simp only []<;>omega))
        clear O10 B10 G10 E10 m0 m1 KY KZ K6 O6;go_wp2;go_light;exact ⟨⟨i+1,by rw [show ((i+1:Nat):Int)=(i:Int)+1 by omega],by omega,FIN.out,by rw [ND.out];exact O10'.out,K10.out⟩,by simp only [intOf];omega⟩
  . have hl':¬ (i:Int)<(L.length:Int):=by omega
    have R:=Lib.hid (Hu (al:=al) (ah:=ah) (fl:=fl) (fh:=fh) (L:=L) (fun j hj=>OK.out j (by omega)))
    have EQ:Hid (atL al ah fl fh L i=atL al ah fl fh L L.length):=Lib.hid (by rw [show i=L.length by omega])
    clear hi;go_wp2;refine bodyPost_ret (by simp [results,Tryz.results8,go_sem];try rfl) rfl ⟨⟨_,by rw [R.out.1],by rw [R.out.2,<-EQ.out];exact O.out.mono (by have:=HW3.out;omega)⟩,K.out.1⟩
