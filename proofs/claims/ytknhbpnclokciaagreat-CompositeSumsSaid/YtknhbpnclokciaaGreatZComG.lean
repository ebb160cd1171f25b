/- The walk of the reference's Given, without, over and Plan. -/
import Derived.Test.YtknhbpnclokciaaGreatZComN
import Derived.Test.YtknhbpnclokciaaGreatZComR
import Derived.Test.YtknhbpnclokciaaGreatZRwP
import Derived.Deep.QuietTactic
import Derived.BigQuiet
import Derived.Deep.Light
import Derived.StillTailTactics
import Derived.Deep.RegionHeld3
import Derived.Deep.DeepCutAuto
import Derived.IntWalk
set_option linter.unusedVariables false
set_option linter.unusedSimpArgs false
set_option maxRecDepth 100000
set_option maxHeartbeats 4000000
namespace Go.Proofs.YtknhbpnclokciaaGreat
open Go.RowKit Alm Sx
theorem Uz {l:Int} {L:Cs} (i:Nat) (h:i<L.length) (hp:dJ L[i]=false):bS l L=1:=by
 unfold bS;rw [if_neg];intro e;have:=List.all_eq_true.1 e _ (List.getElem_mem h);rw [hp] at this;cases this
theorem Jk {l:Int} {L:Cs} (hp:L.all dJ=true) (h:¬ (1<=l/\l<5400000)):bS l L=2:=by
 unfold bS;rw [if_pos hp,if_neg];rintro ⟨a,b,_⟩;exact h ⟨a,b⟩
theorem TR {l:Int} {L:Cs} (hp:L.all dJ=true) (i:Nat) (h:i<L.length) (hq:di l L[i]=false):bS l L=2:=by
 unfold bS;rw [if_pos hp,if_neg];rintro ⟨_,_,e⟩;have:=List.all_eq_true.1 e _ (List.getElem_mem h);rw [hq] at this;cases this
theorem OP {q:List Int->Bool} {L:Cs} (h:∀ j (h:j<L.length),q L[j]=true):L.all q=true:=by
 rw [List.all_eq_true];intro x hx;obtain ⟨j,hj,rfl⟩:=List.getElem_of_mem hx;exact h j hj
theorem Y8 {l:Int} {L:Cs} (hp:L.all dJ=true) (h:1<=l/\l<5400000) (hq:L.all (di l)=true):bS l L=0:=by
 unfold bS;rw [if_pos hp,if_pos ⟨h.1,h.2,hq⟩]
theorem XM {w wr:World} {B:Nat} (h:Below B w wr) (n:Nat) (o:Obj) (hB:B<=w.heap.size):B<=((wr.drewN n).alloc o).heap.size :=
 Nat.le_trans (show B<=(wr.drewN n).heap.size from Nat.le_trans hB h.size) (cZ _ _)
theorem D5 {w wr wx:World} {n:Nat} {o:Obj} (h:Below w.heap.size w wr) (hb:Below w.heap.size ((wr.drewN n).alloc o) wx):Below w.heap.size w wx :=
 ((below_drewN h n).alloc (show w.heap.size<=(wr.drewN n).heap.size from h.size) _).trans hb
theorem Zj (a b:Int) (w:World) :
 Calls Tryz.prog 62 #[.agg #[.int .i64 a,.int .i64 b]] w fun e w'=>e=.returned (.bool (dJ [a,b]))/\Below w.heap.size w w':=by
 have e1:dJ [a,b]=(decide (a>=-5400000)&&(decide (a<=5400000)&&(decide (b>=-10800000)&&decide (b<10800000)))):=by
  unfold dJ PtV;rw [Bool.eq_iff_iff];simp;omega
 rw [e1];clear e1;go_enter Tryz.func62,Tryz.ntmps62;go_wp2
 all_goals
  go_ret;exact ⟨fC (by first|(simp<;>omega)|(simp_all<;>omega)|rfl),by go_grown⟩
theorem lW (a:Option Addr) (cap:Nat) (L:Cs) (l:Int) (w:World) (hL:SlI 2 w a L) (hn:L.length<=100) :
 Calls Tryz.prog 15 #[.slice a L.length cap,.int .i64 l] w fun e w'=>e=.returned (.int .i64 (bS l L))/\Below w.heap.size w w':=by
 have HL:=Lib.hid hL;clear hL;obtain ⟨G,hG⟩:∃ G,bS l L=G:=⟨_,rfl⟩;rw [hG];have HG:=Lib.hid hG;clear hG;go_enter Tryz.func15,Tryz.ntmps15;go_wp2;go_loopw [5] (fun v wr=>∃ i:Nat,v=.int .i64 (i:Int)/\i<=L.length/\(∀ j (h:j<L.length),j<i->dJ L[j]=true)/\Below w.heap.size w wr) (fun v _=>((L.length:Int)-intOf v).toNat)
 case atStart =>
  exact ⟨0,rfl,by omega,fun j h hj=>by omega,Below.refl _ _⟩
 case round =>
  obtain ⟨i,rfl,hi,hs,hb⟩:=hrel;have HB:=Lib.hid hb;clear hb
  by_cases hl:i<L.length
  . rcases HL.out.below HB.out with h0|⟨b,off,rfl,hR⟩
    . rw [h0] at hl;simp at hl
    . obtain ⟨x,y,hx,c0,c1⟩:=hR.at2 i hl;have hS:=Lib.hid hs;clear hs;have C:=Lib.hid (fun w=>Zj x y w)
      have hl':(i:Int)<(L.length:Int):=by omega
      have FIN:Hid (dJ L[i]=true->∀ j (h:j<L.length),j<i+1->dJ L[j]=true):=by
       intro h j hj hji
       by_cases e:j<i
       . exact hS.out j hj e
       . obtain rfl:j=i:=by omega
         exact h
      have FIN2:Hid (dJ L[i]=false->G=1):=fun h=>by rw [<-HG.out];exact Uz i hl h
      rw [hx] at FIN FIN2;cases hsm:dJ [x,y]
      . rw [hsm] at C FIN2;have RG:Hid (G=1):=FIN2.out rfl;go_wp2_with fail;refine (C.out _).mono ?_;rintro e w1 ⟨rfl,hb1⟩;have HB1:Hid (Below w.heap.size w w1):=HB.out.trans (hb1.mono HB.out.size);clear hb1 c0 c1 hR HL HB C FIN FIN2 hS;go_wp2;go_ret;exact ⟨by rw [RG.out];first|done|rfl,HB1.out⟩
      . rw [hsm] at C FIN;go_wp2_with fail;refine (C.out _).mono ?_;rintro e w1 ⟨rfl,hb1⟩;have HB1:Hid (Below w.heap.size w w1):=HB.out.trans (hb1.mono HB.out.size);clear hb1 c0 c1 hR HL HB C FIN2 hS;go_wp2;go_light;exact ⟨⟨i+1,by rw [show ((i+1:Nat):Int)=(i:Int)+1 by omega],by omega,FIN.out (by first|rfl|trivial),HB1.out⟩,by simp only [intOf];omega⟩
  . have hl':¬ (i:Int)<(L.length:Int):=by omega
    have HP:=Lib.hid (show L.all dJ=true from OP fun j hj=>hs j hj (by omega))
    clear hs
    by_cases h1:l<1
    . have RG:Hid (G=2):=by rw [<-HG.out];exact Jk HP.out (by omega)
      have d1:decide (l<1)=true:=decide_eq_true h1;go_wp2;go_ret;exact ⟨by rw [RG.out];first|done|rfl,HB.out⟩
    . have d1:decide (l<1)=false:=decide_eq_false h1
      by_cases h2:l>5399999
      . have RG:Hid (G=2):=by rw [<-HG.out];exact Jk HP.out (by omega)
        have d2:decide (l>5399999)=true:=decide_eq_true h2;go_wp2;go_ret;exact ⟨by rw [RG.out];first|done|rfl,HB.out⟩
      . have d2:decide (l>5399999)=false:=decide_eq_false h2;have h3:1<=l/\l<5400000:=by omega
        clear hl hi;go_wp2;go_loopw [6] (fun v wy=>∃ i:Nat,v=.int .i64 (i:Int)/\i<=L.length/\(∀ j (h:j<L.length),j<i->di l L[j]=true)/\Below w.heap.size w wy) (fun v _=>((L.length:Int)-intOf v).toNat)
        case atStart =>
         exact ⟨0,rfl,by omega,fun j h hj=>by omega,HB.out⟩
        case round =>
         clear HB;obtain ⟨k,rfl,hi,hs,hb⟩:=hrel;have HB:=Lib.hid hb;clear hb
         by_cases hl:k<L.length
         . rcases HL.out.below HB.out with h0|⟨b,off,rfl,hR⟩
           . rw [h0] at hl;simp at hl
           . obtain ⟨x,y,hx,c0,c1⟩:=hR.at2 k hl;have hS:=Lib.hid hs;clear hs;have hl':(k:Int)<(L.length:Int):=by omega
             have FIN:Hid (di l L[k]=true->∀ j (h:j<L.length),j<k+1->di l L[j]=true):=by
              intro h j hj hji
              by_cases e:j<k
              . exact hS.out j hj e
              . obtain rfl:j=k:=by omega
                exact h
             have FIN2:Hid (di l L[k]=false->G=2):=fun h=>by rw [<-HG.out];exact TR HP.out k hl h
             rw [hx] at FIN FIN2
             by_cases g1:x>l
             . have RG:Hid (G=2):=FIN2.out (by unfold di;simp;omega)
               have g1':decide (x>l)=true:=decide_eq_true g1;clear hS FIN FIN2 HL hR c1;go_wp2;go_ret;exact ⟨by rw [RG.out];first|done|rfl,HB.out⟩
             . have g1':decide (x>l)=false:=decide_eq_false g1
               by_cases g2:x < -l
               . have RG:Hid (G=2):=FIN2.out (by unfold di;simp;omega)
                 have g2':decide (x < -l)=true:=decide_eq_true g2;have g3':decide (x<0-l)=true:=decide_eq_true (by omega)
                 clear hS FIN FIN2 HL hR c1;go_wp2;go_ret;exact ⟨by rw [RG.out];first|done|rfl,HB.out⟩
               . have g2':decide (x < -l)=false:=decide_eq_false g2;have g3':decide (x<0-l)=false:=decide_eq_false (by omega)
                 have F3:=Lib.hid (FIN.out (by unfold di;simp;omega))
                 clear hS FIN FIN2 HL hR c1;go_wp2;go_light;exact ⟨⟨k+1,by rw [show ((k+1:Nat):Int)=(k:Int)+1 by omega],by omega,F3.out,HB.out⟩,by simp only [intOf];omega⟩
         . have hl':¬ (k:Int)<(L.length:Int):=by omega
           have RG:Hid (G=0):=by rw [<-HG.out];exact Y8 HP.out h3 (OP fun j hj=>hs j hj (by omega))
           clear hs;go_wp2;go_ret;exact ⟨by rw [RG.out];first|done|rfl,HB.out⟩
theorem zR (a:Option Addr) (cap:Nat) (L:Cs) (w:World) (hL:SlI 2 w a L) (hn:L.length<=100) :
 Calls Tryz.prog 67 #[.slice a L.length cap] w fun e w'=>(∃ u,e=.returned u/\bJ 2 23 w.heap.size w' u (dd L))/\Below w.heap.size w w':=by
 have HL:=Lib.hid hL;clear hL;go_enter Tryz.func67,Tryz.ntmps67;go_wp2;go_loopw [3,4] (fun v3 v4 wr=>∃ i:Nat,v4=.int .i64 (i:Int)/\i<=L.length/\bJ 2 23 w.heap.size wr v3 (ddA L i)/\Below w.heap.size w wr) (fun _ v4 _=>((L.length:Int)-intOf v4).toNat)
 case atStart=>exact ⟨0,rfl,by omega,bJ.nil _ _ _ _,Below.refl _ _⟩
 case round =>
  obtain ⟨i,rfl,hi,ho,hb⟩:=hrel;have HB:=Lib.hid hb;have O:=Lib.hid ho;clear hb ho;have HSZ:Hid ((ddA L i).length+1<=1000000):=by have:=Da L i;exact Lib.hid (by omega)
  by_cases hl:i<L.length
  . rcases HL.out.below HB.out with h0|⟨q,off,rfl,hR⟩
    . rw [h0] at hl;simp at hl
    . obtain ⟨x,y,hx,c0,c1⟩:=hR.at2 i hl;have hl':(i:Int)<(L.length:Int):=by omega
      by_cases hz:i=0
      . have hz1:((i:Int)==0)=true:=by simp;omega
        have ND:Hid (ddA L (i+1)=ddA L i++[[x,y]]):=Lib.hid (by
         rw [<-hx];show (if i=0∨L.getD i []≠L.getD (i-1) [] then ddA L i++[L.getD i []] else ddA L i)=_
         rw [if_pos (.inl hz),List.getD_eq_getElem?_getD,List.getElem?_eq_getElem hl];rfl)
        clear hR HL hx hz;go_wp2_with fail;go_quiet (fail);go_wp2_with (at_builtin;refine bI mJ rfl _ _ rfl _ w.heap.size _ (ddA L i) [[x,y]] rfl ((O.out.drewN _).alloc _) _ 1 1 rfl rfl (fun j u hj=>bZ _ _ rfl _ _ rfl _ j u hj) (by intro x hx;simp at hx;subst hx;rfl) (Nat.succ_pos _) HSZ.out (XM HB.out _ _ (Nat.le_refl _)) ?_;intro v10 w10 O10 B10 G10 E10)
        have O10':=Lib.hid O10;have B10':=Lib.hid (D5 HB.out B10);clear O10 B10 G10 E10 O HB;go_wp2;go_light;exact ⟨⟨i+1,by rw [show ((i+1:Nat):Int)=(i:Int)+1 by omega],by omega,by rw [ND.out];exact O10'.out,B10'.out⟩,by simp only [intOf];omega⟩
      . obtain ⟨z,t,hy,d0,d1⟩:=hR.at2 (i-1) (by omega)
        have hz1:((i:Int)==0)=false:=by simp;omega
        have k0:1<=i:=by omega
        have ND1:Hid ([x,y]≠[z,t]->ddA L (i+1)=ddA L i++[[x,y]]):=Lib.hid (fun h=>by rw [<-hx];exact wT L i k0 hl (by rw [hx,hy];exact h))
        have ND2:Hid ([x,y]=[z,t]->ddA L (i+1)=ddA L i):=Lib.hid (fun h=>xJ L i k0 hl (by rw [hx,hy];exact h))
        have E:=fun w=>(Jz [x,y] [z,t] rfl rfl w).2
        clear hR HL hx hy hz
        by_cases he:[x,y]=[z,t]
        . have E2:∀ w,(binOp .neq 23 (.agg #[.int .i64 x,.int .i64 y]) (.agg #[.int .i64 z,.int .i64 t])).run Tryz.prog w=.ok (.bool false) w:=fun w=>by
           have:=E w;rw [decide_eq_true he] at this;exact this
          have ND:=Lib.hid (ND2.out he);have O2:=Lib.hid (fun n=>O.out.drewN n)
          clear E ND1 ND2 he;go_wp2_with fail;go_quiet (fail);go_wp2;go_light;exact ⟨⟨i+1,by rw [show ((i+1:Nat):Int)=(i:Int)+1 by omega],by omega,by rw [ND.out];exact O2.out _,below_drewN HB.out _⟩,by simp only [intOf];omega⟩
        . have E2:∀ w,(binOp .neq 23 (.agg #[.int .i64 x,.int .i64 y]) (.agg #[.int .i64 z,.int .i64 t])).run Tryz.prog w=.ok (.bool true) w:=fun w=>by
           have:=E w;rw [decide_eq_false he] at this;exact this
          have ND:=Lib.hid (ND1.out he);clear E ND1 ND2 he;go_wp2_with fail;go_quiet (fail);go_wp2_with (at_builtin;refine bI mJ rfl _ _ rfl _ w.heap.size _ (ddA L i) [[x,y]] rfl ((O.out.drewN _).alloc _) _ 1 1 rfl rfl (fun j u hj=>bZ _ _ rfl _ _ rfl _ j u hj) (by intro x hx;simp at hx;subst hx;rfl) (Nat.succ_pos _) HSZ.out (XM HB.out _ _ (Nat.le_refl _)) ?_;intro v10 w10 O10 B10 G10 E10)
          have O10':=Lib.hid O10;have B10':=Lib.hid (D5 HB.out B10);clear O10 B10 G10 E10 O HB;go_wp2;go_light;exact ⟨⟨i+1,by rw [show ((i+1:Nat):Int)=(i:Int)+1 by omega],by omega,by rw [ND.out];exact O10'.out,B10'.out⟩,by simp only [intOf];omega⟩
  . obtain rfl:i=L.length:=by omega
    have hl':¬ (L.length:Int)<(L.length:Int):=by omega
    go_wp2;go_ret;exact ⟨⟨_,rfl,O.out⟩,HB.out⟩
theorem O7 (n:Int) (w:World) (h:I64 n) :
 Calls Tryz.prog 166 #[.int .i64 n] w fun e w'=>e=.returned (.int .i64 (n%21600000))/\w=w':=by
 obtain ⟨h1,h2⟩:=h
 have k:n.tmod 21600000<0->wrap64 (n.tmod 21600000+21600000)=n%21600000:=by
  intro h;unfold wrap64;rw [Int.tmod_eq_emod] at *;split at h<;>split<;>omega
 have k2:0<=n.tmod 21600000->n.tmod 21600000=n%21600000:=by
  intro h;rw [Int.tmod_eq_emod] at *;split at h<;>split<;>omega
 have K:=Lib.hid k;have K2:=Lib.hid k2;clear k k2;go_enter Tryz.func166,Tryz.ntmps166;go_wp2
 . go_ret;exact ⟨bN (K.out (by assumption)),rfl⟩
 . go_ret;exact ⟨bN (K2.out (by assumption)),rfl⟩
theorem ji (n:Int) (w:World) (h:I64 n) :
 Calls Tryz.prog 63 #[.int .i64 n] w fun e w'=>e=.returned (.int .i64 (sgd n))/\w=w':=by
 have C:=Lib.hid (fun w=>O7 n w h)
 have b:0<=n%21600000/\n%21600000<21600000:=by omega
 unfold sgd;clear h;generalize n%21600000=m at *
 by_cases g:m>=10800000
 . rw [if_pos g];go_enter Tryz.func63,Tryz.ntmps63;go_wp2_with fail;refine (C.out _).mono ?_;rintro e w1 ⟨rfl,rfl⟩;go_wp2;go_ret;exact ⟨rfl,rfl⟩
 . rw [if_neg g];go_enter Tryz.func63,Tryz.ntmps63;go_wp2_with fail;refine (C.out _).mono ?_;rintro e w1 ⟨rfl,rfl⟩;go_wp2;go_ret;exact ⟨rfl,rfl⟩
def OvC (w:World) (l:List (Nat × TypeId × Array Value)) (u v:Int) (s:Value) (wx:World):Prop:=∃ g,s=.pointer (some ⟨g,0,none⟩)/\KS w wx ((g,23,#[.int .i64 u,.int .i64 v])::l)/\w.heap.size+4<=g
theorem Q5 {w wx:World} {l:List (Nat × TypeId × Array Value)} {g:Nat} (h:KS w wx l) (hg:w.heap.size+4<=wx.heap.size) (u v:Int) (e:wx.heap.size=g):OvC w l u v (.pointer (some ⟨g,0,none⟩)) (wx.alloc (.cells #[.int .i64 u,.int .i64 v] 23)) :=
 ⟨g,rfl,by rw [<-e];exact h.new wx.heap.size rfl _ _,by omega⟩
theorem Sr {w wx:World} {l:List (Nat × TypeId × Array Value)} {g:Nat} {c0 c1:Value} (h:KS w wx ((g,23,#[c0,c1])::l)) (hg:w.heap.size+4<=g) (hd:∀ p∈l,p.1<g) (u v:Int):OvC w l u v (.pointer (some ⟨g,0,none⟩)) ((wx.setCell ⟨g,0,none⟩ (.int .i64 u)).setCell ⟨g,1,none⟩ (.int .i64 v)) :=
 ⟨g,rfl,iK h (.head _) (by omega) (fun p hp=>by have:=hd p hp;omega) (fun p hp=>.tail _ hp) _ _,hg⟩
theorem xn {w wx:World} {l:List (Nat × TypeId × Array Value)} (h:KS w wx l):∀ p∈l,p.1<wx.heap.size:=fun p hp=>h.lt (g:=p.1) (t:=p.2.1) (cs:=p.2.2) hp
