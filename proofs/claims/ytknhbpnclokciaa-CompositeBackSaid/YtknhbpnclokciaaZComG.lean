/- The walk of the reference's Given, without, over and Plan. -/
import Derived.Test.YtknhbpnclokciaaZComN
import Derived.Test.YtknhbpnclokciaaZComR
import Derived.Test.YtknhbpnclokciaaZRwP
import Derived.Deep.QuietTactic
import Derived.BigQuiet
import Derived.Deep.Light
import Derived.StillTailTactics
import Derived.Deep.RegionHeld3
import Derived.Deep.DeepCutAuto
import Derived.IntWalk
set_option linter.unusedVariables false
set_option linter.unusedSimpArgs false
set_option maxRecDepth 100000
set_option maxHeartbeats 4000000
namespace Go.Proofs.Ytknhbpnclokciaa
open Go.RowKit Alm Sx
theorem Uz {l:Int} {L:Cs} (i:Nat) (h:i<L.length) (hp:dJ L[i]=false):bS l L=1:=by
 unfold bS;rw [if_neg];intro e;have:=List.all_eq_true.1 e _ (List.getElem_mem h);rw [hp] at this;cases this
theorem Jk {l:Int} {L:Cs} (hp:L.all dJ=true) (h:¬ (1<=l/\l<5400000)):bS l L=2:=by
 unfold bS;rw [if_pos hp,if_neg];rintro ⟨a,b,_⟩;exact h ⟨a,b⟩
theorem TR {l:Int} {L:Cs} (hp:L.all dJ=true) (i:Nat) (h:i<L.length) (hq:di l L[i]=false):bS l L=2:=by
 unfold bS;rw [if_pos hp,if_neg];rintro ⟨_,_,e⟩;have:=List.all_eq_true.1 e _ (List.getElem_mem h);rw [hq] at this;cases this
theorem OP {q:List Int->Bool} {L:Cs} (h:∀ j (h:j<L.length),q L[j]=true):L.all q=true:=by
 rw [List.all_eq_true];intro x hx;obtain ⟨j,hj,rfl⟩:=List.getElem_of_mem hx;exact h j hj
theorem Y8 {l:Int} {L:Cs} (hp:L.all dJ=true) (h:1<=l/\l<5400000) (hq:L.all (di l)=true):bS l L=0:=by
 unfold bS;rw [if_pos hp,if_pos ⟨h.1,h.2,hq⟩]
theorem Zj (a b:Int) (w:World) :
 Calls Try.prog 20 #[.agg #[.int .i64 a,.int .i64 b]] w fun e w'=>e=.returned (.bool (dJ [a,b]))/\Below w.heap.size w w':=by
 have e1:dJ [a,b]=(decide (a>=-5400000)&&(decide (a<=5400000)&&(decide (b>=-10800000)&&decide (b<10800000)))):=by
  unfold dJ PtV;rw [Bool.eq_iff_iff];simp;omega
 rw [e1];clear e1;go_enter Try.func20,Try.ntmps20;go_wp2
 all_goals
  go_ret;exact ⟨fC (by first|(simp<;>omega)|(simp_all<;>omega)|rfl),by go_grown⟩
theorem lW (a:Option Addr) (cap:Nat) (L:Cs) (l:Int) (w:World) (hL:SlI 2 w a L) (hn:L.length<=100) :
 Calls Try.prog 6 #[.slice a L.length cap,.int .i64 l] w fun e w'=>e=.returned (.int .i64 (bS l L))/\Below w.heap.size w w':=by
 have HL:=Lib.hid hL;clear hL;obtain ⟨G,hG⟩:∃ G,bS l L=G:=⟨_,rfl⟩;rw [hG];have HG:=Lib.hid hG;clear hG;go_enter Try.func6,Try.ntmps6;go_wp2;go_loopw [5] (fun v wr=>∃ i:Nat,v=.int .i64 (i:Int)/\i<=L.length/\(∀ j (h:j<L.length),j<i->dJ L[j]=true)/\Below w.heap.size w wr) (fun v _=>((L.length:Int)-intOf v).toNat)
 case atStart =>
  exact ⟨0,rfl,by omega,fun j h hj=>by omega,Below.refl _ _⟩
 case round =>
  obtain ⟨i,rfl,hi,hs,hb⟩:=hrel;have HB:=Lib.hid hb;clear hb
  by_cases hl:i<L.length
  . rcases HL.out.below HB.out with h0|⟨b,off,rfl,hR⟩
    . rw [h0] at hl;simp at hl
    . obtain ⟨x,y,hx,c0,c1⟩:=hR.at2 i hl;have hS:=Lib.hid hs;clear hs;have C:=Lib.hid (fun w=>Zj x y w)
      have hl':(i:Int)<(L.length:Int):=by omega
      have FIN:Hid (dJ L[i]=true->∀ j (h:j<L.length),j<i+1->dJ L[j]=true):=by
       intro h j hj hji
       by_cases e:j<i
       . exact hS.out j hj e
       . obtain rfl:j=i:=by omega
         exact h
      have FIN2:Hid (dJ L[i]=false->G=1):=fun h=>by rw [<-HG.out];exact Uz i hl h
      rw [hx] at FIN FIN2;cases hsm:dJ [x,y]
      . rw [hsm] at C FIN2;have RG:Hid (G=1):=FIN2.out rfl;go_wp2_with fail;refine (C.out _).mono ?_;rintro e w1 ⟨rfl,hb1⟩;have HB1:Hid (Below w.heap.size w w1):=HB.out.trans (hb1.mono HB.out.size);clear hb1 c0 c1 hR HL HB C FIN FIN2 hS;go_wp2;go_ret;exact ⟨by rw [RG.out];first|done|rfl,HB1.out⟩
      . rw [hsm] at C FIN;go_wp2_with fail;refine (C.out _).mono ?_;rintro e w1 ⟨rfl,hb1⟩;have HB1:Hid (Below w.heap.size w w1):=HB.out.trans (hb1.mono HB.out.size);clear hb1 c0 c1 hR HL HB C FIN2 hS;go_wp2;go_light;exact ⟨⟨i+1,by rw [show ((i+1:Nat):Int)=(i:Int)+1 by omega],by omega,FIN.out (by first|rfl|trivial),HB1.out⟩,by simp only [intOf];omega⟩
  . have hl':¬ (i:Int)<(L.length:Int):=by omega
    have HP:=Lib.hid (show L.all dJ=true from OP fun j hj=>hs j hj (by omega))
    clear hs
    by_cases h1:l<1
    . have RG:Hid (G=2):=by rw [<-HG.out];exact Jk HP.out (by omega)
      have d1:decide (l<1)=true:=decide_eq_true h1;go_wp2;go_ret;exact ⟨by rw [RG.out];first|done|rfl,HB.out⟩
    . have d1:decide (l<1)=false:=decide_eq_false h1
      by_cases h2:l>5399999
      . have RG:Hid (G=2):=by rw [<-HG.out];exact Jk HP.out (by omega)
        have d2:decide (l>5399999)=true:=decide_eq_true h2;go_wp2;go_ret;exact ⟨by rw [RG.out];first|done|rfl,HB.out⟩
      . have d2:decide (l>5399999)=false:=decide_eq_false h2;have h3:1<=l/\l<5400000:=by omega
        clear hl hi;go_wp2;go_loopw [6] (fun v wy=>∃ i:Nat,v=.int .i64 (i:Int)/\i<=L.length/\(∀ j (h:j<L.length),j<i->di l L[j]=true)/\Below w.heap.size w wy) (fun v _=>((L.length:Int)-intOf v).toNat)
        case atStart =>
         exact ⟨0,rfl,by omega,fun j h hj=>by omega,HB.out⟩
        case round =>
         clear HB;obtain ⟨k,rfl,hi,hs,hb⟩:=hrel;have HB:=Lib.hid hb;clear hb
         by_cases hl:k<L.length
         . rcases HL.out.below HB.out with h0|⟨b,off,rfl,hR⟩
           . rw [h0] at hl;simp at hl
           . obtain ⟨x,y,hx,c0,c1⟩:=hR.at2 k hl;have hS:=Lib.hid hs;clear hs;have hl':(k:Int)<(L.length:Int):=by omega
             have FIN:Hid (di l L[k]=true->∀ j (h:j<L.length),j<k+1->di l L[j]=true):=by
              intro h j hj hji
              by_cases e:j<k
              . exact hS.out j hj e
              . obtain rfl:j=k:=by omega
                exact h
             have FIN2:Hid (di l L[k]=false->G=2):=fun h=>by rw [<-HG.out];exact TR HP.out k hl h
             rw [hx] at FIN FIN2
             by_cases g1:x>l
             . have RG:Hid (G=2):=FIN2.out (by unfold di;simp;omega)
               have g1':decide (x>l)=true:=decide_eq_true g1;clear hS FIN FIN2 HL hR c1;go_wp2;go_ret;exact ⟨by rw [RG.out];first|done|rfl,HB.out⟩
             . have g1':decide (x>l)=false:=decide_eq_false g1
               by_cases g2:x < -l
               . have RG:Hid (G=2):=FIN2.out (by unfold di;simp;omega)
                 have g2':decide (x < -l)=true:=decide_eq_true g2;have g3':decide (x<0-l)=true:=decide_eq_true (by omega)
                 clear hS FIN FIN2 HL hR c1;go_wp2;go_ret;exact ⟨by rw [RG.out];first|done|rfl,HB.out⟩
               . have g2':decide (x < -l)=false:=decide_eq_false g2;have g3':decide (x<0-l)=false:=decide_eq_false (by omega)
                 have F3:=Lib.hid (FIN.out (by unfold di;simp;omega))
                 clear hS FIN FIN2 HL hR c1;go_wp2;go_light;exact ⟨⟨k+1,by rw [show ((k+1:Nat):Int)=(k:Int)+1 by omega],by omega,F3.out,HB.out⟩,by simp only [intOf];omega⟩
         . have hl':¬ (k:Int)<(L.length:Int):=by omega
           have RG:Hid (G=0):=by rw [<-HG.out];exact Y8 HP.out h3 (OP fun j hj=>hs j hj (by omega))
           clear hs;go_wp2;go_ret;exact ⟨by rw [RG.out];first|done|rfl,HB.out⟩
