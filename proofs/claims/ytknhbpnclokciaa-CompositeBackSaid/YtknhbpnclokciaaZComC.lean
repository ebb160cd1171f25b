/- The contracts of check of composite sailing, and of the reference's. -/
import Derived.Test.YtknhbpnclokciaaZComN
import Derived.Deep.QuietTactic
import Derived.BigQuiet
import Derived.Deep.Light
set_option linter.unusedVariables false
set_option linter.unusedSimpArgs false
set_option maxRecDepth 100000
set_option maxHeartbeats 2000000
namespace Go.Proofs.Ytknhbpnclokciaa
open Go.RowKit Alm Sx
theorem acQ (a b:Int) (w:World) :
 Calls Try.prog 38 #[.agg #[.int .i64 a,.int .i64 b]] w fun e w'=>e=.returned (.bool (dJ [a,b]))/\Below w.heap.size w w':=by
 have e1:dJ [a,b]=(decide (a>=-5400000)&&(decide (a<=5400000)&&(decide (b>=-10800000)&&decide (b<10800000)))):=by
  unfold dJ PtV;rw [Bool.eq_iff_iff];simp;omega
 rw [e1];clear e1;go_enter Try.func38,Try.ntmps38;go_wp2
 all_goals
  go_ret;exact ⟨fC (by first|(simp<;>omega)|(simp_all<;>omega)|rfl),by go_grown⟩
theorem Kn (n:Int) (w:World) (h:-4611686018427387904<=n/\n<=4611686018427387904) :
 Calls Try.prog 23 #[.int .i64 n] w fun e w'=>e=.returned (.int .i64 (max n (-n)))/\w=w':=by
 obtain ⟨h0,h1⟩:=h;go_enter Try.func23,Try.ntmps23;go_wp2
 all_goals
  go_ret;exact ⟨bN (by first|rfl|omega),rfl⟩
theorem YY (a b:Int) (w:World) :
 Calls Try.prog 37 #[.agg #[.int .i64 a,.int .i64 b]] w fun e w'=>e=.returned (.bool (!dJ [a,b]))/\Below w.heap.size w w':=by
 have C:=Lib.hid (fun w=>acQ a b w)
 generalize dJ [a,b]=U at *
 go_enter Try.func37,Try.ntmps37;go_wp2_with fail;refine (C.out _).mono ?_;rintro e w1 ⟨rfl,hb1⟩;have HB1:Hid (Below w.heap.size w w1):=((Below.refl _ _).alloc (Nat.le_refl _) _).trans (hb1.mono (by go_light;simp))
 clear hb1 C;go_wp2;go_ret;exact ⟨rfl,HB1.out⟩
theorem Zk (a b l:Int) (g:Nat) (w:World) (hg:w.cell? ⟨g,0,none⟩=some (.int .i64 l)) (ha:-5400000<=a/\a<=5400000) (hl:1<=l/\l<5400000) :
 Calls Try.prog 39 #[.agg #[.int .i64 a,.int .i64 b],.pointer (some ⟨g,0,none⟩)] w fun e w'=>e=.returned (.bool (!di l [a,b]))/\Below w.heap.size w w':=by
 have C:=Lib.hid (fun w=>Kn a w (by omega))
 have e1:(!di l [a,b])=decide (max a (-a)>l):=by
  unfold di;simp only [List.getD_cons_zero];rw [Bool.eq_iff_iff];simp;omega
 rw [e1];clear e1;generalize max a (-a)=U at *
 have hg2:∀ o:Obj,(w.alloc o).cell? ⟨g,0,none⟩=some (.int .i64 l):=fun o=>Lib.cell?_alloc_some o hg
 go_enter Try.func39,Try.ntmps39;go_wp2_with fail;go_quiet ((go_at_call 23;exact Calls.quiet_of_same (fu (C.out _))));go_wp2;go_ret;exact ⟨rfl,below_drewN ((Below.refl _ _).alloc (Nat.le_refl _) _) _⟩
theorem UC (a:Option Addr) (cap:Nat) (L:Cs) (w:World) (hL:SlI 2 w a L) (hn:L.length<=100) :
 Calls Try.prog 55 #[.slice a L.length cap,.func (.func 37) #[] #[]] w fun e w'=>(∃ r:Int,e=.returned (.int .i64 r)/\-1<=r/\(0<=r↔L.all dJ=false))/\Below w.heap.size w w':=by
 have HL:=Lib.hid hL;clear hL;obtain ⟨A,hA⟩:∃ A,L.all dJ=A:=⟨_,rfl⟩;rw [hA];have HAA:=Lib.hid hA;clear hA
 skip
 go_enter Try.func55,Try.ntmps55;go_wp2;go_loopw [8] (fun v wr=>∃ i:Nat,v=.int .i64 (i:Int)/\i<=L.length/\(∀ j (h:j<L.length),j<i->dJ L[j]=true)/\Below w.heap.size w wr) (fun v _=>((L.length:Int)-intOf v).toNat)
 case atStart =>
  exact ⟨0,rfl,by omega,fun j h hj=>by omega,Below.refl _ _⟩
 case round =>
  obtain ⟨i,rfl,hi,hs,hb⟩:=hrel;have HB:=Lib.hid hb;clear hb
  by_cases hl:i<L.length
  . have hLw:=HL.out.below HB.out;rcases hLw with h0|⟨b,off,rfl,hR⟩
    . rw [h0] at hl;simp at hl
    . obtain ⟨x,y,hx,c0,c1⟩:=hR.at2 i hl;have hS:=Lib.hid hs;clear hs;have C:=Lib.hid (fun w=>YY x y w)
      have hl':(i:Int)<(L.length:Int):=by omega
      have FIN:Hid (dJ L[i]=true->∀ j (h:j<L.length),j<i+1->dJ L[j]=true):=by
       intro h j hj hji
       by_cases e:j<i
       . exact hS.out j hj e
       . obtain rfl:j=i:=by omega
         exact h
      have FIN2:Hid (dJ L[i]=false->A=false):=by
       intro h;rw [<-HAA.out];cases hA:L.all dJ
       . rfl
       . rw [List.all_eq_true] at hA;have:=hA _ (List.getElem_mem hl);rw [h] at this;cases this
      rw [hx] at FIN FIN2;cases hsm:dJ [x,y]
      . rw [hsm] at C FIN2;go_wp2_with fail;refine (C.out _).mono ?_;rintro e w1 ⟨rfl,hb1⟩;have HB1:Hid (Below w.heap.size w w1):=HB.out.trans (hb1.mono HB.out.size);clear hb1 c0 c1 hR HL HB C FIN hS;go_wp2;go_ret;exact ⟨⟨_,rfl,by omega,⟨fun _=>FIN2.out trivial,fun _=>by omega⟩⟩,HB1.out⟩
      . rw [hsm] at C FIN;go_wp2_with fail;refine (C.out _).mono ?_;rintro e w1 ⟨rfl,hb1⟩;have HB1:Hid (Below w.heap.size w w1):=HB.out.trans (hb1.mono HB.out.size);clear hb1 c0 c1 hR HL HB C FIN2 hS;go_wp2;go_light;exact ⟨⟨i+1,by rw [show ((i+1:Nat):Int)=(i:Int)+1 by omega],by omega,FIN.out trivial,HB1.out⟩,by simp only [intOf];omega⟩
  . have hl':¬ (i:Int)<(L.length:Int):=by omega
    have hA:L.all dJ=true:=by
     rw [List.all_eq_true];intro x hx;obtain ⟨j,hj,rfl⟩:=List.getElem_of_mem hx;exact hs j hj (by omega)
    have HA:=Lib.hid (show A=true from by rw [<-HAA.out];exact hA)
    clear hs hl hi hA;go_wp2;go_ret;exact ⟨⟨_,rfl,by omega,⟨fun h=>by omega,fun h=>by rw [HA.out] at h;cases h⟩⟩,HB.out⟩
theorem Xi (a:Option Addr) (cap:Nat) (L:Cs) (w:World) (hL:SlI 2 w a L) (hn:L.length<=100) :
 Calls Try.prog 36 #[.slice a L.length cap,.func (.func 37) #[] #[]] w fun e w'=>e=.returned (.bool (!L.all dJ))/\Below w.heap.size w w':=by
 have C:=Lib.hid (UC a cap L w hL hn );clear hL;go_enter Try.func36,Try.ntmps36;go_wp2_with fail;refine C.out.mono ?_;rintro e w1 ⟨⟨r,rfl,hr0,hr⟩,hb⟩;have HB:=Lib.hid hb;clear hb
 have HR:Hid ((!L.all dJ)=decide (0<=r)):=by
  cases hA:L.all dJ
  . rw [decide_eq_true (hr.2 hA)];rfl
  . rw [decide_eq_false (fun h=>by have:=hr.1 h;rw [hA] at this;cases this)];rfl
 clear hr C;go_wp2;go_ret;exact ⟨by rw [HR.out];rfl,HB.out⟩
theorem VB (a:Option Addr) (cap:Nat) (L:Cs) (l:Int) (g:Nat) (w:World) (hL:SlI 2 w a L) (hn:L.length<=100) (hg:w.cell? ⟨g,0,none⟩=some (.int .i64 l)) (hgl:g<w.heap.size) (hl:1<=l/\l<5400000) (hp:L.all dJ=true):
 Calls Try.prog 55 #[.slice a L.length cap,.func (.func 39) #[] #[.pointer (some ⟨g,0,none⟩)]] w fun e w'=>(∃ r:Int,e=.returned (.int .i64 r)/\-1<=r/\(0<=r↔L.all (di l)=false))/\Below w.heap.size w w':=by
 have HL:=Lib.hid hL;clear hL;obtain ⟨A,hA⟩:∃ A,L.all (di l)=A:=⟨_,rfl⟩;rw [hA];have HAA:=Lib.hid hA;clear hA;have HG:=Lib.hid hg;have HLim:=Lib.hid hl;have HP:=Lib.hid hp;clear hg hl hp;go_enter Try.func55,Try.ntmps55;go_wp2;go_loopw [8] (fun v wr=>∃ i:Nat,v=.int .i64 (i:Int)/\i<=L.length/\(∀ j (h:j<L.length),j<i->(di l) L[j]=true)/\Below w.heap.size w wr) (fun v _=>((L.length:Int)-intOf v).toNat)
 case atStart =>
  exact ⟨0,rfl,by omega,fun j h hj=>by omega,Below.refl _ _⟩
 case round =>
  obtain ⟨i,rfl,hi,hs,hb⟩:=hrel;have HB:=Lib.hid hb;clear hb
  by_cases hl:i<L.length
  . have hLw:=HL.out.below HB.out;rcases hLw with h0|⟨b,off,rfl,hR⟩
    . rw [h0] at hl;simp at hl
    . obtain ⟨x,y,hx,c0,c1⟩:=hR.at2 i hl;have hS:=Lib.hid hs;clear hs
      have hxy:-5400000<=x/\x<=5400000:=by
       have:=List.all_eq_true.1 HP.out _ (List.getElem_mem hl);rw [hx] at this;unfold dJ PtV at this;simp only [List.getD_cons_zero,decide_eq_true_eq] at this;exact this.1
      have C:=Lib.hid (fun w hg=>Zk x y l g w hg hxy HLim.out)
      have hgr:=(HB.out.cell (p:=⟨g,0,none⟩) hgl).trans HG.out;have hl':(i:Int)<(L.length:Int):=by omega
      have FIN:Hid ((di l) L[i]=true->∀ j (h:j<L.length),j<i+1->(di l) L[j]=true):=by
       intro h j hj hji
       by_cases e:j<i
       . exact hS.out j hj e
       . obtain rfl:j=i:=by omega
         exact h
      have FIN2:Hid ((di l) L[i]=false->A=false):=by
       intro h;rw [<-HAA.out];cases hA:L.all (di l)
       . rfl
       . rw [List.all_eq_true] at hA;have:=hA _ (List.getElem_mem hl);rw [h] at this;cases this
      rw [hx] at FIN FIN2;cases hsm:(di l) [x,y]
      . rw [hsm] at C FIN2;go_wp2_with fail;refine (C.out _ hgr).mono ?_;rintro e w1 ⟨rfl,hb1⟩;have HB1:Hid (Below w.heap.size w w1):=HB.out.trans (hb1.mono HB.out.size);clear hb1 c0 c1 hR HL HB C FIN hS;go_wp2;go_ret;exact ⟨⟨_,rfl,by omega,⟨fun _=>FIN2.out trivial,fun _=>by omega⟩⟩,HB1.out⟩
      . rw [hsm] at C FIN;go_wp2_with fail;refine (C.out _ hgr).mono ?_;rintro e w1 ⟨rfl,hb1⟩;have HB1:Hid (Below w.heap.size w w1):=HB.out.trans (hb1.mono HB.out.size);clear hb1 c0 c1 hR HL HB C FIN2 hS;go_wp2;go_light;exact ⟨⟨i+1,by rw [show ((i+1:Nat):Int)=(i:Int)+1 by omega],by omega,FIN.out trivial,HB1.out⟩,by simp only [intOf];omega⟩
  . have hl':¬ (i:Int)<(L.length:Int):=by omega
    have hA:L.all (di l)=true:=by
     rw [List.all_eq_true];intro x hx;obtain ⟨j,hj,rfl⟩:=List.getElem_of_mem hx;exact hs j hj (by omega)
    have HA:=Lib.hid (show A=true from by rw [<-HAA.out];exact hA)
    clear hs hl hi hA;go_wp2;go_ret;exact ⟨⟨_,rfl,by omega,⟨fun h=>by omega,fun h=>by rw [HA.out] at h;cases h⟩⟩,HB.out⟩
theorem Kw (a:Option Addr) (cap:Nat) (L:Cs) (l:Int) (g:Nat) (w:World) (hL:SlI 2 w a L) (hn:L.length<=100) (hg:w.cell? ⟨g,0,none⟩=some (.int .i64 l)) (hgl:g<w.heap.size) (hl:1<=l/\l<5400000) (hp:L.all dJ=true):
 Calls Try.prog 36 #[.slice a L.length cap,.func (.func 39) #[] #[.pointer (some ⟨g,0,none⟩)]] w fun e w'=>e=.returned (.bool (!L.all (di l)))/\Below w.heap.size w w':=by
 have C:=Lib.hid (VB a cap L l g w hL hn hg hgl hl hp);clear hL;go_enter Try.func36,Try.ntmps36;go_wp2_with fail;refine C.out.mono ?_;rintro e w1 ⟨⟨r,rfl,hr0,hr⟩,hb⟩;have HB:=Lib.hid hb;clear hb
 have HR:Hid ((!L.all (di l))=decide (0<=r)):=by
  cases hA:L.all (di l)
  . rw [decide_eq_true (hr.2 hA)];rfl
  . rw [decide_eq_false (fun h=>by have:=hr.1 h;rw [hA] at this;cases this)];rfl
 clear hr C;go_wp2;go_ret;exact ⟨by rw [HR.out];rfl,HB.out⟩
