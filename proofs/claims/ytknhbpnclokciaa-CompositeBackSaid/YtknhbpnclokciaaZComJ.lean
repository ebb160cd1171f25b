/- The contract of composite.Plan. -/
import Derived.Test.YtknhbpnclokciaaZComC
import Derived.Test.YtknhbpnclokciaaZComN
import Derived.Test.YtknhbpnclokciaaZComW
import Derived.Test.YtknhbpnclokciaaZComW2
import Derived.Test.YtknhbpnclokciaaZComW3
set_option linter.unusedVariables false
set_option linter.unusedSimpArgs false
set_option maxRecDepth 100000
namespace Go.Proofs.Ytknhbpnclokciaa
open Go.RowKit Alm Sx
theorem U5 (n:Int) (w:World) (h:I64 n) :
 Calls Try.prog 27 #[.int .i64 n] w fun e w'=>e=.returned (.int .i64 (n%21600000))/\w=w':=by
 obtain ⟨h1,h2⟩:=h
 have k:n.tmod 21600000<0->wrap64 (n.tmod 21600000+21600000)=n%21600000:=by
  intro h;unfold wrap64;rw [Int.tmod_eq_emod] at *;split at h<;>split<;>omega
 have k2:0<=n.tmod 21600000->n.tmod 21600000=n%21600000:=by
  intro h;rw [Int.tmod_eq_emod] at *;split at h<;>split<;>omega
 have K:=Lib.hid k;have K2:=Lib.hid k2;clear k k2;go_enter Try.func27,Try.ntmps27;go_wp2
 . go_ret;exact ⟨bN (K.out (by assumption)),rfl⟩
 . go_ret;exact ⟨bN (K2.out (by assumption)),rfl⟩
theorem aa7 (n:Int) (w:World) (h:I64 n) :
 Calls Try.prog 8 #[.int .i64 n] w fun e w'=>e=.returned (.int .i64 (sgd n))/\w=w':=by
 have C:=Lib.hid (fun w=>U5 n w h)
 have b:0<=n%21600000/\n%21600000<21600000:=by omega
 unfold sgd;clear h;generalize n%21600000=m at *
 by_cases g:m>=10800000
 . rw [if_pos g];go_enter Try.func8,Try.ntmps8;go_wp2_with fail;refine (C.out _).mono ?_;rintro e w1 ⟨rfl,rfl⟩;go_wp2;go_ret;exact ⟨rfl,rfl⟩
 . rw [if_neg g];go_enter Try.func8,Try.ntmps8;go_wp2_with fail;refine (C.out _).mono ?_;rintro e w1 ⟨rfl,rfl⟩;go_wp2;go_ret;exact ⟨rfl,rfl⟩
theorem Cr (a:Option Addr) (cap:Nat) (L:Cs) (l:Int) (w:World) (hL:SlI 2 w a L) (hn:L.length<=100) :
 Calls Try.prog 21 #[.int .i64 l,.slice a L.length cap] w fun e w'=>e=.returned (.int .i64 (bS l L))/\Below w.heap.size w w':=by
 have HL:=Lib.hid hL;clear hL;have K0:=Lib.hid ((av w).new w.heap.size rfl 3 #[.int .i64 l]);have C1:=Lib.hid (Xi a cap L (w.alloc (.cells #[.int .i64 l] 3)) (HL.out.alloc _) hn);cases hp:L.all dJ
 . have G:bS l L=1:=by unfold bS;rw [hp];rfl
   rw [G];rw [hp] at C1;clear hp G;go_enter Try.func21,Try.ntmps21;go_wp2_with fail;refine C1.out.mono ?_;rintro e w1 ⟨rfl,hb⟩;have K1:=Lib.hid (K0.out.below hb);clear hb K0 C1;go_wp2;go_ret;exact ⟨rfl,K1.out.1⟩
 . rw [hp] at C1;have HP:=Lib.hid hp
   by_cases h1:l<1
   . have G:bS l L=2:=by unfold bS;rw [if_pos hp,if_neg (by omega)]
     rw [G];clear hp G;have d1:decide (l<1)=true:=decide_eq_true h1;go_enter Try.func21,Try.ntmps21;go_wp2_with fail;refine C1.out.mono ?_;rintro e w1 ⟨rfl,hb⟩;have K1:=Lib.hid (K0.out.below hb);clear hb K0 C1;have c0:=K1.out.c (g:=w.heap.size) (t:=3) (cs:=#[.int .i64 l]) (by simp) (i:=0) rfl
     go_wp2;go_ret;exact ⟨rfl,K1.out.1⟩
   . have d1:decide (l<1)=false:=decide_eq_false h1
     by_cases h2:l>=5400000
     . have G:bS l L=2:=by unfold bS;rw [if_pos hp,if_neg (by omega)]
       rw [G];clear hp G;have d2:decide (l>=5400000)=true:=decide_eq_true h2;go_enter Try.func21,Try.ntmps21;go_wp2_with fail;refine C1.out.mono ?_;rintro e w1 ⟨rfl,hb⟩;have K1:=Lib.hid (K0.out.below hb);clear hb K0 C1;have c0:=K1.out.c (g:=w.heap.size) (t:=3) (cs:=#[.int .i64 l]) (by simp) (i:=0) rfl
       go_wp2;go_ret;exact ⟨rfl,K1.out.1⟩
     . have d2:decide (l>=5400000)=false:=decide_eq_false h2;have hl3:1<=l/\l<5400000:=by omega
       cases hq:L.all (di l)
       . have G:bS l L=2:=by
          unfold bS;rw [if_pos hp,if_neg (by rintro ⟨_,_,h⟩;rw [hq] at h;cases h)]
         rw [G];clear hp G;have HQ:=Lib.hid hq;clear hq;go_enter Try.func21,Try.ntmps21;go_wp2_with fail;refine C1.out.mono ?_;rintro e w1 ⟨rfl,hb⟩;have K1:=Lib.hid (K0.out.below hb);have C2:=Kw a cap L l w.heap.size w1 ((HL.out.alloc _).below hb) hn (K1.out.c (g:=w.heap.size) (t:=3) (cs:=#[.int .i64 l]) (by simp) (i:=0) rfl) (K1.out.lt (g:=w.heap.size) (t:=3) (cs:=#[.int .i64 l]) (by simp)) hl3 HP.out
         rw [HQ.out] at C2;clear hb K0 C1 HL HQ;have c0:=K1.out.c (g:=w.heap.size) (t:=3) (cs:=#[.int .i64 l]) (by simp) (i:=0) rfl
         replace C2:=Lib.hid C2;go_wp2_with fail;refine C2.out.mono ?_;rintro e w2 ⟨rfl,hb⟩;have K2:=Lib.hid (K1.out.below hb);clear hb K1 C2 c0;go_wp2;go_ret;exact ⟨rfl,K2.out.1⟩
       . have G:bS l L=0:=by
          unfold bS;rw [if_pos hp,if_pos ⟨hl3.1,hl3.2,hq⟩]
         rw [G];clear hp G;have HQ:=Lib.hid hq;clear hq;go_enter Try.func21,Try.ntmps21;go_wp2_with fail;refine C1.out.mono ?_;rintro e w1 ⟨rfl,hb⟩;have K1:=Lib.hid (K0.out.below hb);have C2:=Kw a cap L l w.heap.size w1 ((HL.out.alloc _).below hb) hn (K1.out.c (g:=w.heap.size) (t:=3) (cs:=#[.int .i64 l]) (by simp) (i:=0) rfl) (K1.out.lt (g:=w.heap.size) (t:=3) (cs:=#[.int .i64 l]) (by simp)) hl3 HP.out
         rw [HQ.out] at C2;clear hb K0 C1 HL HQ;have c0:=K1.out.c (g:=w.heap.size) (t:=3) (cs:=#[.int .i64 l]) (by simp) (i:=0) rfl
         replace C2:=Lib.hid C2;go_wp2_with fail;refine C2.out.mono ?_;rintro e w2 ⟨rfl,hb⟩;have K2:=Lib.hid (K1.out.below hb);clear hb K1 C2 c0;go_wp2;go_ret;exact ⟨rfl,K2.out.1⟩
theorem kg (a b c d l:Int) (w:World) (h:bS l [[a,b],[c,d]]=0) :
 Calls Try.prog 7 #[.agg #[.int .i64 a,.int .i64 b],.agg #[.int .i64 c,.int .i64 d],.int .i64 l] w fun e w'=>(∃ v,e=.returned (.tuple #[v,.int .i64 0])/\bJ 2 23 w.heap.size w' v (aF a b c d l))/\Below w.heap.size w w':=by
 obtain ⟨h1,h2,h3,h4⟩:=kS h;simp only [List.all_cons,List.all_nil,Bool.and_true,Bool.and_eq_true] at h1 h4;unfold dJ PtV at h1;unfold di at h4;simp only [List.getD_cons_zero,List.getD_cons_succ,decide_eq_true_eq] at h1 h4
 have CK:Hid (∀ (g cap:Nat) (w:World),gJ 2 w g 0 [[a,b],[c,d]]->Calls Try.prog 21 #[.int .i64 l,.slice (some ⟨g,0,none⟩) 2 cap] w fun e w'=>e=.returned (.int .i64 0)/\Below w.heap.size w w'):=Lib.hid (fun g cap w hR=>by
  have:=Cr (some ⟨g,0,none⟩) cap [[a,b],[c,d]] l w (.inr ⟨g,0,rfl,hR⟩) (by simp)
  rw [h] at this;exact this)
 have RX:=Lib.hid (fun w=>Fg a l w h2 h3 h4.1.1 h4.1.2)
 have RY:=Lib.hid (fun w=>Fg c l w h2 h3 h4.2.1 h4.2.2)
 have SG:Hid (∀ (n:Int) (w:World),-100000000<=n/\n<=100000000->Calls Try.prog 8 #[.int .i64 n] w fun e w'=>e=.returned (.int .i64 (sgd n))/\w=w'):=Lib.hid (fun n w hn=>aa7 n w (by unfold I64;omega))
 have SZ:Hid (∀ (n:Int) (w:World),-100000000<=n/\n<=100000000->Calls Try.prog 23 #[.int .i64 n] w fun e w'=>e=.returned (.int .i64 (max n (-n)))/\w=w'):=Lib.hid (fun n w hn=>Kn n w (by omega))
 have MD:=Lib.hid (fun u v w (hu:0<=u/\u<=10800000) (hv:0<=v/\v<=10800000)=>abT u v w hu hv)
 have TU:=Lib.hid (fun u v w (hu:0<=u/\u<=10800000) (hv:0<=v/\v<=10800000)=>abF u v w hu hv)
 have bx:=Bb a l;have by':=Bb c l
 unfold aF nY
 by_cases p1:gu a l+gu c l<max (sgd (d-b)) (-(sgd (d-b)))
 . rw [if_pos p1];refine aaj sgd a b c d l _ _ _ _ w CK RX RY SG SZ MD TU (by omega) (by omega) ⟨h2,h3⟩ (by omega) (by omega) (by omega) (by omega) jb p1 _ ?_
   unfold nW
   by_cases g:sgd (d-b)<0
   . rw [decide_eq_true g,if_pos g,if_pos g,if_pos rfl,if_pos rfl]
   . rw [decide_eq_false g,if_neg g,if_neg g,if_neg (by decide),if_neg (by decide)]
 . rw [if_neg p1];have HU:Hid (10800000-gu a l=10800000-gu a l/\10800000-gp a l=10800000-gp a l/\10800000-gu c l=10800000-gu c l/\10800000-gp c l=10800000-gp c l):=Lib.hid ⟨rfl,rfl,rfl,rfl⟩
   by_cases p2:(10800000-gp a l)+(10800000-gp c l)<max (sgd (d-b)) (-(sgd (d-b)))
   . rw [if_pos p2];refine aaV sgd a b c d l _ _ _ _ w CK RX RY SG SZ MD TU (by omega) (by omega) ⟨h2,h3⟩ (by omega) (by omega) (by omega) (by omega) jb _ _ _ _ HU (by omega) (by omega) (by omega) (by omega) p1 p2 _ ?_
     unfold nW
     by_cases g:sgd (d-b)<0
     . rw [decide_eq_true g,if_pos g,if_pos g,if_pos rfl,if_pos rfl]
     . rw [decide_eq_false g,if_neg g,if_neg g,if_neg (by decide),if_neg (by decide)]
   . rw [if_neg p2];exact Zm sgd a b c d l _ _ _ _ w CK RX RY SG SZ MD TU (by omega) (by omega) ⟨h2,h3⟩ (by omega) (by omega) (by omega) (by omega) jb _ _ _ _ HU (by omega) (by omega) (by omega) (by omega) p1 p2 _ rfl
