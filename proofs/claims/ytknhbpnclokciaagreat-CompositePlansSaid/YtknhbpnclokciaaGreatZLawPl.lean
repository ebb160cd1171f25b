/- The law on the plans of composite sailing. -/
import Derived.Test.YtknhbpnclokciaaGreatZComO
import Derived.Test.YtknhbpnclokciaaGreatZComX
set_option linter.unusedVariables false
set_option linter.unusedSimpArgs false
set_option maxRecDepth 100000
set_option maxHeartbeats 8000000
namespace Go.Proofs.YtknhbpnclokciaaGreat
open Go.RowKit Alm Sx
theorem WZ (a b c d l:Int) (w:World):Calls Tryz.prog 3 #[.agg #[.int .i64 a,.int .i64 b],.agg #[.int .i64 c,.int .i64 d],.int .i64 l] w fun e w'=>e=.returned (.bool true)/\Below w.heap.size w w':=by
 have K0:=Lib.hid (((av w).new w.heap.size rfl 23 #[.int .i64 a,.int .i64 b]).new (w.heap.size+1) (by simp) 23 #[.int .i64 c,.int .i64 d])
 have CG:Hid (∀ (g cap:Nat) (w:World),gJ 2 w g 0 [[a,b],[c,d]]->Calls Tryz.prog 15 #[.slice (some ⟨g,0,none⟩) 2 cap,.int .i64 l] w fun e w'=>e=.returned (.int .i64 (bS l [[a,b],[c,d]]))/\Below w.heap.size w w'):=Lib.hid (fun g cap w hR=>lW (some ⟨g,0,none⟩) cap [[a,b],[c,d]] l w (.inr ⟨g,0,rfl,hR⟩) (by simp))
 by_cases hg:bS l [[a,b],[c,d]]=0
 . have CP:=Lib.hid (fun w=>kg a b c d l w hg)
   have CR:=Lib.hid (fun w=>Ki a b c d l w hg)
   have PL:=ky a b c d l;rw [hg] at CG;clear hg;generalize aF a b c d l=P at *
   go_enter Tryz.func3,Tryz.ntmps3;go_wp2_with fail;refine (gF _).mono ?_;rintro e w1 ⟨rfl,hb⟩;have K1:=Lib.hid (K0.out.below hb);clear hb K0;have a0:=K1.out.c (g:=w.heap.size) (t:=23) (cs:=#[.int .i64 a,.int .i64 b]) (by simp) (i:=0) rfl;have a1:=K1.out.c (g:=w.heap.size) (t:=23) (cs:=#[.int .i64 a,.int .i64 b]) (by simp) (i:=1) rfl;have c0:=K1.out.c (g:=w.heap.size+1) (t:=23) (cs:=#[.int .i64 c,.int .i64 d]) (by simp) (i:=0) rfl;have c1:=K1.out.c (g:=w.heap.size+1) (t:=23) (cs:=#[.int .i64 c,.int .i64 d]) (by simp) (i:=1) rfl
   go_wp2_with fail;refine (CP.out _).mono ?_;rintro e w2 ⟨⟨v,rfl,O⟩,hb⟩;obtain ⟨ad1,cap1,rfl,_,_,S1,_⟩:=O.out (by decide)
   have K2:=Lib.hid (K1.out.below hb);have H1:=Lib.hid S1;clear hb K1 a0 a1 c0 c1 O S1 CP;have a0:=K2.out.c (g:=w.heap.size) (t:=23) (cs:=#[.int .i64 a,.int .i64 b]) (by simp) (i:=0) rfl;have a1:=K2.out.c (g:=w.heap.size) (t:=23) (cs:=#[.int .i64 a,.int .i64 b]) (by simp) (i:=1) rfl;have c0:=K2.out.c (g:=w.heap.size+1) (t:=23) (cs:=#[.int .i64 c,.int .i64 d]) (by simp) (i:=0) rfl;have c1:=K2.out.c (g:=w.heap.size+1) (t:=23) (cs:=#[.int .i64 c,.int .i64 d]) (by simp) (i:=1) rfl
   go_wp2_with fail;refine (CG.out _ _ _ (fE _ _ [[a,b],[c,d]] _ rfl (by intro x hx;simp at hx;rcases hx with rfl|rfl<;>rfl) _ rfl)).mono ?_
   rintro e w3 ⟨rfl,hb⟩;have K3:=Lib.hid ((K2.out.alloc _).below hb);have H2:=Lib.hid ((H1.out.alloc _).below hb);clear hb K2 a0 a1 c0 c1 H1 CG;have a0:=K3.out.c (g:=w.heap.size) (t:=23) (cs:=#[.int .i64 a,.int .i64 b]) (by simp) (i:=0) rfl;have a1:=K3.out.c (g:=w.heap.size) (t:=23) (cs:=#[.int .i64 a,.int .i64 b]) (by simp) (i:=1) rfl;have c0:=K3.out.c (g:=w.heap.size+1) (t:=23) (cs:=#[.int .i64 c,.int .i64 d]) (by simp) (i:=0) rfl;have c1:=K3.out.c (g:=w.heap.size+1) (t:=23) (cs:=#[.int .i64 c,.int .i64 d]) (by simp) (i:=1) rfl
   go_wp2_with fail;refine (CR.out _).mono ?_;rintro e w4 ⟨⟨v,rfl,O⟩,hb⟩;obtain ⟨ad2,cap2,rfl,_,_,S2,_⟩:=O.out (by decide)
   have K4:=Lib.hid (K3.out.below hb);have H3:=Lib.hid (H2.out.below hb);have H4:=Lib.hid S2;clear hb K3 a0 a1 c0 c1 O S2 CR H2
   have CE:Hid (Calls Tryz.prog 16 #[.slice ad1 P.length cap1,.slice ad2 P.length cap2] w4 fun e w'=>e=.returned (.bool true)/\Below w4.heap.size w4 w'):=Lib.hid (by
    have:=KX ad1 ad2 cap1 cap2 P P w4 H3.out H4.out (by omega) (by omega)
    rw [decide_eq_true rfl] at this;exact this)
   go_wp2_with fail;refine CE.out.mono ?_;rintro e w5 ⟨rfl,hb⟩;have K5:=Lib.hid (K4.out.below hb);clear hb K4 CE;go_wp2;go_ret;exact ⟨rfl,K5.out.1⟩
 . have CP:=Lib.hid (fun w=>wW a b c d l w hg)
   generalize bS l [[a,b],[c,d]]=q at *
   go_enter Tryz.func3,Tryz.ntmps3;go_wp2_with fail;refine (gF _).mono ?_;rintro e w1 ⟨rfl,hb⟩;have K1:=Lib.hid (K0.out.below hb);clear hb K0;have a0:=K1.out.c (g:=w.heap.size) (t:=23) (cs:=#[.int .i64 a,.int .i64 b]) (by simp) (i:=0) rfl;have a1:=K1.out.c (g:=w.heap.size) (t:=23) (cs:=#[.int .i64 a,.int .i64 b]) (by simp) (i:=1) rfl;have c0:=K1.out.c (g:=w.heap.size+1) (t:=23) (cs:=#[.int .i64 c,.int .i64 d]) (by simp) (i:=0) rfl;have c1:=K1.out.c (g:=w.heap.size+1) (t:=23) (cs:=#[.int .i64 c,.int .i64 d]) (by simp) (i:=1) rfl
   go_wp2_with fail;refine (CP.out _).mono ?_;rintro e w2 ⟨rfl,hb⟩;have K2:=Lib.hid (K1.out.below hb);clear hb K1 a0 a1 c0 c1 CP;have a0:=K2.out.c (g:=w.heap.size) (t:=23) (cs:=#[.int .i64 a,.int .i64 b]) (by simp) (i:=0) rfl;have a1:=K2.out.c (g:=w.heap.size) (t:=23) (cs:=#[.int .i64 a,.int .i64 b]) (by simp) (i:=1) rfl;have c0:=K2.out.c (g:=w.heap.size+1) (t:=23) (cs:=#[.int .i64 c,.int .i64 d]) (by simp) (i:=0) rfl;have c1:=K2.out.c (g:=w.heap.size+1) (t:=23) (cs:=#[.int .i64 c,.int .i64 d]) (by simp) (i:=1) rfl
   go_wp2_with fail;refine (CG.out _ _ _ (fE _ _ [[a,b],[c,d]] _ rfl (by intro x hx;simp at hx;rcases hx with rfl|rfl<;>rfl) _ rfl)).mono ?_
   rintro e w3 ⟨rfl,hb⟩;have K3:=Lib.hid ((K2.out.alloc _).below hb);clear hb K2 a0 a1 c0 c1 CG;go_wp2
   all_goals
    go_ret;exact ⟨by first|rfl|(simp<;>omega),K3.out.1⟩
