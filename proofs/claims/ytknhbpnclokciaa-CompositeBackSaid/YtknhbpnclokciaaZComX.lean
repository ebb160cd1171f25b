/- The example of the chapter on composite sailing. -/
import Derived.Test.YtknhbpnclokciaaZComJ
set_option linter.unusedVariables false
set_option linter.unusedSimpArgs false
set_option maxRecDepth 100000
set_option maxHeartbeats 4000000
namespace Go.Proofs.Ytknhbpnclokciaa
open Go.RowKit Alm Sx
theorem Sk:aF 1800000 0 1800000 7200000 3600000=[[1800000,0],[1800000,7200000]]:=by decide +kernel
theorem Rb:aF 1800000 0 1800000 7200000 2400000=[[1800000,0],[2400000,2791399],[2400000,4408601],[1800000,7200000]]:=by decide +kernel
theorem gF (w:World):Calls Try.prog 5 #[] w fun e w'=>e=.returned (.bool true)/\Below w.heap.size w w':=by
 have K0:=Lib.hid (((av w).new w.heap.size rfl 23 #[.int .i64 1800000,.int .i64 0]).new (w.heap.size+1) (by simp) 23 #[.int .i64 1800000,.int .i64 7200000])
 have C1:=Lib.hid (fun w=>kg 1800000 0 1800000 7200000 3600000 w (by decide +kernel))
 have C2:=Lib.hid (fun w=>kg 1800000 0 1800000 7200000 2400000 w (by decide +kernel))
 rw [Sk] at C1;rw [Rb] at C2;go_enter Try.func5,Try.ntmps5;go_wp2_with fail;refine (C1.out _).mono ?_;rintro e w1 ⟨⟨v,rfl,O⟩,hb⟩;obtain ⟨ad1,cap1,rfl,_,_,S1,_⟩:=O.out (by decide)
 have K1:=Lib.hid (K0.out.below hb);have HS:=Lib.hid S1;clear hb K0 O S1 C1;have a0:=K1.out.c (g:=w.heap.size) (t:=23) (cs:=#[.int .i64 1800000,.int .i64 0]) (by simp) (i:=0) rfl
 have a1:=K1.out.c (g:=w.heap.size) (t:=23) (cs:=#[.int .i64 1800000,.int .i64 0]) (by simp) (i:=1) rfl
 have b0:=K1.out.c (g:=w.heap.size+1) (t:=23) (cs:=#[.int .i64 1800000,.int .i64 7200000]) (by simp) (i:=0) rfl
 have b1:=K1.out.c (g:=w.heap.size+1) (t:=23) (cs:=#[.int .i64 1800000,.int .i64 7200000]) (by simp) (i:=1) rfl
 go_wp2_with fail;refine (C2.out _).mono ?_;rintro e w2 ⟨⟨v,rfl,O⟩,hb⟩;obtain ⟨ad2,cap2,rfl,_,_,S2,_⟩:=O.out (by decide)
 have K2:=Lib.hid (K1.out.below hb);have HS2:=Lib.hid (HS.out.below hb);rcases S2 with h|⟨g2,off2,rfl,R2⟩
 . cases h
 have HR:=Lib.hid R2;clear hb K1 HS O R2 a0 a1 b0 b1;have a0:=K2.out.c (g:=w.heap.size) (t:=23) (cs:=#[.int .i64 1800000,.int .i64 0]) (by simp) (i:=0) rfl
 have a1:=K2.out.c (g:=w.heap.size) (t:=23) (cs:=#[.int .i64 1800000,.int .i64 0]) (by simp) (i:=1) rfl
 have b0:=K2.out.c (g:=w.heap.size+1) (t:=23) (cs:=#[.int .i64 1800000,.int .i64 7200000]) (by simp) (i:=0) rfl
 have b1:=K2.out.c (g:=w.heap.size+1) (t:=23) (cs:=#[.int .i64 1800000,.int .i64 7200000]) (by simp) (i:=1) rfl
 have CE:Hid (∀ (cs:Array Value),cs.toList=cB [[1800000,0],[1800000,7200000]]->Calls Try.prog 10 #[.slice ad1 2 cap1,.slice (some ⟨w2.heap.size,0,none⟩) 2 2] (w2.alloc (.cells cs 23)) fun e w'=>e=.returned (.bool true)/\Below w2.heap.size w2 w'):=Lib.hid (fun cs hcs=>by
  have:=KX ad1 (some ⟨w2.heap.size,0,none⟩) cap1 2 [[1800000,0],[1800000,7200000]] [[1800000,0],[1800000,7200000]] (w2.alloc (.cells cs 23)) (HS2.out.alloc _) (.inr ⟨_,0,rfl,fE w2 _ [[1800000,0],[1800000,7200000]] cs hcs (by intro x hx;simp at hx;rcases hx with rfl|rfl<;>rfl) _ rfl⟩) (by simp) (by simp)
  refine this.mono ?_;rintro e w' ⟨rfl,hb⟩;refine ⟨by rw [decide_eq_true rfl],((Below.refl _ _).alloc (Nat.le_refl _) _).trans (hb.mono (cZ _ _))⟩)
 clear HS2;go_wp2_with fail;refine (CE.out _ rfl).mono ?_;rintro e w3 ⟨rfl,hb⟩;have HB:Hid (Below w.heap.size w w3):=Lib.hid (K2.out.1.trans (hb.mono K2.out.1.size));have R3:=HR.out.below hb HR.out.lt;have y0:w3.cell? ⟨g2,off2+2,none⟩=some (.int .i64 2400000):=R3.at' 1 (by simp) 0 (by simp)
 have y1:w3.cell? ⟨g2,off2+2+1,none⟩=some (.int .i64 2791399):=R3.at' 1 (by simp) 1 (by simp)
 have z0:w3.cell? ⟨g2,off2+4,none⟩=some (.int .i64 2400000):=R3.at' 2 (by simp) 0 (by simp)
 have z1:w3.cell? ⟨g2,off2+4+1,none⟩=some (.int .i64 4408601):=R3.at' 2 (by simp) 1 (by simp)
 clear hb R3 HR K2 CE a0 a1 b0 b1;go_wp2;go_ret;exact ⟨rfl,HB.out⟩
