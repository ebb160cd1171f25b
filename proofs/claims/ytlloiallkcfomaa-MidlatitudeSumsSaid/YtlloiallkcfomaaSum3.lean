/- The contract of Traverse. -/
import Derived.Test.YtlloiallkcfomaaSum2
set_option linter.unusedVariables false
set_option linter.unusedSimpArgs false
namespace Go.Proofs.Ytlloiallkcfomaa
open Go.RowKit Alm
theorem sumOf_take (f : Leg4 → Int) (L : List Leg4) (i : Nat) (hi : i < L.length) : sumOf f (L.take (i + 1)) = sumOf f (L.take i) + f L[i] := by
  rw [List.take_succ_eq_append_getElem hi, sumOf_append, sumOf_cons, sumOf_nil]; omega
theorem trav_step (L : List Leg4) (h : ∀ l ∈ L, l.ok = true ∧ l.dh ≤ 1073741824) (hn : L.length ≤ 60) (i : Nat) (hi : i < L.length) :
    arcV (sumOf Leg4.xl (L.take i)) (sumOf Leg4.xh (L.take i)) = true ∧ arcV (sumOf Leg4.yl (L.take i)) (sumOf Leg4.yh (L.take i)) = true ∧
    arcV L[i].xl L[i].xh = true ∧ arcV L[i].yl L[i].yh = true ∧
    factB (sumOf Leg4.xl (L.take i) + L[i].xl) = true ∧ factB (sumOf Leg4.xh (L.take i) + L[i].xh) = true ∧
    factB (sumOf Leg4.yl (L.take i) + L[i].yl) = true ∧ factB (sumOf Leg4.yh (L.take i) + L[i].yh) = true := by
  have a := sumOf_bd (L.take i) (fun l hl => h l (List.mem_of_mem_take hl))
  have hl : (L.take i).length ≤ 60 := by rw [List.length_take]; omega
  have k := h L[i] (List.getElem_mem hi)
  have b := leg_bd L[i] k.1
  simp only [arcV_iff]
  unfold factB
  simp only [decide_eq_true_eq]
  omega
set_option maxRecDepth 100000 in
set_option maxHeartbeats 4000000 in
theorem c_trav_ok (a : Option Addr) (cap : Nat) (L : List Leg4) (w : World) (hL : Legs w a L) (hn : L.length ≤ 60) (hok : ∀ l ∈ L, l.ok = true ∧ l.dh ≤ 1073741824) :
    Calls Try.prog 20 #[.slice a L.length cap] w fun e w' => e = .returned (.tuple #[.agg #[.int .i64 (sumOf Leg4.xl L), .int .i64 (sumOf Leg4.xh L)], .agg #[.int .i64 (sumOf Leg4.yl L), .int .i64 (sumOf Leg4.yh L)], .int .i64 0]) ∧ Below w.heap.size w w' := by
  have HL := Lib.hid hL; have HOK := Lib.hid hok; clear hL hok
  have K0 := Lib.hid (((ks_start w).new w.heap.size rfl /-T-/ 37 #[.int .i64 0, .int .i64 0]).new (w.heap.size + 1) (by simp) /-T-/ 37 #[.int .i64 0, .int .i64 0])
  go_enter Try.func20, Try.ntmps20
  go_wp2
  go_loopw [15] (fun v wr => ∃ i : Nat, v = .int .i64 (i : Int) ∧ i ≤ L.length ∧ KS w wr [(w.heap.size + 1, /-T-/ 37, #[.int .i64 0, .int .i64 0]), (w.heap.size, /-T-/ 37, #[.int .i64 0, .int .i64 0])]) (fun v _ => ((L.length : Int) - intOf v).toNat)
  case atStart =>
    exact ⟨0, rfl, by omega, K0.out⟩
  case round =>
    obtain ⟨i, rfl, hi, hK⟩ := hrel
    have K1 := Lib.hid hK; clear hK K0
    by_cases hl : i < L.length
    · have hLw := HL.out.below K1.out.1
      rcases hLw with h0 | ⟨b, off, rfl, hR⟩
      · rw [h0] at hl; simp at hl
      · obtain ⟨c0, c1, c2, c3⟩ := hR.2 i hl
        have C := fun w => c_mvalid L[i].cl L[i].ch L[i].dl L[i].dh w
        rw [show legB L[i].cl L[i].ch L[i].dl L[i].dh = true from (HOK.out _ (List.getElem_mem hl)).1] at C
        replace C := Lib.hid C
        have hl' : (i : Int) < (L.length : Int) := by omega
        go_wp2_with fail
        refine (C.out _).mono ?_
        rintro e w1 ⟨rfl, hb1⟩
        have K2 := Lib.hid ((K1.out.alloc _).below hb1)
        clear hb1 c0 c1 c2 c3 hR HL C K1 HOK
        go_wp2
        go_light
        exact ⟨⟨i + 1, by rw [show ((i + 1 : Nat) : Int) = (i : Int) + 1 by omega], by omega, K2.out⟩, by simp only [intOf]; omega⟩
    · have hl' : ¬ (i : Int) < (L.length : Int) := by omega
      clear hi
      go_wp2
      go_loopw [32] (fun v wr => ∃ i : Nat, v = .int .i64 (i : Int) ∧ i ≤ L.length ∧ KS w wr [(w.heap.size + 1, /-T-/ 37, #[.int .i64 (sumOf Leg4.yl (L.take i)), .int .i64 (sumOf Leg4.yh (L.take i))]), (w.heap.size, /-T-/ 37, #[.int .i64 (sumOf Leg4.xl (L.take i)), .int .i64 (sumOf Leg4.xh (L.take i))])]) (fun v _ => ((L.length : Int) - intOf v).toNat)
      case atStart =>
        exact ⟨0, rfl, by omega, K1.out⟩
      case round =>
        obtain ⟨i, rfl, hi, hK⟩ := hrel
        have K2 := Lib.hid hK; clear hK K1
        by_cases hl : i < L.length
        · have hLw := HL.out.below K2.out.1
          rcases hLw with h0 | ⟨b, off, rfl, hR⟩
          · rw [h0] at hl; simp at hl
          · obtain ⟨c0, c1, c2, c3⟩ := hR.2 i hl
            obtain ⟨s1, s2, s3, s4, s5, s6, s7, s8⟩ := trav_step L HOK.out hn i hl
            have C1 := Lib.hid (fun w => c_Plane L[i].cl L[i].ch L[i].dl L[i].dh w (HOK.out _ (List.getElem_mem hl)).1 s3 s4)
            have C2 := fun w => c_aAdd _ _ _ _ w s1 s3 s5 s6
            have C3 := fun w => c_aAdd _ _ _ _ w s2 s4 s7 s8
            replace C2 := Lib.hid C2; replace C3 := Lib.hid C3
            have T1 := Lib.hid (sumOf_take Leg4.xl L i hl); have T2 := Lib.hid (sumOf_take Leg4.xh L i hl)
            have T3 := Lib.hid (sumOf_take Leg4.yl L i hl); have T4 := Lib.hid (sumOf_take Leg4.yh L i hl)
            change Hid (∀ w : World, Calls Try.prog 55 #[.agg #[.int .i64 L[i].cl, .int .i64 L[i].ch, .int .i64 L[i].dl, .int .i64 L[i].dh]] w fun e w' => e = .returned (.tuple #[.agg #[.int .i64 L[i].xl, .int .i64 L[i].xh], .agg #[.int .i64 L[i].yl, .int .i64 L[i].yh], .int .i64 0]) ∧ Below w.heap.size w w') at C1
            have hl' : (i : Int) < (L.length : Int) := by omega
            clear s1 s2 s3 s4 s5 s6 s7 s8 hR HL HOK
            generalize L[i].xl = d1 at *
            generalize L[i].xh = d2 at *
            generalize L[i].yl = d3 at *
            generalize L[i].yh = d4 at *
            generalize L[i].cl = p1 at *
            generalize L[i].ch = p2 at *
            generalize L[i].dl = p3 at *
            generalize L[i].dh = p4 at *
            generalize sumOf Leg4.xl (L.take i) = x1 at *
            generalize sumOf Leg4.xh (L.take i) = x2 at *
            generalize sumOf Leg4.yl (L.take i) = x3 at *
            generalize sumOf Leg4.yh (L.take i) = x4 at *
            go_wp2_with fail
            refine (C1.out _).mono ?_
            rintro e w1 ⟨rfl, hb1⟩
            have S1 : Hid (w.heap.size + 1 < w1.heap.size) := ((K2.out.alloc _).below hb1).lt (g := w.heap.size + 1) (t := /-T-/ 37) (cs := #[.int .i64 x3, .int .i64 x4]) (by simp)
            have K3 := Lib.hid ((((K2.out.alloc _).below hb1).new w1.heap.size rfl /-T-/ 37 #[.int .i64 d1, .int .i64 d2]).new (w1.heap.size + 1) (by simp) /-T-/ 37 #[.int .i64 d3, .int .i64 d4])
            clear hb1 c0 c1 c2 c3 K2 C1
            have a0 := K3.out.c (g := w.heap.size) (t := /-T-/ 37) (cs := #[.int .i64 x1, .int .i64 x2]) (by simp) (i := 0) rfl
            have a1 := K3.out.c (g := w.heap.size) (t := /-T-/ 37) (cs := #[.int .i64 x1, .int .i64 x2]) (by simp) (i := 1) rfl
            have f0 := K3.out.f (g := w.heap.size) (t := /-T-/ 37) (cs := #[.int .i64 x1, .int .i64 x2]) (by simp) 0
            have f1 := K3.out.f (g := w.heap.size) (t := /-T-/ 37) (cs := #[.int .i64 x1, .int .i64 x2]) (by simp) 1
            go_wp2_with fail
            refine (C2.out _).mono ?_
            rintro e w2 ⟨rfl, hb2⟩
            have K4 := Lib.hid (K3.out.below hb2)
            clear hb2 a0 a1 f0 f1 K3 C2
            have K5 : Hid (KS w ((w2.setCell ⟨w.heap.size, 0, none⟩ (.int .i64 (x1 + d1))).setCell ⟨w.heap.size, 1, none⟩ (.int .i64 (x2 + d2))) [(w.heap.size, /-T-/ 37, #[.int .i64 (x1 + d1), .int .i64 (x2 + d2)]), (w.heap.size + 1, /-T-/ 37, #[.int .i64 x3, .int .i64 x4]), (w1.heap.size + 1, /-T-/ 37, #[.int .i64 d3, .int .i64 d4])]) := by
              have h := K4.out.sub (l' := [(w.heap.size, /-T-/ 37, #[.int .i64 x1, .int .i64 x2]), (w.heap.size + 1, /-T-/ 37, #[.int .i64 x3, .int .i64 x4]), (w1.heap.size + 1, /-T-/ 37, #[.int .i64 d3, .int .i64 d4])]) (by intro p hp; simp at hp ⊢; rcases hp with rfl | rfl | rfl <;> simp)
              have S := S1.out
              exact (h.set (Nat.le_refl _) (by intro p hp; simp at hp; rcases hp with rfl | rfl <;> simp <;> omega) 0 (.int .i64 (x1 + d1))).set (Nat.le_refl _) (by intro p hp; simp at hp; rcases hp with rfl | rfl <;> simp <;> omega) 1 (.int .i64 (x2 + d2))
            have a0 := K4.out.c (g := w.heap.size) (t := /-T-/ 37) (cs := #[.int .i64 x1, .int .i64 x2]) (by simp) (i := 0) rfl
            have a1 := K4.out.c (g := w.heap.size) (t := /-T-/ 37) (cs := #[.int .i64 x1, .int .i64 x2]) (by simp) (i := 1) rfl
            have fa0 := K4.out.f (g := w.heap.size) (t := /-T-/ 37) (cs := #[.int .i64 x1, .int .i64 x2]) (by simp) 0
            have fa1 := K4.out.f (g := w.heap.size) (t := /-T-/ 37) (cs := #[.int .i64 x1, .int .i64 x2]) (by simp) 1
            have b0 := K5.out.c (g := w.heap.size + 1) (t := /-T-/ 37) (cs := #[.int .i64 x3, .int .i64 x4]) (by simp) (i := 0) rfl
            have b1 := K5.out.c (g := w.heap.size + 1) (t := /-T-/ 37) (cs := #[.int .i64 x3, .int .i64 x4]) (by simp) (i := 1) rfl
            have c0 := K5.out.c (g := w1.heap.size + 1) (t := /-T-/ 37) (cs := #[.int .i64 d3, .int .i64 d4]) (by simp) (i := 0) rfl
            have c1 := K5.out.c (g := w1.heap.size + 1) (t := /-T-/ 37) (cs := #[.int .i64 d3, .int .i64 d4]) (by simp) (i := 1) rfl
            go_wp2_with fail
            refine (C3.out _).mono ?_
            rintro e w3 ⟨rfl, hb3⟩
            have K6 := Lib.hid (K5.out.below hb3)
            clear hb3 a0 a1 fa0 fa1 b0 b1 c0 c1 K4 K5 C3
            have K7 : Hid (KS w ((w3.setCell ⟨w.heap.size + 1, 0, none⟩ (.int .i64 (x3 + d3))).setCell ⟨w.heap.size + 1, 1, none⟩ (.int .i64 (x4 + d4))) [(w.heap.size + 1, /-T-/ 37, #[.int .i64 (x3 + d3), .int .i64 (x4 + d4)]), (w.heap.size, /-T-/ 37, #[.int .i64 (x1 + d1), .int .i64 (x2 + d2)])]) := by
              have h := K6.out.sub (l' := [(w.heap.size + 1, /-T-/ 37, #[.int .i64 x3, .int .i64 x4]), (w.heap.size, /-T-/ 37, #[.int .i64 (x1 + d1), .int .i64 (x2 + d2)])]) (by intro p hp; simp at hp ⊢; rcases hp with rfl | rfl <;> simp)
              exact (h.set (by omega) (by intro p hp; simp at hp; subst hp; simp) 0 (.int .i64 (x3 + d3))).set (by omega) (by intro p hp; simp at hp; subst hp; simp) 1 (.int .i64 (x4 + d4))
            have b0 := K6.out.c (g := w.heap.size + 1) (t := /-T-/ 37) (cs := #[.int .i64 x3, .int .i64 x4]) (by simp) (i := 0) rfl
            have b1 := K6.out.c (g := w.heap.size + 1) (t := /-T-/ 37) (cs := #[.int .i64 x3, .int .i64 x4]) (by simp) (i := 1) rfl
            have fb0 := K6.out.f (g := w.heap.size + 1) (t := /-T-/ 37) (cs := #[.int .i64 x3, .int .i64 x4]) (by simp) 0
            have fb1 := K6.out.f (g := w.heap.size + 1) (t := /-T-/ 37) (cs := #[.int .i64 x3, .int .i64 x4]) (by simp) 1
            go_wp2
            go_light
            exact ⟨⟨i + 1, by rw [show ((i + 1 : Nat) : Int) = (i : Int) + 1 by omega], by omega, by rw [T1.out, T2.out, T3.out, T4.out]; exact K7.out⟩, by simp only [intOf]; omega⟩
        · have hl' : ¬ (i : Int) < (L.length : Int) := by omega
          have hi' : i = L.length := by omega
          have e1 : L.take i = L := by rw [hi']; exact List.take_length ..
          rw [e1] at K2
          generalize G1 : sumOf Leg4.xl L = x1 at K2
          replace G1 := Lib.hid G1
          generalize G2 : sumOf Leg4.xh L = x2 at K2
          replace G2 := Lib.hid G2
          generalize G3 : sumOf Leg4.yl L = x3 at K2
          replace G3 := Lib.hid G3
          generalize G4 : sumOf Leg4.yh L = x4 at K2
          replace G4 := Lib.hid G4
          clear e1 hi' hi
          have a0 := K2.out.c (g := w.heap.size) (t := /-T-/ 37) (cs := #[.int .i64 x1, .int .i64 x2]) (by simp) (i := 0) rfl
          have a1 := K2.out.c (g := w.heap.size) (t := /-T-/ 37) (cs := #[.int .i64 x1, .int .i64 x2]) (by simp) (i := 1) rfl
          have fa0 := K2.out.f (g := w.heap.size) (t := /-T-/ 37) (cs := #[.int .i64 x1, .int .i64 x2]) (by simp) 0
          have fa1 := K2.out.f (g := w.heap.size) (t := /-T-/ 37) (cs := #[.int .i64 x1, .int .i64 x2]) (by simp) 1
          have b0 := K2.out.c (g := w.heap.size + 1) (t := /-T-/ 37) (cs := #[.int .i64 x3, .int .i64 x4]) (by simp) (i := 0) rfl
          have b1 := K2.out.c (g := w.heap.size + 1) (t := /-T-/ 37) (cs := #[.int .i64 x3, .int .i64 x4]) (by simp) (i := 1) rfl
          have fb0 := K2.out.f (g := w.heap.size + 1) (t := /-T-/ 37) (cs := #[.int .i64 x3, .int .i64 x4]) (by simp) 0
          have fb1 := K2.out.f (g := w.heap.size + 1) (t := /-T-/ 37) (cs := #[.int .i64 x3, .int .i64 x4]) (by simp) 1
          have hg := K2.out.1
          clear HL HOK
          go_wp2
          go_region
          all_goals
            go_wp2
            refine bodyPost_ret (by simp [results, Try.results20, go_sem, a0, a1, b0, b1, G1.out, G2.out, G3.out, G4.out]; try rfl) rfl ⟨rfl, by go_light; go_grown⟩
end Go.Proofs.Ytlloiallkcfomaa
