/- The law of sums: the walk where all legs are valid and there is one at least. -/
import Derived.Test.YtlloiallkcfomaaSumL2
set_option linter.unusedVariables false
set_option linter.unusedSimpArgs false
namespace Go.Proofs.Ytlloiallkcfomaa
open Go.RowKit Alm
set_option maxRecDepth 100000 in
set_option maxHeartbeats 8000000 in
theorem sums_main (b off cap : Nat) (L : List Leg4) (cut : Int) (w : World) (hR : LegRow w b off L) (h0 : 0 < L.length) (hcap : L.length ≤ cap) (hcm : cap ≤ 9223372036854775807) (hn : L.length ≤ 20) (hs : L.all Leg4.small = true) (hok : L.all Leg4.ok = true) (hc0 : 0 ≤ cut) (hc1 : cut ≤ 255) :
    Calls Try.prog 4 #[.slice (some ⟨b, off, none⟩) L.length cap, .int .u8 cut] w fun e w' => e = .returned (.bool true) ∧ Below w.heap.size w w' := by
  have hall : ∀ l ∈ L, l.ok = true ∧ l.dh ≤ 1073741824 := by
    intro l hl
    have h1 := List.all_eq_true.1 hs l hl
    exact ⟨List.all_eq_true.1 hok l hl, by unfold Leg4.small at h1; simp at h1; omega⟩
  have hbnd := sumOf_bd L hall
  obtain ⟨k, hk, hkn⟩ := tmod_cut cut L.length hc0
  obtain ⟨o, c', hoc, SL⟩ := slice_lo b off cap k L.length hkn hcap
  have SH := slice_hi b off cap k L.length hkn hcap
  have HOC := Lib.hid hoc; clear hoc
  replace hbnd := Lib.hid hbnd
  obtain ⟨I0, Z0, hI0, hZ0, hI1, hI2, hZ1⟩ := leg_info
  have C0 := Lib.hid c_awake44
  have HR := Lib.hid hR; clear hR
  have HS := Lib.hid hs; have HOK := Lib.hid hok; have HALL := Lib.hid hall; clear hs hok hall
  have K0 := Lib.hid (ks_start w)
  have hn' : ¬ (20 : Int) < (L.length : Int) := by omega
  have hkn' : (k : Int) ≤ (L.length : Int) := by omega
  go_enter Try.func4, Try.ntmps4
  go_wp2_with fail
  refine (C0.out _).mono ?_
  rintro e w1 ⟨rfl, hb1⟩
  have K1 := Lib.hid (K0.out.below hb1); clear hb1 K0
  have C1 := Lib.hid (c_contains (some ⟨b, off, none⟩) cap L w1 (.inr ⟨b, off, rfl, HR.out.below K1.out.1 HR.out.1⟩) (by omega))
  rw [HS.out] at C1
  go_wp2_with fail
  refine C1.out.mono ?_
  rintro e w2 ⟨rfl, hb1⟩
  have K2 := Lib.hid (K1.out.below hb1); clear hb1 K1 C1
  have C2 := Lib.hid (c_trav_ok (some ⟨b, off, none⟩) cap L w2 (.inr ⟨b, off, rfl, HR.out.below K2.out.1 HR.out.1⟩) (by omega) HALL.out)
  go_wp2_with fail
  refine C2.out.mono ?_
  rintro e w3 ⟨rfl, hb1⟩
  have K3 := Lib.hid (((K2.out.below hb1).new w3.heap.size rfl /-T-/ 37 #[.int .i64 (sumOf Leg4.xl L), .int .i64 (sumOf Leg4.xh L)]).new (w3.heap.size + 1) (by simp) /-T-/ 37 #[.int .i64 (sumOf Leg4.yl L), .int .i64 (sumOf Leg4.yh L)]); clear hb1 K2 C2
  go_wp2_with fail
  generalize hw4 : ((w3.alloc (.cells #[.int .i64 (sumOf Leg4.xl L), .int .i64 (sumOf Leg4.xh L)] /-T-/ 37)).alloc (.cells #[.int .i64 (sumOf Leg4.yl L), .int .i64 (sumOf Leg4.yh L)] /-T-/ 37)) = w4 at *
  refine (c_clone b off cap L w4 (HR.out.below K3.out.1 HR.out.1) h0 (by omega)).mono ?_
  rintro e w5 ⟨g, c, rfl, ho, hb5⟩
  have HO := owns_legs ho h0
  obtain ⟨_, hg1, hg2, hrow, hfr⟩ := HO
  have C3 := Lib.hid (c_reverse w4.heap.size g c L w5 hg1 hrow hfr h0 (by omega))
  have HB5 := Lib.hid hb5
  clear ho hg1 hg2 hrow hfr hb5
  go_wp2_with fail
  refine C3.out.mono ?_
  rintro e w6 ⟨rfl, hrow6, _, hb6⟩
  have K6 := Lib.hid (K3.out.below (HB5.out.trans hb6))
  have C4 := Lib.hid (c_trav_ok (some ⟨g, 0, none⟩) c L.reverse w6 (.inr ⟨g, 0, rfl, hrow6⟩) (by rw [List.length_reverse]; omega) (fun l hl => HALL.out l (List.mem_reverse.1 hl)))
  rw [List.length_reverse, sumOf_reverse, sumOf_reverse, sumOf_reverse, sumOf_reverse] at C4
  clear hrow6 hb6 HB5 C3 K3
  go_wp2_with fail
  refine C4.out.mono ?_
  rintro e w7 ⟨rfl, hb1⟩
  have K7 := Lib.hid (((K6.out.below hb1).new w7.heap.size rfl /-T-/ 37 #[.int .i64 (sumOf Leg4.xl L), .int .i64 (sumOf Leg4.xh L)]).new (w7.heap.size + 1) (by simp) /-T-/ 37 #[.int .i64 (sumOf Leg4.yl L), .int .i64 (sumOf Leg4.yh L)]); clear hb1 K6 C4
  have C5 := c_trav_ok (some ⟨b, off, none⟩) cap (L.take k) _ (.inr ⟨b, off, rfl, (HR.out.below K7.out.1 HR.out.1).take k⟩) (by rw [List.length_take]; omega) (fun l hl => HALL.out l (List.mem_of_mem_take hl))
  rw [show (L.take k).length = k by rw [List.length_take]; omega] at C5
  replace C5 := Lib.hid C5
  go_wp2_with fail
  refine C5.out.mono ?_
  rintro e w8 ⟨rfl, hb1⟩
  have K8 := Lib.hid (((K7.out.below hb1).new w8.heap.size rfl /-T-/ 37 #[.int .i64 (sumOf Leg4.xl (L.take k)), .int .i64 (sumOf Leg4.xh (L.take k))]).new (w8.heap.size + 1) (by simp) /-T-/ 37 #[.int .i64 (sumOf Leg4.yl (L.take k)), .int .i64 (sumOf Leg4.yh (L.take k))]); clear hb1 K7 C5
  replace hk := Lib.hid hk
  have C6 := c_trav_ok (some ⟨b, o, none⟩) c' (L.drop k) _ (show Legs _ _ _ from HOC.out.elim (fun h => .inr ⟨b, o, rfl, by rw [h]; exact (HR.out.below K8.out.1 HR.out.1).drop k hkn⟩) (fun h => .inl (List.eq_nil_of_length_eq_zero (by rw [List.length_drop]; exact h)))) (by rw [List.length_drop]; omega) (fun l hl => HALL.out l (List.mem_of_mem_drop hl))
  rw [show (L.drop k).length = L.length - k by rw [List.length_drop]] at C6
  replace C6 := Lib.hid C6
  go_wp2_with fail
  refine C6.out.mono ?_
  rintro e w9 ⟨rfl, hb1⟩
  have K9 := Lib.hid (((K8.out.below hb1).new w9.heap.size rfl /-T-/ 37 #[.int .i64 (sumOf Leg4.xl (L.drop k)), .int .i64 (sumOf Leg4.xh (L.drop k))]).new (w9.heap.size + 1) (by simp) /-T-/ 37 #[.int .i64 (sumOf Leg4.yl (L.drop k)), .int .i64 (sumOf Leg4.yh (L.drop k))]); clear hb1 K8 C6
  have P1 := sum_parts Leg4.xl L k; have P2 := sum_parts Leg4.xh L k; have P3 := sum_parts Leg4.yl L k; have P4 := sum_parts Leg4.yh L k
  have KX := K9
  have hbnd := hbnd.out
  rw [P1, P2, P3, P4] at KX hbnd
  generalize sumOf Leg4.xl (L.take k) = a1 at KX hbnd
  generalize sumOf Leg4.xh (L.take k) = a2 at KX hbnd
  generalize sumOf Leg4.yl (L.take k) = a3 at KX hbnd
  generalize sumOf Leg4.yh (L.take k) = a4 at KX hbnd
  generalize sumOf Leg4.xl (L.drop k) = d1 at KX hbnd
  generalize sumOf Leg4.xh (L.drop k) = d2 at KX hbnd
  generalize sumOf Leg4.yl (L.drop k) = d3 at KX hbnd
  generalize sumOf Leg4.yh (L.drop k) = d4 at KX hbnd
  clear P1 P2 P3 P4
  have N1 := arc_neq (a1 + d1) (a2 + d2); have N2 := arc_neq (a3 + d3) (a4 + d4)
  have x0 := KX.out.c (g := w3.heap.size) (t := /-T-/ 37) (cs := #[.int .i64 (a1 + d1), .int .i64 (a2 + d2)]) (by simp) (i := 0) rfl
  have x1 := KX.out.c (g := w3.heap.size) (t := /-T-/ 37) (cs := #[.int .i64 (a1 + d1), .int .i64 (a2 + d2)]) (by simp) (i := 1) rfl
  have y0 := KX.out.c (g := w3.heap.size + 1) (t := /-T-/ 37) (cs := #[.int .i64 (a3 + d3), .int .i64 (a4 + d4)]) (by simp) (i := 0) rfl
  have y1 := KX.out.c (g := w3.heap.size + 1) (t := /-T-/ 37) (cs := #[.int .i64 (a3 + d3), .int .i64 (a4 + d4)]) (by simp) (i := 1) rfl
  have p0 := KX.out.c (g := w7.heap.size) (t := /-T-/ 37) (cs := #[.int .i64 (a1 + d1), .int .i64 (a2 + d2)]) (by simp) (i := 0) rfl
  have p1 := KX.out.c (g := w7.heap.size) (t := /-T-/ 37) (cs := #[.int .i64 (a1 + d1), .int .i64 (a2 + d2)]) (by simp) (i := 1) rfl
  have q0 := KX.out.c (g := w7.heap.size + 1) (t := /-T-/ 37) (cs := #[.int .i64 (a3 + d3), .int .i64 (a4 + d4)]) (by simp) (i := 0) rfl
  have q1 := KX.out.c (g := w7.heap.size + 1) (t := /-T-/ 37) (cs := #[.int .i64 (a3 + d3), .int .i64 (a4 + d4)]) (by simp) (i := 1) rfl
  have s0 := KX.out.c (g := w8.heap.size) (t := /-T-/ 37) (cs := #[.int .i64 a1, .int .i64 a2]) (by simp) (i := 0) rfl
  have s1 := KX.out.c (g := w8.heap.size) (t := /-T-/ 37) (cs := #[.int .i64 a1, .int .i64 a2]) (by simp) (i := 1) rfl
  have t0 := KX.out.c (g := w8.heap.size + 1) (t := /-T-/ 37) (cs := #[.int .i64 a3, .int .i64 a4]) (by simp) (i := 0) rfl
  have t1 := KX.out.c (g := w8.heap.size + 1) (t := /-T-/ 37) (cs := #[.int .i64 a3, .int .i64 a4]) (by simp) (i := 1) rfl
  have u0 := KX.out.c (g := w9.heap.size) (t := /-T-/ 37) (cs := #[.int .i64 d1, .int .i64 d2]) (by simp) (i := 0) rfl
  have u1 := KX.out.c (g := w9.heap.size) (t := /-T-/ 37) (cs := #[.int .i64 d1, .int .i64 d2]) (by simp) (i := 1) rfl
  have v0 := KX.out.c (g := w9.heap.size + 1) (t := /-T-/ 37) (cs := #[.int .i64 d3, .int .i64 d4]) (by simp) (i := 0) rfl
  have v1 := KX.out.c (g := w9.heap.size + 1) (t := /-T-/ 37) (cs := #[.int .i64 d3, .int .i64 d4]) (by simp) (i := 1) rfl
  have W1 : -1099511627776 ≤ a1 + d1 ∧ a1 + d1 ≤ 1099511627776 := by omega
  have W2 : -1099511627776 ≤ a2 + d2 ∧ a2 + d2 ≤ 1099511627776 := by omega
  have W3 : -1099511627776 ≤ a3 + d3 ∧ a3 + d3 ≤ 1099511627776 := by omega
  have W4 : -1099511627776 ≤ a4 + d4 ∧ a4 + d4 ≤ 1099511627776 := by omega
  have KZ := Lib.hid KX.out.1
  clear K9
  clear hbnd
  go_wp2_with fail
  clear x0 x1 y0 y1 p0 p1 q0 q1 s0 s1 t0 t1 u0 u1 v0 v1 W1 W2 W3 W4 N1 N2 KX SL SH
  generalize hw10 : ((w9.alloc (.cells #[.int .i64 d1, .int .i64 d2] /-T-/ 37)).alloc (.cells #[.int .i64 d3, .int .i64 d4] /-T-/ 37)) = w10 at *
  have KY : Hid (Below w.heap.size w w10) := KZ
  clear KZ hw10
  refine (c_clone b off cap L w10 (HR.out.below KY.out HR.out.1) h0 (by omega)).mono ?_
  rintro e w11 ⟨g2, c2, rfl, ho2, hb11⟩
  have HO2 := Lib.hid ho2; have HB11 := Lib.hid hb11; clear ho2 hb11
  go_wp2
  go_loopw [19, 140] (fun v19 v140 wr => ∃ (i g c : Nat), v140 = .int .i64 (i : Int) ∧ i ≤ L.length ∧ v19 = .slice (some ⟨g, 0, none⟩) (L.length + i) c ∧ wr.ownsRow w10.heap.size /-T-/ 39 4 (.slice (some ⟨g, 0, none⟩) (L.length + i) c) (L.length + i) (flat (L ++ (L.take i).map Leg4.back)) ∧ Below w10.heap.size w10 wr) (fun _ v _ => ((L.length : Int) - intOf v).toNat)
  case atStart =>
    exact ⟨0, g2, c2, rfl, by omega, rfl, by simpa using HO2.out, HB11.out⟩
  case round =>
    obtain ⟨i, g, c, rfl, hi, rfl, ho, hb⟩ := hrel
    have HO := Lib.hid ho; have HB := Lib.hid hb; clear ho hb
    by_cases hl : i < L.length
    · have hR := ((HR.out.below KY.out HR.out.1).below HB.out (HR.out.below KY.out HR.out.1).1)
      obtain ⟨c0, c1, c2, c3⟩ := hR.2 i hl
      have hl' : (i : Int) < (L.length : Int) := by omega
      have hb4 := leg_ok _ (HALL.out _ (List.getElem_mem hl)).1
      have hb1 : -1099511627776 ≤ L[i].cl := hb4.2.1
      have hb2 : L[i].ch ≤ 1099511627776 := hb4.2.2.1
      have hb3 : L[i].cl ≤ L[i].ch := hb4.1
      clear hb4
      go_wp2_with (at_builtin; refine wpList_append_lies _ rfl _ _ /-T-/ 34 rfl w10.heap.size /-T-/ 39 I0 Z0 4 32 Try.underlying34 hI0 hZ0 hI1 hI2 hZ1 (by omega) (.slice (some ⟨g, 0, none⟩) (L.length + i) c) (L.length + i) (flat (L ++ (L.take i).map Leg4.back)) rfl ?own _ _ _ (lv L[i].back) rfl ?qc1 ?qc2 ?qc3 ?qc7 ?qc4 ?qc5 ?qc6 _ rfl ?_)
      case own => exact owns_below HO.out (by go_light; go_grown)
      case qc1 => rfl
      case qc2 => exact fun j u hj => news_new _ _ (by simp) _ _ j u hj
      case qc3 => exact fun u hu => flat_one [L[i].back] u (by simpa [flat] using hu)
      case qc7 => omega
      case qc4 => simp [maxLen]; omega
      case qc5 => omega
      case qc6 => have := HB.out.size; simp; omega
      intro g' c' w' hown hgrow hat hlt
      go_wp2
      go_light
      have HBN : Below w10.heap.size w10 w' := ((HB.out.alloc HB.out.size _).alloc (by have := HB.out.size; simp; omega) _).grown hgrow (by have := HB.out.size; simp; omega) (by intro q hq; simp [Value.ownBlock] at hq; subst hq; exact (owns_legs (L := L ++ (L.take i).map Leg4.back) HO.out (by omega)).2.1)
      exact ⟨⟨i + 1, g', c', by rw [show ((i + 1 : Nat) : Int) = (i : Int) + 1 by omega], by omega, rfl, by
        rw [List.take_succ_eq_append_getElem hl, List.map_append, ← List.append_assoc, flat_append, List.map_take]
        exact hown, HBN⟩, by simp only [intOf]; omega⟩
    · have hl' : ¬ (i : Int) < (L.length : Int) := by omega
      have hi' : i = L.length := by omega
      have HO3 := (owns_legs (L := L ++ (L.take i).map Leg4.back) HO.out (by omega)).2.2.2.1
      rw [hi', List.take_length] at HO3
      have HOKL : ∀ l ∈ L, l.ok = true := fun l hl => (HALL.out l hl).1
      have C7 := c_trav_ok (some ⟨g, 0, none⟩) c (L ++ L.map Leg4.back) wr (.inr ⟨g, 0, rfl, HO3⟩) (by simp; omega) (by
        intro l hl
        rcases List.mem_append.1 hl with h | h
        · exact HALL.out l h
        · obtain ⟨m, hm, rfl⟩ := List.mem_map.1 h
          have := back_ok m (HALL.out m hm).1 (List.all_eq_true.1 HS.out m hm)
          exact ⟨this.1, by rw [this.2]; exact (HALL.out m hm).2⟩)
      have SB := sumOf_back L
      have SL2 := sumOf_le L HOKL
      rw [sumOf_append, sumOf_append, sumOf_append, sumOf_append, SB.1, SB.2.1, SB.2.2.1, SB.2.2.2, show (L ++ L.map Leg4.back).length = L.length + i by simp; omega] at C7
      have Z1 : sumOf Leg4.xl L + -sumOf Leg4.xh L ≤ 0 := by omega
      have Z2 : 0 ≤ sumOf Leg4.xh L + -sumOf Leg4.xl L := by omega
      have Z3 : sumOf Leg4.yl L + -sumOf Leg4.yh L ≤ 0 := by omega
      have Z4 : 0 ≤ sumOf Leg4.yh L + -sumOf Leg4.yl L := by omega
      generalize sumOf Leg4.xl L + -sumOf Leg4.xh L = z1 at C7 Z1
      generalize sumOf Leg4.xh L + -sumOf Leg4.xl L = z2 at C7 Z2
      generalize sumOf Leg4.yl L + -sumOf Leg4.yh L = z3 at C7 Z3
      generalize sumOf Leg4.yh L + -sumOf Leg4.yl L = z4 at C7 Z4
      replace C7 := Lib.hid C7
      have HBF : Hid (Below w.heap.size w wr) := KY.out.trans (HB.out.mono KY.out.size)
      replace Z1 := Lib.hid Z1; replace Z2 := Lib.hid Z2; replace Z3 := Lib.hid Z3; replace Z4 := Lib.hid Z4
      clear SB SL2 HO3 HOKL hi hl hi' hkn hkn' hk hn h0 hcap hcm hc0 hc1 HO2 HB11 HOC HR HS HOK HALL C0 KY HO HB
      go_wp2_with fail
      refine C7.out.mono ?_
      rintro e w12 ⟨rfl, hb12⟩
      have HBG : Hid (Below w.heap.size w w12) := HBF.out.trans (hb12.mono HBF.out.size)
      clear hb12 C7 HBF hn' hl'
      have Z1 := Z1.out; have Z2 := Z2.out; have Z3 := Z3.out; have Z4 := Z4.out
      go_wp2
      go_ret
      exact ⟨by simp, (HBG.out.alloc HBG.out.size _).alloc (by have := HBG.out.size; simp; omega) _⟩
end Go.Proofs.Ytlloiallkcfomaa
