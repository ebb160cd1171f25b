/- The walk of package arctrig's series. -/
import Derived.Test.YtlloiallkcfomaaArc3
import Derived.Test.YtlloiallkcfomaaArrEq
import Derived.Test.YtlloiallkcfomaaTrig
set_option linter.unusedVariables false
set_option linter.unusedSimpArgs false
namespace Go.Proofs.Ytlloiallkcfomaa
open Go.RowKit Alm
structure SerW (w wr : World) (Y b7 b8 s T : Nat) : Prop where
  below : Below w.heap.size w wr
  y : NRow wr (w.heap.size + 1) Y
  r : NRow wr (w.heap.size + 1 + 1) 0
  s : NRow wr b7 s
  t : NRow wr b8 T
  lt : w.heap.size + 5 ≤ wr.heap.size
theorem SerW.t_store {w wr w2 : World} {Y b7 b8 s T : Nat} (h : SerW w wr Y b7 b8 s T) (hb : Below wr.heap.size wr w2) (h7 : w.heap.size + 3 ≤ b7 ∧ b7 < w.heap.size + 5) (h8 : w.heap.size + 3 ≤ b8 ∧ b8 < w.heap.size + 5) (hn : b7 ≠ b8) (T' : Nat) : SerW w (World4 w2 b8 T') Y b7 b8 s T' := by
  have hl := h.lt; have hs := hb.size
  refine ⟨below_store (h.below.trans (hb.mono (by omega))) _ (by omega), (h.y.below hb (by omega)).apart _ (by omega), (h.r.below hb (by omega)).apart _ (by omega), (h.s.below hb (by omega)).apart _ (by omega), (h.t.below hb (by omega)).store _, by rw [size_store]; omega⟩
theorem SerW.s_store {w wr w2 : World} {Y b7 b8 s T : Nat} (h : SerW w wr Y b7 b8 s T) (hb : Below wr.heap.size wr w2) (h7 : w.heap.size + 3 ≤ b7 ∧ b7 < w.heap.size + 5) (h8 : w.heap.size + 3 ≤ b8 ∧ b8 < w.heap.size + 5) (hn : b7 ≠ b8) (S : Nat) : SerW w (World4 w2 b7 S) Y b7 b8 S T := by
  have hl := h.lt; have hs := hb.size
  refine ⟨below_store (h.below.trans (hb.mono (by omega))) _ (by omega), (h.y.below hb (by omega)).apart _ (by omega), (h.r.below hb (by omega)).apart _ (by omega), (h.s.below hb (by omega)).store _, (h.t.below hb (by omega)).apart _ (by omega), by rw [size_store]; omega⟩
theorem nl_zero (A : Nat) (hA : A < W) : (nl A 0 == 0 && (nl A 1 == 0 && (nl A 2 == 0 && nl A 3 == 0))) = decide (A = 0) := by
  have va := V4_nl A hA
  unfold V4 at va
  have a0 := nl_U A 0; have a1 := nl_U A 1; have a2 := nl_U A 2; have a3 := nl_U A 3
  unfold LU at *
  generalize nl A 0 = x0 at *
  generalize nl A 1 = x1 at *
  generalize nl A 2 = x2 at *
  generalize nl A 3 = x3 at *
  rw [Bool.eq_iff_iff]
  simp only [Bool.and_eq_true, beq_iff_eq, decide_eq_true_eq]
  omega
theorem arr_nz (w : World) (A : Nat) (hA : A < W) : (binOp .neq /-T-/ 171 (.agg #[.int .u64 (nl A 0), .int .u64 (nl A 1), .int .u64 (nl A 2), .int .u64 (nl A 3)]) (.agg #[.int .u64 0, .int .u64 0, .int .u64 0, .int .u64 0])).run Try.prog w = .ok (.bool (!(decide (A = 0)))) w := by
  rw [arr_neq, nl_zero A hA]
def SerOut (F Y n : Nat) (w : World) (e : Ending) (w' : World) : Prop :=
  (∃ S : Nat, (S : Int) = serA 34 F Y n ∧ S ≤ QA ∧ e = .returned (.agg #[.int .u64 (nl S 0), .int .u64 (nl S 1), .int .u64 (nl S 2), .int .u64 (nl S 3)])) ∧ Below w.heap.size w w'
def SerL (F Y n0 b7 b8 : Nat) (w : World) (v2 v9 : Value) (wr : World) : Prop :=
  ∃ (n s T : Nat) (mi : Bool), v2 = .int .u64 (n : Int) ∧ v9 = .bool mi ∧ SerI (serA 34 F Y n0) F Y s T n mi ∧ SerW w wr Y b7 b8 s T
theorem QA_W : 2^60 * QA < W := by rw [QA_val]; unfold W; decide +kernel
theorem serI_bd {R : Int} {F Y s T n : Nat} {mi : Bool} (h : SerI R F Y s T n mi) : T ≤ QA ∧ s ≤ QA := by
  obtain ⟨m, _, _, _, _, h1, h2, h⟩ := h
  refine ⟨h1, ?_⟩
  cases mi <;> simp at h <;> omega
set_option maxRecDepth 100000 in
set_option maxHeartbeats 8000000 in
theorem c_aseries (F Y n : Nat) (w : World) (hF : F ≤ QA) (hY : Y ≤ QA) (hn : n ≤ 1) :
    Calls Try.prog 179 #[.agg #[.int .u64 (nl F 0), .int .u64 (nl F 1), .int .u64 (nl F 2), .int .u64 (nl F 3)], .agg #[.int .u64 (nl Y 0), .int .u64 (nl Y 1), .int .u64 (nl Y 2), .int .u64 (nl Y 3)], .int .u64 (n : Int)] w (SerOut F Y n w) := by
  have HF := Lib.hid hF; have HY := Lib.hid hY; have HN := Lib.hid hn; clear hF hY hn
  go_enter Try.func179, Try.ntmps179
  go_wp2
  go_region
  · go_wp2
    go_loopw [2, 9] (fun v2 v9 wr => SerL F Y n (w.heap.size + 1 + 1 + 1) (w.heap.size + 1 + 1 + 1 + 1) w v2 v9 wr) (fun v2 _ _ => (100 - intOf v2).toNat)
    case atStart =>
      refine ⟨n, F, F, true, rfl, rfl, serI_start F Y n HF.out HN.out, ?_, ?_, ?_, ?_, ?_, ?_⟩
      · go_grown
      · intro k hk
        have : k = 0 ∨ k = 1 ∨ k = 2 ∨ k = 3 := by omega
        rcases this with rfl | rfl | rfl | rfl <;> refine ⟨by simp [go_sem], by simp [go_sem], nl_U _ _⟩
      · intro k hk
        have : k = 0 ∨ k = 1 ∨ k = 2 ∨ k = 3 := by omega
        rcases this with rfl | rfl | rfl | rfl <;> refine ⟨by simp [go_sem, nl], by simp [go_sem], nl_U _ _⟩
      · intro k hk
        have : k = 0 ∨ k = 1 ∨ k = 2 ∨ k = 3 := by omega
        rcases this with rfl | rfl | rfl | rfl <;> refine ⟨by simp [go_sem], by simp [go_sem], nl_U _ _⟩
      · intro k hk
        have : k = 0 ∨ k = 1 ∨ k = 2 ∨ k = 3 := by omega
        rcases this with rfl | rfl | rfl | rfl <;> refine ⟨by simp [go_sem], by simp [go_sem], nl_U _ _⟩
      · simp
    case round =>
      obtain ⟨n', s, T, mi, rfl, rfl, hI, hW⟩ := hrel
      have HI := Lib.hid hI; have HW := Lib.hid hW; clear hI hW
      have TQ : Hid (T < W ∧ s < W ∧ T ≤ QA ∧ s ≤ QA ∧ Y < W) := by
        have := serI_bd HI.out; have := QA_W; have := HY.out; exact ⟨by omega, by omega, by omega, by omega, by omega⟩
      have AN := fun w => arr_nz w T TQ.out.1
      by_cases hT : T = 0
      · subst hT
        simp only [decide_true, Bool.not_true] at AN
        have hR := serI_done HI.out
        have FIN : Hid (∃ S : Nat, (S : Int) = serA 34 F Y n ∧ S ≤ QA ∧ S = s) := ⟨s, hR.symm, TQ.out.2.2.2.1, rfl⟩
        obtain ⟨q0, q1, q2, q3⟩ := HW.out.t.cells
        obtain ⟨s0, s1, s2, s3⟩ := HW.out.s.cells
        obtain ⟨r0, r1, r2, r3⟩ := HW.out.r.cells
        obtain ⟨f0, f1, f2, f3⟩ := HW.out.r.free
        have HB := Lib.hid HW.out.below
        clear hR
        go_wp2
        refine bodyPost_ret (v := .agg #[.int .u64 (nl s 0), .int .u64 (nl s 1), .int .u64 (nl s 2), .int .u64 (nl s 3)]) (by simp [results, Try.results179, go_sem, r0, r1, r2, r3]) rfl ⟨?_, ?_⟩
        · obtain ⟨S, h1, h2, rfl⟩ := FIN.out; exact ⟨S, h1, h2, rfl⟩
        · have hb := HB.out
          go_grown
      · simp only [hT, decide_false, Bool.not_false] at AN
        have hT0 : 0 < T := by omega
        have NX := serI_next HY.out HI.out hT0
        obtain ⟨hn67, hlt, NX⟩ := NX
        have hprod : ∃ D : Nat, D = (n' + 1) * (n' + 2) ∧ 0 < D ∧ D ≤ 68 * 69 := ⟨_, rfl, Nat.mul_pos (by omega) (by omega), Nat.mul_le_mul (by omega) (by omega)⟩
        obtain ⟨D, hD, hD0, hD1⟩ := hprod
        rw [← hD] at NX hlt
        have hDw : IntKind.u64.wrap (((n' : Int) + 1) * ((n' : Int) + 2)) = (D : Int) := by
          have e : ((n' : Int) + 1) * ((n' : Int) + 2) = (D : Int) := by
            rw [hD, Int.natCast_mul]; rfl
          rw [e]; exact w64 _ (by unfold U64; omega)
        have hmW : mulA T Y < W := by
          have h1 : mulA T Y ≤ T := by
            unfold mulA
            apply Nat.div_le_of_le_mul
            rw [Nat.mul_comm QA]
            exact Nat.mul_le_mul_left _ HY.out
          have := TQ.out.1; omega
        have C1 := Lib.hid (fun w => c_amul T Y TQ.out.1 TQ.out.2.2.2.2 (by
          have h1 := Nat.mul_le_mul TQ.out.2.2.1 HY.out
          have h2 : QA * QA < 2^448 := by rw [QA_val]; decide +kernel
          omega) w)
        have C2 := fun w => c_aover (mulA T Y) (D : Int) hmW (by unfold U64; omega) (by omega) w
        rw [Int.toNat_natCast] at C2
        replace C2 := Lib.hid C2
        generalize mulA T Y / D = T' at *
        have HNX := Lib.hid NX; have HLT := Lib.hid hlt; have HD := Lib.hid hD
        clear NX hlt hD hmW hD0 hD1
        obtain ⟨q0, q1, q2, q3⟩ := HW.out.t.cells
        obtain ⟨y0, y1, y2, y3⟩ := HW.out.y.cells
        go_wp2_with fail
        refine (C1.out _).mono ?_
        rintro e w1 ⟨rfl, hb1⟩
        have HB1 := Lib.hid hb1; clear hb1 q0 q1 q2 q3 y0 y1 y2 y3
        go_wp2_with fail
        refine (C2.out _).mono ?_
        rintro e w2 ⟨rfl, hb2⟩
        have HB2 : Hid (Below wr.heap.size wr w2) := HB1.out.trans (hb2.mono HB1.out.size)
        clear hb2 HB1
        have lt5 : Hid (w.heap.size + 5 ≤ wr.heap.size) := HW.out.lt
        have SX := Lib.hid (HW.out.t_store HB2.out (by omega) (by omega) (by omega) T')
        obtain ⟨q0, q1, q2, q3⟩ := (HW.out.t.below HB2.out (by have := lt5.out; omega)).cells
        obtain ⟨f0, f1, f2, f3⟩ := (HW.out.t.below HB2.out (by have := lt5.out; omega)).free
        obtain ⟨s0, s1, s2, s3⟩ := (HW.out.s.below HB2.out (by have := lt5.out; omega)).cells
        have hn68 : (n' : Int) ≤ 68 := by omega
        cases mi
        · have NX := HNX.out
          simp only [Bool.false_eq_true, if_false] at NX
          have C3 := Lib.hid (fun w => c_aadd s T' (by have := QA_W; omega) w)
          have HNI := Lib.hid NX.2
          clear NX HNX
          go_wp2_with fail
          refine (C3.out _).mono ?_
          rintro e w3 ⟨rfl, hb3⟩
          have SY := Lib.hid (SX.out.s_store hb3 (by omega) (by omega) (by omega) (s + T'))
          obtain ⟨g0, g1, g2, g3⟩ := (SX.out.s.below (show Below (World4 w2 (w.heap.size + 1 + 1 + 1 + 1) T').heap.size (World4 w2 (w.heap.size + 1 + 1 + 1 + 1) T') w3 from hb3) (by have := SX.out.lt; omega)).free
          obtain ⟨k0, k1, k2, k3⟩ := (SX.out.s.below (show Below (World4 w2 (w.heap.size + 1 + 1 + 1 + 1) T').heap.size (World4 w2 (w.heap.size + 1 + 1 + 1 + 1) T') w3 from hb3) (by have := SX.out.lt; omega)).cells
          clear hb3 q0 q1 q2 q3 f0 f1 f2 f3 s0 s1 s2 s3
          go_wp2
          exact ⟨⟨n' + 2, s + T', T', true, by rw [Int.natCast_add]; rfl, by first | rfl | simp, HNI.out, SY.out⟩, by simp only [intOf]; omega⟩
        · have NX := HNX.out
          simp only [if_true] at NX
          have C3 := Lib.hid (fun w => c_asub s T' TQ.out.2.1 NX.1 w)
          have HNI := Lib.hid NX.2
          clear NX HNX
          go_wp2_with fail
          refine (C3.out _).mono ?_
          rintro e w3 ⟨rfl, hb3⟩
          have SY := Lib.hid (SX.out.s_store hb3 (by omega) (by omega) (by omega) (s - T'))
          obtain ⟨g0, g1, g2, g3⟩ := (SX.out.s.below (show Below (World4 w2 (w.heap.size + 1 + 1 + 1 + 1) T').heap.size (World4 w2 (w.heap.size + 1 + 1 + 1 + 1) T') w3 from hb3) (by have := SX.out.lt; omega)).free
          obtain ⟨k0, k1, k2, k3⟩ := (SX.out.s.below (show Below (World4 w2 (w.heap.size + 1 + 1 + 1 + 1) T').heap.size (World4 w2 (w.heap.size + 1 + 1 + 1 + 1) T') w3 from hb3) (by have := SX.out.lt; omega)).cells
          clear hb3 q0 q1 q2 q3 f0 f1 f2 f3 s0 s1 s2 s3
          go_wp2
          exact ⟨⟨n' + 2, s - T', T', false, by rw [Int.natCast_add]; rfl, by first | rfl | simp, HNI.out, SY.out⟩, by simp only [intOf]; omega⟩
  · go_wp2
    go_loopw [2, 9] (fun v2 v9 wr => SerL F Y n (w.heap.size + 1 + 1 + 1 + 1) (w.heap.size + 1 + 1 + 1) w v2 v9 wr) (fun v2 _ _ => (100 - intOf v2).toNat)
    case atStart =>
      refine ⟨n, F, F, true, rfl, rfl, serI_start F Y n HF.out HN.out, ?_, ?_, ?_, ?_, ?_, ?_⟩
      · go_grown
      · intro k hk
        have : k = 0 ∨ k = 1 ∨ k = 2 ∨ k = 3 := by omega
        rcases this with rfl | rfl | rfl | rfl <;> refine ⟨by simp [go_sem], by simp [go_sem], nl_U _ _⟩
      · intro k hk
        have : k = 0 ∨ k = 1 ∨ k = 2 ∨ k = 3 := by omega
        rcases this with rfl | rfl | rfl | rfl <;> refine ⟨by simp [go_sem, nl], by simp [go_sem], nl_U _ _⟩
      · intro k hk
        have : k = 0 ∨ k = 1 ∨ k = 2 ∨ k = 3 := by omega
        rcases this with rfl | rfl | rfl | rfl <;> refine ⟨by simp [go_sem], by simp [go_sem], nl_U _ _⟩
      · intro k hk
        have : k = 0 ∨ k = 1 ∨ k = 2 ∨ k = 3 := by omega
        rcases this with rfl | rfl | rfl | rfl <;> refine ⟨by simp [go_sem], by simp [go_sem], nl_U _ _⟩
      · simp
    case round =>
      obtain ⟨n', s, T, mi, rfl, rfl, hI, hW⟩ := hrel
      have HI := Lib.hid hI; have HW := Lib.hid hW; clear hI hW
      have TQ : Hid (T < W ∧ s < W ∧ T ≤ QA ∧ s ≤ QA ∧ Y < W) := by
        have := serI_bd HI.out; have := QA_W; have := HY.out; exact ⟨by omega, by omega, by omega, by omega, by omega⟩
      have AN := fun w => arr_nz w T TQ.out.1
      by_cases hT : T = 0
      · subst hT
        simp only [decide_true, Bool.not_true] at AN
        have hR := serI_done HI.out
        have FIN : Hid (∃ S : Nat, (S : Int) = serA 34 F Y n ∧ S ≤ QA ∧ S = s) := ⟨s, hR.symm, TQ.out.2.2.2.1, rfl⟩
        obtain ⟨q0, q1, q2, q3⟩ := HW.out.t.cells
        obtain ⟨s0, s1, s2, s3⟩ := HW.out.s.cells
        obtain ⟨r0, r1, r2, r3⟩ := HW.out.r.cells
        obtain ⟨f0, f1, f2, f3⟩ := HW.out.r.free
        have HB := Lib.hid HW.out.below
        clear hR
        go_wp2
        refine bodyPost_ret (v := .agg #[.int .u64 (nl s 0), .int .u64 (nl s 1), .int .u64 (nl s 2), .int .u64 (nl s 3)]) (by simp [results, Try.results179, go_sem, r0, r1, r2, r3]) rfl ⟨?_, ?_⟩
        · obtain ⟨S, h1, h2, rfl⟩ := FIN.out; exact ⟨S, h1, h2, rfl⟩
        · have hb := HB.out
          go_grown
      · simp only [hT, decide_false, Bool.not_false] at AN
        have hT0 : 0 < T := by omega
        have NX := serI_next HY.out HI.out hT0
        obtain ⟨hn67, hlt, NX⟩ := NX
        have hprod : ∃ D : Nat, D = (n' + 1) * (n' + 2) ∧ 0 < D ∧ D ≤ 68 * 69 := ⟨_, rfl, Nat.mul_pos (by omega) (by omega), Nat.mul_le_mul (by omega) (by omega)⟩
        obtain ⟨D, hD, hD0, hD1⟩ := hprod
        rw [← hD] at NX hlt
        have hDw : IntKind.u64.wrap (((n' : Int) + 1) * ((n' : Int) + 2)) = (D : Int) := by
          have e : ((n' : Int) + 1) * ((n' : Int) + 2) = (D : Int) := by
            rw [hD, Int.natCast_mul]; rfl
          rw [e]; exact w64 _ (by unfold U64; omega)
        have hmW : mulA T Y < W := by
          have h1 : mulA T Y ≤ T := by
            unfold mulA
            apply Nat.div_le_of_le_mul
            rw [Nat.mul_comm QA]
            exact Nat.mul_le_mul_left _ HY.out
          have := TQ.out.1; omega
        have C1 := Lib.hid (fun w => c_amul T Y TQ.out.1 TQ.out.2.2.2.2 (by
          have h1 := Nat.mul_le_mul TQ.out.2.2.1 HY.out
          have h2 : QA * QA < 2^448 := by rw [QA_val]; decide +kernel
          omega) w)
        have C2 := fun w => c_aover (mulA T Y) (D : Int) hmW (by unfold U64; omega) (by omega) w
        rw [Int.toNat_natCast] at C2
        replace C2 := Lib.hid C2
        generalize mulA T Y / D = T' at *
        have HNX := Lib.hid NX; have HLT := Lib.hid hlt; have HD := Lib.hid hD
        clear NX hlt hD hmW hD0 hD1
        obtain ⟨q0, q1, q2, q3⟩ := HW.out.t.cells
        obtain ⟨y0, y1, y2, y3⟩ := HW.out.y.cells
        go_wp2_with fail
        refine (C1.out _).mono ?_
        rintro e w1 ⟨rfl, hb1⟩
        have HB1 := Lib.hid hb1; clear hb1 q0 q1 q2 q3 y0 y1 y2 y3
        go_wp2_with fail
        refine (C2.out _).mono ?_
        rintro e w2 ⟨rfl, hb2⟩
        have HB2 : Hid (Below wr.heap.size wr w2) := HB1.out.trans (hb2.mono HB1.out.size)
        clear hb2 HB1
        have lt5 : Hid (w.heap.size + 5 ≤ wr.heap.size) := HW.out.lt
        have SX := Lib.hid (HW.out.t_store HB2.out (by omega) (by omega) (by omega) T')
        obtain ⟨q0, q1, q2, q3⟩ := (HW.out.t.below HB2.out (by have := lt5.out; omega)).cells
        obtain ⟨f0, f1, f2, f3⟩ := (HW.out.t.below HB2.out (by have := lt5.out; omega)).free
        obtain ⟨s0, s1, s2, s3⟩ := (HW.out.s.below HB2.out (by have := lt5.out; omega)).cells
        have hn68 : (n' : Int) ≤ 68 := by omega
        cases mi
        · have NX := HNX.out
          simp only [Bool.false_eq_true, if_false] at NX
          have C3 := Lib.hid (fun w => c_aadd s T' (by have := QA_W; omega) w)
          have HNI := Lib.hid NX.2
          clear NX HNX
          go_wp2_with fail
          refine (C3.out _).mono ?_
          rintro e w3 ⟨rfl, hb3⟩
          have SY := Lib.hid (SX.out.s_store hb3 (by omega) (by omega) (by omega) (s + T'))
          obtain ⟨g0, g1, g2, g3⟩ := (SX.out.s.below (show Below (World4 w2 (w.heap.size + 1 + 1 + 1) T').heap.size (World4 w2 (w.heap.size + 1 + 1 + 1) T') w3 from hb3) (by have := SX.out.lt; omega)).free
          obtain ⟨k0, k1, k2, k3⟩ := (SX.out.s.below (show Below (World4 w2 (w.heap.size + 1 + 1 + 1) T').heap.size (World4 w2 (w.heap.size + 1 + 1 + 1) T') w3 from hb3) (by have := SX.out.lt; omega)).cells
          clear hb3 q0 q1 q2 q3 f0 f1 f2 f3 s0 s1 s2 s3
          go_wp2
          exact ⟨⟨n' + 2, s + T', T', true, by rw [Int.natCast_add]; rfl, by first | rfl | simp, HNI.out, SY.out⟩, by simp only [intOf]; omega⟩
        · have NX := HNX.out
          simp only [if_true] at NX
          have C3 := Lib.hid (fun w => c_asub s T' TQ.out.2.1 NX.1 w)
          have HNI := Lib.hid NX.2
          clear NX HNX
          go_wp2_with fail
          refine (C3.out _).mono ?_
          rintro e w3 ⟨rfl, hb3⟩
          have SY := Lib.hid (SX.out.s_store hb3 (by omega) (by omega) (by omega) (s - T'))
          obtain ⟨g0, g1, g2, g3⟩ := (SX.out.s.below (show Below (World4 w2 (w.heap.size + 1 + 1 + 1) T').heap.size (World4 w2 (w.heap.size + 1 + 1 + 1) T') w3 from hb3) (by have := SX.out.lt; omega)).free
          obtain ⟨k0, k1, k2, k3⟩ := (SX.out.s.below (show Below (World4 w2 (w.heap.size + 1 + 1 + 1) T').heap.size (World4 w2 (w.heap.size + 1 + 1 + 1) T') w3 from hb3) (by have := SX.out.lt; omega)).cells
          clear hb3 q0 q1 q2 q3 f0 f1 f2 f3 s0 s1 s2 s3
          go_wp2
          exact ⟨⟨n' + 2, s - T', T', false, by rw [Int.natCast_add]; rfl, by first | rfl | simp, HNI.out, SY.out⟩, by simp only [intOf]; omega⟩
end Go.Proofs.Ytlloiallkcfomaa
