/- The contracts of package trig: bounds and enclosures. -/
import Derived.Test.YtlloiallkcfomaaGreatTrigSin
import Derived.Test.YtlloiallkcfomaaGreatWorld2
set_option linter.unusedVariables false
namespace Go.Proofs.YtlloiallkcfomaaGreat
open Go.RowKit Alm
def I64 (n : Int) : Prop := -9223372036854775808 ≤ n ∧ n ≤ 9223372036854775807
def wrapTurn (n : Int) : Int := n % 21600000
theorem c_turned (n : Int) (w : World) (h : I64 n) :
    Calls Tryz.prog 169 #[.int .i64 n] w fun e w' => e = .returned (.int .i64 (wrapTurn n)) ∧ w = w' := by
  obtain ⟨h1, h2⟩ := h
  have k : n.tmod 21600000 < 0 → wrap64 (n.tmod 21600000 + 21600000) = wrapTurn n := by
    intro h; unfold wrapTurn wrap64; rw [Int.tmod_eq_emod] at *; split at h <;> split <;> omega
  have k2 : 0 ≤ n.tmod 21600000 → n.tmod 21600000 = wrapTurn n := by
    intro h; unfold wrapTurn; rw [Int.tmod_eq_emod] at *; split at h <;> split <;> omega
  have K := Lib.hid k; have K2 := Lib.hid k2; clear k k2
  go_enter Tryz.func169, Tryz.ntmps169
  go_wp2
  · go_ret
    exact ⟨ret_int (K.out (by assumption)), rfl⟩
  · go_ret
    exact ⟨ret_int (K2.out (by assumption)), rfl⟩

/-- the angle in the first quarter with the same sine but for the sign -/
def foldQ (n : Int) : Int :=
  let m := wrapTurn n
  let m := if 10800000 < m then m - 10800000 else m
  if 5400000 < m then 10800000 - m else m
def south (n : Int) : Bool := decide (10800000 < wrapTurn n)
def bLo (n : Int) : Int := if south n then -(sinV (foldQ n) + if sinE (foldQ n) then 0 else 1) else sinV (foldQ n)
def bHi (n : Int) : Int := if south n then -(sinV (foldQ n)) else sinV (foldQ n) + if sinE (foldQ n) then 0 else 1
theorem foldQ_bd (n : Int) : 0 ≤ foldQ n ∧ foldQ n ≤ 5400000 := by
  unfold foldQ wrapTurn; simp only []; split <;> split <;> omega
theorem sinFl_lt (n : Nat) (h : n < 5400000) : sinFl n < 1073741824 := by
  have hW : W = 2^226 * 2^30 := by unfold W; decide +kernel
  unfold sinFl; split
  · apply Nat.div_lt_of_lt_mul
    have hR := radN_lt n (by omega)
    have hY := mulN_lt_W _ _ hR hR
    have hL := lessR_lt 34 1 _ hY
    have := mulN_lt _ _ hR (Nat.le_of_lt hL)
    have : sinW n ≤ radN n := by unfold sinW; omega
    omega
  · apply Nat.div_lt_of_lt_mul
    have := Nat.mod_lt (cosW (5400000 - n)) W_pos
    omega
theorem sinV_bd (n : Int) (h0 : 0 ≤ n) (h1 : n ≤ 5400000) : 0 ≤ sinV n ∧ sinV n ≤ 1073741824 ∧ (sinE n = false → sinV n < 1073741824) := by
  unfold sinV sinE
  split
  · simp
  · split
    · subst n; simp
    · split
      · subst n; simp
      · have := sinFl_lt n.toNat (by omega)
        refine ⟨by omega, by omega, fun _ => by omega⟩
theorem bnd_bd (n : Int) : -1073741824 ≤ bLo n ∧ bLo n ≤ bHi n ∧ bHi n ≤ 1073741824 ∧ bHi n ≤ bLo n + 1 := by
  obtain ⟨h0, h1⟩ := foldQ_bd n
  obtain ⟨a, b, c⟩ := sinV_bd _ h0 h1
  unfold bLo bHi
  cases hE : sinE (foldQ n)
  · have := c hE
    split <;> simp <;> omega
  · split <;> simp <;> omega
theorem c_bounds (n : Int) (w : World) (h : I64 n) :
    Calls Tryz.prog 144 #[.int .i64 n] w fun e w' => e = .returned (.tuple #[.int .i64 (bLo n), .int .i64 (bHi n)]) ∧ Below w.heap.size w w' := by
  obtain ⟨f0, f1⟩ := foldQ_bd n
  obtain ⟨a, b, c⟩ := sinV_bd _ f0 f1
  have CS := Lib.hid (fun w => c_sine (foldQ n) w f0 f1)
  have CT := Lib.hid (c_turned n w h)
  have hS : south n = decide (10800000 < wrapTurn n) := rfl
  have hT : 0 ≤ wrapTurn n ∧ wrapTurn n < 21600000 := by unfold wrapTurn; omega
  have hF : foldQ n = if 5400000 < (if 10800000 < wrapTurn n then wrapTurn n - 10800000 else wrapTurn n) then 10800000 - (if 10800000 < wrapTurn n then wrapTurn n - 10800000 else wrapTurn n) else (if 10800000 < wrapTurn n then wrapTurn n - 10800000 else wrapTurn n) := rfl
  have hlo : bLo n = if south n then -(sinV (foldQ n) + if sinE (foldQ n) then 0 else 1) else sinV (foldQ n) := rfl
  have hhi : bHi n = if south n then -(sinV (foldQ n)) else sinV (foldQ n) + if sinE (foldQ n) then 0 else 1 := rfl
  rw [hlo, hhi, hS]
  clear hlo hhi hS f0 f1 c
  generalize foldQ n = q at *
  generalize sinV q = v at *
  obtain ⟨hT0, hT1⟩ := hT
  generalize wrapTurn n = t at *
  by_cases h1 : 10800000 < t
  · simp only [h1, if_true, decide_true] at hF ⊢
    by_cases h2 : 5400000 < t - 10800000
    · rw [if_pos h2] at hF
      have HF := Lib.hid hF; clear hF
      cases hE : sinE q
      all_goals
        rw [hE] at CS
        have HE := Lib.hid hE; clear hE
        go_enter Tryz.func144, Tryz.ntmps144
        go_wp2_with fail
        refine CT.out.mono ?_
        rintro e w' ⟨rfl, rfl⟩
        go_wp2_with fail
        rw [← HF.out]
        refine (CS.out _).mono ?_
        rintro e w1 ⟨rfl, hb⟩
        have HB := Lib.hid hb; clear hb
        go_wp2
        go_ret2
        exact ⟨by first | rfl | (simp; done) | (simp; omega), HB.out⟩
    · rw [if_neg h2] at hF
      have HF := Lib.hid hF; clear hF
      cases hE : sinE q
      all_goals
        rw [hE] at CS
        have HE := Lib.hid hE; clear hE
        go_enter Tryz.func144, Tryz.ntmps144
        go_wp2_with fail
        refine CT.out.mono ?_
        rintro e w' ⟨rfl, rfl⟩
        go_wp2_with fail
        rw [← HF.out]
        refine (CS.out _).mono ?_
        rintro e w1 ⟨rfl, hb⟩
        have HB := Lib.hid hb; clear hb
        go_wp2
        go_ret2
        exact ⟨by first | rfl | (simp; done) | (simp; omega), HB.out⟩
  · simp only [h1, if_false, decide_false] at hF ⊢
    by_cases h2 : 5400000 < t
    · rw [if_pos h2] at hF
      have HF := Lib.hid hF; clear hF
      cases hE : sinE q
      all_goals
        rw [hE] at CS
        have HE := Lib.hid hE; clear hE
        go_enter Tryz.func144, Tryz.ntmps144
        go_wp2_with fail
        refine CT.out.mono ?_
        rintro e w' ⟨rfl, rfl⟩
        go_wp2_with fail
        rw [← HF.out]
        refine (CS.out _).mono ?_
        rintro e w1 ⟨rfl, hb⟩
        have HB := Lib.hid hb; clear hb
        go_wp2
        go_ret2
        exact ⟨by first | rfl | (simp; done) | (simp; omega), HB.out⟩
    · rw [if_neg h2] at hF
      subst hF
      cases hE : sinE q
      all_goals
        rw [hE] at CS
        have HE := Lib.hid hE; clear hE
        go_enter Tryz.func144, Tryz.ntmps144
        go_wp2_with fail
        refine CT.out.mono ?_
        rintro e w' ⟨rfl, rfl⟩
        go_wp2_with fail
        refine (CS.out _).mono ?_
        rintro e w1 ⟨rfl, hb⟩
        have HB := Lib.hid hb; clear hb
        go_wp2
        go_ret2
        exact ⟨by first | rfl | (simp; done) | (simp; omega), HB.out⟩

theorem ret_bool {a b : Bool} (h : a = b) : Ending.returned (.bool a) = .returned (.bool b) := by rw [h]
theorem ret_f {k k' : IntKind} {a b c d : Int} (h : a = b) (h' : c = d) : Ending.returned (.agg #[.int k a, .int k' c]) = .returned (.agg #[.int k b, .int k' d]) := by rw [h, h']
/-- an arc is valid -/
def arcV (lo hi : Int) : Bool := decide (-1099511627776 ≤ lo ∧ lo ≤ hi ∧ hi ≤ 1099511627776)
theorem arcV_iff (lo hi : Int) : arcV lo hi = true ↔ -1099511627776 ≤ lo ∧ lo ≤ hi ∧ hi ≤ 1099511627776 := by unfold arcV; simp
theorem c_valid (lo hi : Int) (w : World) :
    Calls Tryz.prog 91 #[.agg #[.int .i64 lo, .int .i64 hi]] w fun e w' => e = .returned (.bool (arcV lo hi)) ∧ Below w.heap.size w w' := by
  go_enter Tryz.func91, Tryz.ntmps91
  go_wp2
  all_goals
    go_ret
    exact ⟨ret_bool (by unfold arcV; rw [Bool.eq_iff_iff]; simp <;> omega), by go_grown⟩

/-- an arc has an angle with the direction of n -/
def meetsB (lo hi n : Int) : Bool := decide (wrapTurn (n - lo) ≤ hi - lo)
theorem c_meets (lo hi n : Int) (w : World) (h1 : I64 (n - lo)) (h2 : I64 (hi - lo)) :
    Calls Tryz.prog 145 #[.agg #[.int .i64 lo, .int .i64 hi], .int .i64 n] w fun e w' => e = .returned (.bool (meetsB lo hi n)) ∧ Below w.heap.size w w' := by
  have CT := Lib.hid (fun w => c_turned (n - lo) w h1)
  obtain ⟨a1, a2⟩ := h1
  obtain ⟨b1, b2⟩ := h2
  go_enter Tryz.func145, Tryz.ntmps145
  go_wp2
  go_quiet ((go_at_call 169; exact Calls.quiet_of_same (flip_w (CT.out _))))
  go_wp2
  go_ret
  exact ⟨ret_bool rfl, below_drewN (by go_grown) _⟩

theorem c_further (lo hi : Int) (w : World) (h1 : I64 (lo + 5400000)) (h2 : I64 (hi + 5400000)) :
    Calls Tryz.prog 93 #[.agg #[.int .i64 lo, .int .i64 hi]] w fun e w' => e = .returned (.agg #[.int .i64 (lo + 5400000), .int .i64 (hi + 5400000)]) ∧ Below w.heap.size w w' := by
  obtain ⟨a1, a2⟩ := h1
  obtain ⟨b1, b2⟩ := h2
  go_enter Tryz.func93, Tryz.ntmps93
  go_wp2
  refine bodyPost_ret (v := .agg #[.int .i64 (lo + 5400000), .int .i64 (hi + 5400000)]) (by simp [results, Tryz.results93, go_sem]) rfl ⟨rfl, by go_grown⟩
/-- the least enclosure of the sine -/
def enLo (lo hi : Int) : Int := if meetsB lo hi 16200000 then -1073741824 else min (bLo lo) (bLo hi)
def enHi (lo hi : Int) : Int := if meetsB lo hi 5400000 then 1073741824 else max (bHi lo) (bHi hi)
def ArcOk (lo hi : Int) : Prop := -1100000000000 ≤ lo ∧ lo ≤ hi ∧ hi ≤ 1100000000000
set_option maxRecDepth 100000 in
set_option maxHeartbeats 4000000 in
theorem c_enclosure (lo hi : Int) (w : World) (h : ArcOk lo hi) :
    Calls Tryz.prog 92 #[.agg #[.int .i64 lo, .int .i64 hi]] w fun e w' => e = .returned (.agg #[.int .i64 (enLo lo hi), .int .i64 (enHi lo hi)]) ∧ Below w.heap.size w w' := by
  obtain ⟨h1, h2, h3⟩ := h
  have C1 := Lib.hid (fun w => c_bounds lo w ⟨by omega, by omega⟩)
  have C2 := Lib.hid (fun w => c_bounds hi w ⟨by omega, by omega⟩)
  have C3 := Lib.hid (fun w => c_meets lo hi 5400000 w ⟨by omega, by omega⟩ ⟨by omega, by omega⟩)
  have C4 := Lib.hid (fun w => c_meets lo hi 16200000 w ⟨by omega, by omega⟩ ⟨by omega, by omega⟩)
  have e1 : enLo lo hi = if meetsB lo hi 16200000 then -1073741824 else min (bLo lo) (bLo hi) := rfl
  have e2 : enHi lo hi = if meetsB lo hi 5400000 then 1073741824 else max (bHi lo) (bHi hi) := rfl
  rw [e1, e2]; clear e1 e2
  generalize bLo lo = b1 at *
  generalize bHi lo = b2 at *
  generalize bLo hi = b3 at *
  generalize bHi hi = b4 at *
  generalize meetsB lo hi 5400000 = m1 at *
  generalize meetsB lo hi 16200000 = m2 at *
  have PA := Lib.hid (p2_new w (.int .i64 lo) (.int .i64 hi) /-T-/ 23)
  have PR := Lib.hid (p2_new (w.alloc (.cells #[.int .i64 lo, .int .i64 hi] /-T-/ 23)) (.int .i64 0) (.int .i64 0) /-T-/ 41)
  go_enter Tryz.func92, Tryz.ntmps92
  go_wp2_with fail
  refine (C1.out _).mono ?_
  rintro e w1 ⟨rfl, hb1⟩
  have H1 := Lib.hid hb1; clear hb1
  have S1 := Lib.hid (show w.heap.size + 1 < w1.heap.size by have := H1.out.size; simp at this; omega)
  have PA1 := Lib.hid ((PA.out.alloc (by simp) _).below H1.out (by simp; omega))
  have PR1 := Lib.hid (PR.out.below H1.out (by simp))
  obtain ⟨p0, p1, _, _⟩ := PA1.out
  go_wp2_with fail
  refine (C2.out _).mono ?_
  rintro e w2 ⟨rfl, hb1⟩
  have H2 := Lib.hid hb1; clear hb1 p0 p1
  have S2 := Lib.hid (show w.heap.size + 1 < w2.heap.size by have := H2.out.size; have := S1.out; omega)
  have PA2 := Lib.hid (PA1.out.below H2.out (by have := S1.out; omega))
  have PR2 := Lib.hid (PR1.out.below H2.out (by have := S1.out; simp; omega))
  obtain ⟨p0, p1, _, _⟩ := PA2.out
  have HB2 : Hid (Below w.heap.size w w2) := by
    have := S1.out; have := S2.out
    exact ((((Below.refl _ _).alloc (Nat.le_refl _) _).alloc (by simp) _).trans (H1.out.mono (by simp; omega))).trans (H2.out.mono (by omega))
  clear H1 H2 PA PR PA1 PR1 S1 C1 C2
  go_wp2_with fail
  all_goals
    refine (C3.out _).mono ?_
    rintro e w3 ⟨rfl, hb1⟩
    have H3 := Lib.hid hb1; clear hb1 p0 p1
    have S3 := Lib.hid (show w.heap.size + 1 < w3.heap.size by have := H3.out.size; have := S2.out; omega)
    have PA3 := Lib.hid (PA2.out.below H3.out (by have := S2.out; omega))
    have PR3 := Lib.hid (PR2.out.below H3.out (by have := S2.out; simp; omega))
    obtain ⟨p0, p1, _, _⟩ := PA3.out
    have HB : Hid (Below w.heap.size w w3) := HB2.out.trans (H3.out.mono (by have := S2.out; omega))
    clear PA2 PR2 HB2 S2 H3 C3
    cases m1
  all_goals
    go_wp2_with fail
    refine (C4.out _).mono ?_
    rintro e w4 ⟨rfl, hb1⟩
    have H4 := Lib.hid hb1; clear hb1 p0 p1
    have PR4 := Lib.hid (PR3.out.below H4.out (by have := S3.out; simp; omega))
    obtain ⟨r0, r1, g0, g1⟩ := PR4.out
    simp only [World.size_alloc] at r0 r1 g0 g1
    have HB4 : Hid (Below w.heap.size w w4) := HB.out.trans (H4.out.mono (by have := S3.out; omega))
    clear HB H4 PR3 PA3 S3 C4 PR4
    cases m2
  all_goals
    go_wp2
    refine bodyPost_ret (by simp [results, Tryz.results92, go_sem, r0, r1]; try rfl) rfl ?_
    refine ⟨ret_f ?_ ?_, by have := HB4.out; go_grown⟩
    · first | rfl | (simp; done) | (simp; omega) | omega
    · first | rfl | (simp; done) | (simp; omega) | omega
end Go.Proofs.YtlloiallkcfomaaGreat
