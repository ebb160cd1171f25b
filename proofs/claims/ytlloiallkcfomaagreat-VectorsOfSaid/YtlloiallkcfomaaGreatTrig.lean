/- The contracts of package trig. -/
import Derived.Test.YtlloiallkcfomaaGreatTrigNum
import Derived.Deep.RegionHeld3
set_option linter.unusedVariables false
namespace Go.Proofs.YtlloiallkcfomaaGreat
open Go.RowKit Alm

/-- a row of four cells that bears a number -/
def NRow (w : World) (b A : Nat) : Prop := Row w b 4 (nl A)
theorem NRow.cells {w : World} {b A : Nat} (h : NRow w b A) : w.cell? ⟨b, 0, none⟩ = some (.int .u64 (nl A 0)) ∧ w.cell? ⟨b, 1, none⟩ = some (.int .u64 (nl A 1)) ∧ w.cell? ⟨b, 2, none⟩ = some (.int .u64 (nl A 2)) ∧ w.cell? ⟨b, 3, none⟩ = some (.int .u64 (nl A 3)) :=
  ⟨(h 0 (by omega)).1, (h 1 (by omega)).1, (h 2 (by omega)).1, (h 3 (by omega)).1⟩
theorem NRow.free {w : World} {b A : Nat} (h : NRow w b A) : w.frozen? ⟨b, 0, none⟩ = false ∧ w.frozen? ⟨b, 1, none⟩ = false ∧ w.frozen? ⟨b, 2, none⟩ = false ∧ w.frozen? ⟨b, 3, none⟩ = false :=
  ⟨(h 0 (by omega)).2.1, (h 1 (by omega)).2.1, (h 2 (by omega)).2.1, (h 3 (by omega)).2.1⟩
theorem nrow_zero (w : World) (T : TypeId) : NRow (w.alloc (.cells #[.int .u64 0, .int .u64 0, .int .u64 0, .int .u64 0] T)) w.heap.size 0 := by
  intro k hk
  have : k = 0 ∨ k = 1 ∨ k = 2 ∨ k = 3 := by omega
  rcases this with rfl | rfl | rfl | rfl <;> refine ⟨by simp [go_sem, nl], by simp [go_sem], nl_U _ _⟩

/-- the memory in the loop of less -/
structure LessR (w0 w1 wr : World) (Y U : Nat) : Prop where
  below : Below w0.heap.size w0 wr
  r : NRow wr (w0.heap.size + 1) 0
  y : NRow wr w1.heap.size Y
  u : NRow wr (w1.heap.size + 1) U
  lt : w1.heap.size + 2 ≤ wr.heap.size
  hs : w0.heap.size + 2 ≤ w1.heap.size
def LessL (w0 w1 : World) (Y odd : Nat) (v : Value) (wr : World) : Prop := ∃ k : Nat, v = .int .u64 (k : Int) ∧ k ≤ 34 ∧ LessR w0 w1 wr Y (lessR (34 - k) (2 * k + odd) Y)
theorem NRow.below {w wx : World} {b A B : Nat} (h : NRow w b A) (hb : Below B w wx) (hB : b < B) : NRow wx b A := Row.below h hb hB
theorem NRow.drew {w : World} {b A : Nat} (h : NRow w b A) : NRow w.drew b A := Row.drew h
theorem nrow_new (w : World) (T : TypeId) (A : Nat) : NRow (w.alloc (.cells #[.int .u64 (nl A 0), .int .u64 (nl A 1), .int .u64 (nl A 2), .int .u64 (nl A 3)] T)) w.heap.size A := by
  intro k hk
  have : k = 0 ∨ k = 1 ∨ k = 2 ∨ k = 3 := by omega
  rcases this with rfl | rfl | rfl | rfl <;> refine ⟨by simp [go_sem], by simp [go_sem], nl_U _ _⟩
theorem lessR_lt (m j Y : Nat) (hY : Y < W) : lessR m j Y < W := Nat.lt_of_le_of_lt (lessR_le m j Y hY) hY

/-- a number is stored into a row -/
def World4 (w : World) (b : Nat) (B : Nat) : World := (((w.setCell ⟨b, 0, none⟩ (.int .u64 (nl B 0))).setCell ⟨b, 1, none⟩ (.int .u64 (nl B 1))).setCell ⟨b, 2, none⟩ (.int .u64 (nl B 2))).setCell ⟨b, 3, none⟩ (.int .u64 (nl B 3))
theorem NRow.store {w : World} {b A : Nat} (h : NRow w b A) (B : Nat) : NRow (World4 w b B) b B := by
  have := (((Row.set h (i := 0) (nl B 0) (by omega) (nl_U _ _)).set (i := 1) (nl B 1) (by omega) (nl_U _ _)).set (i := 2) (nl B 2) (by omega) (nl_U _ _)).set (i := 3) (nl B 3) (by omega) (nl_U _ _)
  intro k hk
  have h2 := this k hk
  have e : updR (updR (updR (updR (nl A) 0 (nl B 0)) 1 (nl B 1)) 2 (nl B 2)) 3 (nl B 3) k = nl B k := by
    have : k = 0 ∨ k = 1 ∨ k = 2 ∨ k = 3 := by omega
    rcases this with rfl | rfl | rfl | rfl <;> simp [updR]
  rw [e] at h2
  exact h2
theorem NRow.apart {w : World} {b b' A : Nat} (h : NRow w b A) (B : Nat) (hb : b' ≠ b) : NRow (World4 w b' B) b A :=
  (((Row.other h _ hb).other _ hb).other _ hb).other _ hb
theorem below_store {w0 w : World} {N b : Nat} (h : Below N w0 w) (B : Nat) (hb : N ≤ b) : Below N w0 (World4 w b B) :=
  (((h.setCell (p := ⟨b, 0, none⟩) hb _).setCell (p := ⟨b, 1, none⟩) hb _).setCell (p := ⟨b, 2, none⟩) hb _).setCell (p := ⟨b, 3, none⟩) hb _
theorem size_store (w : World) (b B : Nat) : (World4 w b B).heap.size = w.heap.size := by simp [World4]

theorem less_next {w w1 wr wq w3 w4 : World} {X Y od k D : Nat} (hY : Y < W) (hk : k ≤ 34) (hk0 : 0 < k) (hod : od ≤ 1) (h : LessR w w1 wr Y (lessR (34 - k) (2 * k + od) Y)) (hD : D = (2 * k + od - 1) * (2 * k + od))
    (hq : Below wr.heap.size wr wq) (h3 : Below wq.drew.heap.size wq.drew w3) (h4 : Below w3.heap.size w3 w4) :
    LessL w w1 Y od (.int .u64 ((k : Int) - 1)) (World4 w4 (w1.heap.size + 1) (subN (Y / D) (mulN (Y / D) (lessR (34 - k) (2 * k + od) Y)))) ∧
      (intOf (.int .u64 ((k : Int) - 1))).toNat < (intOf (.int .u64 (k : Int))).toNat := by
  have q1 : Y / D < W := Nat.lt_of_le_of_lt (Nat.div_le_self _ _) hY
  have q2 := lessR_le (34 - k) (2 * k + od) Y hY
  have q3 := mulN_lt (Y / D) (lessR (34 - k) (2 * k + od) Y) q1 (by omega)
  have e : subN (Y / D) (mulN (Y / D) (lessR (34 - k) (2 * k + od) Y)) = lessR (34 - (k - 1)) (2 * (k - 1) + od) Y := by
    rw [subN_eq _ _ q1 q3, show 34 - (k - 1) = (34 - k) + 1 by omega]
    have e1 : 2 * (k - 1) + od + 2 = 2 * k + od := by omega
    have e2 : (2 * (k - 1) + od + 1) * (2 * (k - 1) + od + 2) = D := by rw [hD, show 2 * (k - 1) + od + 1 = 2 * k + od - 1 by omega, e1]
    have e3 : ∀ m j, lessR (m + 1) j Y = Y / ((j + 1) * (j + 2)) - mulN (Y / ((j + 1) * (j + 2))) (lessR m (j + 2) Y) := fun m j => by rw [lessR]
    rw [e3, e2, e1]
  rw [e]
  have s1 := hq.size; have s3 : wq.heap.size ≤ w3.heap.size := h3.size; have s4 := h4.size; have hl := h.lt; have hs := h.hs
  have hB : Below (w1.heap.size + 2) wr w4 := ((hq.mono hl).trans ((Below.refl _ _).drew.trans (h3.mono (by show _ ≤ wq.heap.size; omega)))).trans (h4.mono (by omega))
  refine ⟨⟨k - 1, by rw [show ((k - 1 : Nat) : Int) = (k : Int) - 1 by omega], by omega, ?_, ?_, ?_, ?_, ?_, hs⟩, by simp only [intOf]; omega⟩
  · exact below_store (h.below.trans (hB.mono (by omega))) _ (by omega)
  · exact (h.r.below hB (by omega)).apart _ (by omega)
  · exact (h.y.below hB (by omega)).apart _ (by omega)
  · exact (h.u.below hB (by omega)).store _
  · rw [size_store]; omega

set_option maxRecDepth 100000 in
set_option maxHeartbeats 4000000 in
theorem less_core (X Y od : Nat) (w : World) (hX : X < W) (hY : Y < W) (hod : od ≤ 1) (hXY : mulN X X = Y) :
    Calls Tryz.prog 189 #[.agg #[.int .u64 (nl X 0), .int .u64 (nl X 1), .int .u64 (nl X 2), .int .u64 (nl X 3)], .int .u64 (od : Int)] w fun e w' =>
      e = .returned (.agg #[.int .u64 (nl (lessR 34 od Y) 0), .int .u64 (nl (lessR 34 od Y) 1), .int .u64 (nl (lessR 34 od Y) 2), .int .u64 (nl (lessR 34 od Y) 3)]) ∧ Below w.heap.size w w' := by
  have HX := Lib.hid hX; clear hX
  have HY := Lib.hid hY; clear hY
  have HXY := Lib.hid hXY; clear hXY
  go_enter Tryz.func189, Tryz.ntmps189
  go_wp2_with fail
  refine (c_mul X X HX.out HX.out _).mono ?_
  rw [HXY.out]
  rintro e w1 ⟨rfl, hb1⟩
  have h1 : Below w.heap.size w w1 := (show Below w.heap.size w _ by go_grown).trans (hb1.mono (by simp; omega))
  have hs : w.heap.size + 2 ≤ w1.heap.size := by have := hb1.size; simp at this; omega
  have hr : NRow w1 (w.heap.size + 1) 0 := by
    intro k hk
    have : k = 0 ∨ k = 1 ∨ k = 2 ∨ k = 3 := by omega
    rcases this with rfl | rfl | rfl | rfl <;> refine ⟨(hb1.cell (by simp)).trans (by simp [go_sem, nl]), (hb1.frozen (by simp)).trans (by simp [go_sem]), nl_U _ _⟩
  have H1 := Lib.hid h1; have HS := Lib.hid hs; have HR := Lib.hid hr
  clear h1 hb1 hs hr
  go_wp2
  go_loopw [7] (fun v wr => LessL w w1 Y od v wr) (fun v _ => (intOf v).toNat)
  case atStart =>
    refine ⟨34, rfl, by omega, ?_, ?_, ?_, ?_, ?_, HS.out⟩
    · have := H1.out; have := HS.out; go_grown
    · have := HS.out; exact ((HR.out.below ((Below.refl _ _).alloc (Nat.le_refl _) _) (by omega)).below ((Below.refl _ _).alloc (Nat.le_refl _) _) (by simp; omega))
    · exact (nrow_new _ _ _).below ((Below.refl _ _).alloc (Nat.le_refl _) _) (by simp)
    · have := nrow_zero (w1.alloc (Obj.cells #[.int .u64 (nl Y 0), .int .u64 (nl Y 1), .int .u64 (nl Y 2), .int .u64 (nl Y 3)] /-T-/ 183)) /-T-/ 183
      simpa [lessR] using this
    · simp
  case round =>
    obtain ⟨k, rfl, hk, hR⟩ := hrel
    have HRR := Lib.hid hR; clear hR
    by_cases hk0 : 0 < k
    · obtain ⟨q0, q1, q2, q3⟩ := HRR.out.y.cells
      have hprod : ∃ D : Nat, D = (2 * k + od - 1) * (2 * k + od) ∧ 0 < D ∧ D ≤ 69 * 69 := ⟨_, rfl, Nat.mul_pos (by omega) (by omega), Nat.mul_le_mul (by omega) (by omega)⟩
      obtain ⟨D, hD, hD0, hD1⟩ := hprod
      have hDw : IntKind.u64.wrap ((2 * (k : Int) - 1 + (od : Int)) * (2 * (k : Int) + (od : Int))) = (D : Int) := by
        have e : (2 * (k : Int) - 1 + (od : Int)) * (2 * (k : Int) + (od : Int)) = (D : Int) := by
          rw [hD, Int.natCast_mul]
          have e2 : ((2 * k + od - 1 : Nat) : Int) = 2 * (k : Int) - 1 + od := by omega
          have e3 : ((2 * k + od : Nat) : Int) = 2 * (k : Int) + od := by omega
          rw [e2, e3]
        rw [e]; exact w64 _ (by unfold U64; omega)
      have HD := Lib.hid hD; clear hD
      go_wp2_with fail
      refine (c_div Y 0 D HY.out (by unfold U64; omega) (by unfold U64; omega) (by omega) _).mono ?_
      have e1 : quoN (0 : Int).toNat Y (D : Int).toNat = Y / D := by unfold quoN; simp
      rw [e1]
      rintro e w2 ⟨rfl, hb2⟩
      have hq : NRow (w2.alloc (Obj.cells #[.int .u64 (nl (Y / D) 0), .int .u64 (nl (Y / D) 1), .int .u64 (nl (Y / D) 2), .int .u64 (nl (Y / D) 3)] /-T-/ 183)) w2.heap.size (Y / D) := nrow_new _ _ _
      have hb3 := hb2.alloc hb2.size (Obj.cells #[.int .u64 (nl (Y / D) 0), .int .u64 (nl (Y / D) 1), .int .u64 (nl (Y / D) 2), .int .u64 (nl (Y / D) 3)] /-T-/ 183)
      have hsz : (w2.alloc (Obj.cells #[.int .u64 (nl (Y / D) 0), .int .u64 (nl (Y / D) 1), .int .u64 (nl (Y / D) 2), .int .u64 (nl (Y / D) 3)] /-T-/ 183)).heap.size = w2.heap.size + 1 := by simp
      have hw2 := hb2.size
      have hlt := HRR.out.lt
      have HQ := Lib.hid hq; have HB3 := Lib.hid hb3; have HSZ := Lib.hid hsz; have HW2 := Lib.hid hw2; have HLT := Lib.hid hlt
      clear hq hb2 hb3 hsz hw2 hlt q0 q1 q2 q3
      go_wp2
      generalize (w2.alloc (Obj.cells #[.int .u64 (nl (Y / D) 0), .int .u64 (nl (Y / D) 1), .int .u64 (nl (Y / D) 2), .int .u64 (nl (Y / D) 3)] /-T-/ 183)) = wq at *
      generalize w2.heap.size = bq at *
      have HU : Hid (NRow wq (w1.heap.size + 1) (lessR (34 - k) (2 * k + od) Y)) := HRR.out.u.below HB3.out HLT.out
      obtain ⟨q0, q1, q2, q3⟩ := HQ.out.cells
      obtain ⟨u0, u1, u2, u3⟩ := HU.out.cells
      obtain ⟨f0, f1, f2, f3⟩ := HU.out.free
      have L1 : Hid (Y / D < W) := Nat.lt_of_le_of_lt (Nat.div_le_self _ _) HY.out
      have L2 : Hid (lessR (34 - k) (2 * k + od) Y < W) := lessR_lt _ _ _ HY.out
      have L3 : Hid (mulN (Y / D) (lessR (34 - k) (2 * k + od) Y) < W) := mulN_lt_W _ _ L1.out L2.out
      have LB : Hid (w1.heap.size + 1 < wq.heap.size ∧ bq < wq.heap.size) := by
        have := HSZ.out; have := HW2.out; have := HLT.out; exact ⟨by omega, by omega⟩
      have FIN : Hid (∀ w3 w4 : World, Below wq.drew.heap.size wq.drew w3 → Below w3.heap.size w3 w4 → _) := fun w3 w4 h3 h4 => less_next (X := X) HY.out hk hk0 hod HRR.out HD.out HB3.out h3 h4
      have hk1 : 0 < (k : Int) := by omega
      have hk2 : (k : Int) ≤ 34 := by omega
      clear f0 f1 f2 f3 hDw hD0 hD1 hk0 hk
      go_region_with (first
        | (go_at_call 188; refine (c_mul (Y / D) (lessR (34 - k) (2 * k + od) Y) L1.out L2.out _).mono ?_; clear q0 q1 q2 q3 u0 u1 u2 u3; rintro e w3 ⟨rfl, hb⟩; have HB := Lib.hid hb; clear hb; obtain ⟨q0, q1, q2, q3⟩ := (HQ.out.drew.below HB.out LB.out.2).cells)
        | (go_at_call 187; refine (c_sub (Y / D) (mulN (Y / D) (lessR (34 - k) (2 * k + od) Y)) L1.out L3.out _).mono ?_; clear q0 q1 q2 q3; rintro e w4 ⟨rfl, hc⟩; have HC := Lib.hid hc; clear hc; have HU4 := Lib.hid ((HU.out.drew.below HB.out LB.out.1).below HC.out (Nat.lt_of_lt_of_le LB.out.1 HB.out.size)); obtain ⟨f0, f1, f2, f3⟩ := HU4.out.free; obtain ⟨u0, u1, u2, u3⟩ := HU4.out.cells))
      all_goals
        go_wp2
        exact FIN.out _ _ HB.out HC.out
    · have hk' : k = 0 := by omega
      subst hk'
      obtain ⟨q0, q1, q2, q3⟩ := HRR.out.u.cells
      obtain ⟨y0, y1, y2, y3⟩ := HRR.out.r.cells
      obtain ⟨z0, z1, z2, z3⟩ := HRR.out.r.free
      have HB := Lib.hid HRR.out.below
      go_wp2
      refine bodyPost_ret (v := .agg #[.int .u64 (nl (lessR 34 od Y) 0), .int .u64 (nl (lessR 34 od Y) 1), .int .u64 (nl (lessR 34 od Y) 2), .int .u64 (nl (lessR 34 od Y) 3)]) (by simp [results, Tryz.results189, go_sem, y0, y1, y2, y3]) rfl ⟨rfl, ?_⟩
      have hb := HB.out
      go_grown
end Go.Proofs.YtlloiallkcfomaaGreat
