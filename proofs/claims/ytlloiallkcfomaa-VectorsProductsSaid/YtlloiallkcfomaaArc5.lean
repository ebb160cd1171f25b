/- The walk of package arctrig's circle. -/
import Derived.Test.YtlloiallkcfomaaArc4
set_option linter.unusedVariables false
set_option linter.unusedSimpArgs false
namespace Alm
theorem serI_range (R : Int) (F Y : Nat) (hY : Y ≤ QA) : ∀ (T s n : Nat) (mi : Bool), SerI R F Y s T n mi → ∃ S : Nat, R = (S : Int) ∧ S ≤ QA := by
  intro T
  induction T using Nat.strongRecOn with
  | _ T ih =>
    intro s n mi h
    by_cases hT : T = 0
    · subst hT
      obtain ⟨m, _, _, _, _, h1, h2, h3⟩ := id h
      refine ⟨s, serI_done h, ?_⟩
      cases mi <;> simp at h3 <;> omega
    · obtain ⟨_, hlt, h2⟩ := serI_next hY h (by omega)
      cases mi
      · simp only [Bool.false_eq_true, if_false] at h2; exact ih _ hlt _ _ _ h2.2
      · simp only [if_true] at h2; exact ih _ hlt _ _ _ h2.2
/-- the sum of a series, as a number -/
def serN (F Y n : Nat) : Nat := (serA 34 F Y n).toNat
theorem serN_eq (F Y n : Nat) (hF : F ≤ QA) (hY : Y ≤ QA) (hn : n ≤ 1) : (serN F Y n : Int) = serA 34 F Y n ∧ serN F Y n ≤ QA := by
  obtain ⟨S, h1, h2⟩ := serI_range _ F Y hY F F n true (serI_start F Y n hF hn)
  unfold serN; rw [h1]; exact ⟨by simp, by simpa using h2⟩
def sinN (k : Nat) : Nat := serN (radA k) (sqA k) 1
def cosN (k : Nat) : Nat := serN QA (sqA k) 0
theorem sinN_eq (k : Nat) (h : k ≤ 2700000) : (sinN k : Int) = sinA k ∧ sinN k ≤ QA :=
  serN_eq _ _ _ (Nat.le_of_lt (radA_lt k h)) (Nat.le_of_lt (sqA_near k h).1) (by omega)
theorem cosN_eq (k : Nat) (h : k ≤ 2700000) : (cosN k : Int) = cosA k ∧ cosN k ≤ QA :=
  serN_eq _ _ _ (Nat.le_refl _) (Nat.le_of_lt (sqA_near k h).1) (by omega)
/-- the sine and the cosine of an angle from 0 to a right one -/
def sN (k : Nat) : Nat := if k ≤ 2700000 then sinN k else cosN (5400000 - k)
def cN (k : Nat) : Nat := if k ≤ 2700000 then cosN k else sinN (5400000 - k)
theorem sN_le (k : Nat) (h : k ≤ 5400000) : sN k ≤ QA := by
  unfold sN; split
  · exact (sinN_eq k (by omega)).2
  · exact (cosN_eq _ (by omega)).2
theorem cN_le (k : Nat) (h : k ≤ 5400000) : cN k ≤ QA := by
  unfold cN; split
  · exact (cosN_eq k (by omega)).2
  · exact (sinN_eq _ (by omega)).2
end Alm
namespace Go.Proofs.Ytlloiallkcfomaa
open Go.RowKit Alm
theorem c_ser (F Y n : Nat) (w : World) (hF : F ≤ QA) (hY : Y ≤ QA) (hn : n ≤ 1) :
    Calls Try.prog 179 #[.agg #[.int .u64 (nl F 0), .int .u64 (nl F 1), .int .u64 (nl F 2), .int .u64 (nl F 3)], .agg #[.int .u64 (nl Y 0), .int .u64 (nl Y 1), .int .u64 (nl Y 2), .int .u64 (nl Y 3)], .int .u64 (n : Int)] w fun e w' =>
      e = .returned (.agg #[.int .u64 (nl (serN F Y n) 0), .int .u64 (nl (serN F Y n) 1), .int .u64 (nl (serN F Y n) 2), .int .u64 (nl (serN F Y n) 3)]) ∧ Below w.heap.size w w' := by
  refine (c_aseries F Y n w hF hY hn).mono ?_
  rintro e w' ⟨⟨S, h1, _, rfl⟩, hb⟩
  have : serN F Y n = S := by unfold serN; rw [← h1]; simp
  rw [this]; exact ⟨rfl, hb⟩

theorem undrew {w w' : World} (h : Below w.drew.heap.size w.drew w') : Below w.heap.size w w' := ⟨h.os, h.tape, h.output, h.size, h.block⟩

/-- a block of four cells -/
def F4 (w : World) (b : Nat) (x0 x1 x2 x3 : Value) : Prop :=
  (w.cell? ⟨b, 0, none⟩ = some x0 ∧ w.cell? ⟨b, 1, none⟩ = some x1 ∧ w.cell? ⟨b, 2, none⟩ = some x2 ∧ w.cell? ⟨b, 3, none⟩ = some x3) ∧
  (w.frozen? ⟨b, 0, none⟩ = false ∧ w.frozen? ⟨b, 1, none⟩ = false ∧ w.frozen? ⟨b, 2, none⟩ = false ∧ w.frozen? ⟨b, 3, none⟩ = false)
def W4 (w : World) (b : Nat) (x0 x1 x2 x3 : Value) : World := (((w.setCell ⟨b, 0, none⟩ x0).setCell ⟨b, 1, none⟩ x1).setCell ⟨b, 2, none⟩ x2).setCell ⟨b, 3, none⟩ x3
theorem F4.below {w wx : World} {b B : Nat} {x0 x1 x2 x3 : Value} (h : F4 w b x0 x1 x2 x3) (hb : Below B w wx) (hB : b < B) : F4 wx b x0 x1 x2 x3 := by
  obtain ⟨⟨a0, a1, a2, a3⟩, f0, f1, f2, f3⟩ := h
  exact ⟨⟨(hb.cell hB).trans a0, (hb.cell hB).trans a1, (hb.cell hB).trans a2, (hb.cell hB).trans a3⟩, (hb.frozen hB).trans f0, (hb.frozen hB).trans f1, (hb.frozen hB).trans f2, (hb.frozen hB).trans f3⟩
theorem F4.store {w : World} {b : Nat} {x0 x1 x2 x3 : Value} (h : F4 w b x0 x1 x2 x3) (y0 y1 y2 y3 : Value) : F4 (W4 w b y0 y1 y2 y3) b y0 y1 y2 y3 := by
  obtain ⟨⟨a0, a1, a2, a3⟩, f0, f1, f2, f3⟩ := h
  have sm : ∀ (w : World) (p : Nat) (v u : Value), w.cell? ⟨b, p, none⟩ = some u → (w.setCell ⟨b, p, none⟩ v).cell? ⟨b, p, none⟩ = some v := fun w p v u h => World.cell?_setCell_same _ _ _ h
  have ot : ∀ (w : World) (p q : Nat) (v : Value), p ≠ q → (w.setCell ⟨b, p, none⟩ v).cell? ⟨b, q, none⟩ = w.cell? ⟨b, q, none⟩ := fun w p q v h => World.cell?_setCell_other _ _ _ _ (by intro e; injection e with _ e; exact h e)
  unfold W4
  refine ⟨⟨?_, ?_, ?_, ?_⟩, ?_, ?_, ?_, ?_⟩
  · rw [ot _ _ _ _ (by omega), ot _ _ _ _ (by omega), ot _ _ _ _ (by omega)]; exact sm _ _ _ _ a0
  · rw [ot _ _ _ _ (by omega), ot _ _ _ _ (by omega)]; exact sm _ _ _ _ (by rw [ot _ _ _ _ (by omega)]; exact a1)
  · rw [ot _ _ _ _ (by omega)]; exact sm _ _ _ _ (by rw [ot _ _ _ _ (by omega), ot _ _ _ _ (by omega)]; exact a2)
  · exact sm _ _ _ _ (by rw [ot _ _ _ _ (by omega), ot _ _ _ _ (by omega), ot _ _ _ _ (by omega)]; exact a3)
  all_goals simp only [World.frozen?_setCell]; assumption
theorem F4.apart {w : World} {b b' : Nat} {x0 x1 x2 x3 : Value} (h : F4 w b x0 x1 x2 x3) (y0 y1 y2 y3 : Value) (hn : b' ≠ b) : F4 (W4 w b' y0 y1 y2 y3) b x0 x1 x2 x3 := by
  obtain ⟨⟨a0, a1, a2, a3⟩, f0, f1, f2, f3⟩ := h
  have ot : ∀ (w : World) (p q : Nat) (v : Value), (w.setCell ⟨b', p, none⟩ v).cell? ⟨b, q, none⟩ = w.cell? ⟨b, q, none⟩ := fun w p q v => World.cell?_setCell_other _ _ _ _ (by intro e; injection e with e; exact hn e)
  unfold W4
  refine ⟨⟨?_, ?_, ?_, ?_⟩, ?_, ?_, ?_, ?_⟩
  all_goals first | (simp only [World.frozen?_setCell]; assumption) | (rw [ot, ot, ot, ot]; assumption)
theorem w4_below {w0 w : World} {N b : Nat} (h : Below N w0 w) (x0 x1 x2 x3 : Value) (hb : N ≤ b) : Below N w0 (W4 w b x0 x1 x2 x3) :=
  (((h.setCell (p := ⟨b, 0, none⟩) hb _).setCell (p := ⟨b, 1, none⟩) hb _).setCell (p := ⟨b, 2, none⟩) hb _).setCell (p := ⟨b, 3, none⟩) hb _
theorem f4_new0 (w : World) (x0 x1 x2 x3 : Value) (T : TypeId) : F4 (w.alloc (.cells #[x0, x1, x2, x3] T)) w.heap.size x0 x1 x2 x3 := by
  refine ⟨⟨?_, ?_, ?_, ?_⟩, ?_, ?_, ?_, ?_⟩ <;> simp [go_sem]
theorem F4.drew {w : World} {b : Nat} {x0 x1 x2 x3 : Value} (h : F4 w b x0 x1 x2 x3) : F4 w.drew b x0 x1 x2 x3 := h

/-- the memory in circle: the two results, the angle, its square -/
structure CirW (w wr : World) (b4 b5 : Nat) (X0 X1 X2 X3 Y0 Y1 Y2 Y3 : Value) : Prop where
  below : Below w.heap.size w wr
  r0 : F4 wr w.heap.size (.int .u64 0) (.int .u64 0) (.int .u64 0) (.int .u64 0)
  r1 : F4 wr (w.heap.size + 1) (.int .u64 0) (.int .u64 0) (.int .u64 0) (.int .u64 0)
  t : F4 wr b4 X0 X1 X2 X3
  q : F4 wr b5 Y0 Y1 Y2 Y3
  l4 : b4 < wr.heap.size
  l5 : b5 < wr.heap.size
  lt : w.heap.size + 2 ≤ wr.heap.size
theorem CirW.next {w wr wx : World} {b4 b5 : Nat} {X0 X1 X2 X3 Y0 Y1 Y2 Y3 : Value} (h : CirW w wr b4 b5 X0 X1 X2 X3 Y0 Y1 Y2 Y3) (hb : Below wr.heap.size wr wx) : CirW w wx b4 b5 X0 X1 X2 X3 Y0 Y1 Y2 Y3 := by
  have hs := hb.size; have hl := h.lt; have h4 := h.l4; have h5 := h.l5
  exact ⟨h.below.trans (hb.mono (by omega)), h.r0.below hb (by omega), h.r1.below hb (by omega), h.t.below hb (by omega), h.q.below hb (by omega), by omega, by omega, by omega⟩
/-- the two results in memory -/
def Cir2 (w wr : World) : Prop := Below w.heap.size w wr ∧ w.heap.size + 2 ≤ wr.heap.size ∧ F4 wr w.heap.size (.int .u64 0) (.int .u64 0) (.int .u64 0) (.int .u64 0) ∧ F4 wr (w.heap.size + 1) (.int .u64 0) (.int .u64 0) (.int .u64 0) (.int .u64 0)
theorem Cir2.next {w wr wx : World} (h : Cir2 w wr) (hb : Below wr.heap.size wr wx) : Cir2 w wx := by
  obtain ⟨a, b, c, d⟩ := h
  have hs := hb.size
  exact ⟨a.trans (hb.mono (by omega)), by omega, c.below hb (by omega), d.below hb (by omega)⟩
theorem cir2_start (w : World) : Cir2 w ((w.alloc (.cells #[.int .u64 0, .int .u64 0, .int .u64 0, .int .u64 0] /-T-/ 171)).alloc (.cells #[.int .u64 0, .int .u64 0, .int .u64 0, .int .u64 0] /-T-/ 171)) := by
  refine ⟨((Below.refl _ _).alloc (Nat.le_refl _) _).alloc (by simp) _, by simp, (f4_new0 _ _ _ _ _ _).below (B := w.heap.size + 1) ((Below.refl _ _).alloc (by simp) _) (by omega), ?_⟩
  have := f4_new0 (w.alloc (.cells #[.int .u64 0, .int .u64 0, .int .u64 0, .int .u64 0] /-T-/ 171)) (.int .u64 0) (.int .u64 0) (.int .u64 0) (.int .u64 0) /-T-/ 171
  simpa using this
set_option maxRecDepth 100000 in
set_option maxHeartbeats 8000000 in
theorem circle_low' (k : Nat) (w : World) (X0 X1 X2 X3 Y0 Y1 Y2 Y3 S0 S1 S2 S3 C0 C1 C2 C3 P0 P1 P2 P3 K0 K1 K2 K3 : Int) (hk0 : 0 ≤ (k : Int)) (hk1 : (k : Int) ≤ 2700000)
    (CP : Hid (∀ w, Calls Try.prog 176 #[] w fun e w' => e = .returned (.agg #[.int .u64 P0, .int .u64 P1, .int .u64 P2, .int .u64 P3]) ∧ Below w.heap.size w w'))
    (CT : Hid (∀ w, Calls Try.prog 167 #[.agg #[.int .u64 P0, .int .u64 P1, .int .u64 P2, .int .u64 P3], .int .u64 (k : Int)] w fun e w' => e = .returned (.agg #[.int .u64 K0, .int .u64 K1, .int .u64 K2, .int .u64 K3]) ∧ Below w.heap.size w w'))
    (CO : Hid (∀ w, Calls Try.prog 177 #[.agg #[.int .u64 K0, .int .u64 K1, .int .u64 K2, .int .u64 K3], .int .u64 10800000] w fun e w' => e = .returned (.agg #[.int .u64 X0, .int .u64 X1, .int .u64 X2, .int .u64 X3]) ∧ Below w.heap.size w w'))
    (CM : Hid (∀ w, Calls Try.prog 178 #[.agg #[.int .u64 X0, .int .u64 X1, .int .u64 X2, .int .u64 X3], .agg #[.int .u64 X0, .int .u64 X1, .int .u64 X2, .int .u64 X3]] w fun e w' => e = .returned (.agg #[.int .u64 Y0, .int .u64 Y1, .int .u64 Y2, .int .u64 Y3]) ∧ Below w.heap.size w w'))
    (CS : Hid (∀ w, Calls Try.prog 179 #[.agg #[.int .u64 X0, .int .u64 X1, .int .u64 X2, .int .u64 X3], .agg #[.int .u64 Y0, .int .u64 Y1, .int .u64 Y2, .int .u64 Y3], .int .u64 1] w fun e w' => e = .returned (.agg #[.int .u64 S0, .int .u64 S1, .int .u64 S2, .int .u64 S3]) ∧ Below w.heap.size w w'))
    (CC : Hid (∀ w, Calls Try.prog 179 #[.agg #[.int .u64 1, .int .u64 0, .int .u64 0, .int .u64 0], .agg #[.int .u64 Y0, .int .u64 Y1, .int .u64 Y2, .int .u64 Y3], .int .u64 0] w fun e w' => e = .returned (.agg #[.int .u64 C0, .int .u64 C1, .int .u64 C2, .int .u64 C3]) ∧ Below w.heap.size w w')) :
    Calls Try.prog 166 #[.int .i64 (k : Int)] w fun e w' => e = .returned (.tuple #[.agg #[.int .u64 S0, .int .u64 S1, .int .u64 S2, .int .u64 S3], .agg #[.int .u64 C0, .int .u64 C1, .int .u64 C2, .int .u64 C3]]) ∧ Below w.heap.size w w' := by
  have H0 := Lib.hid (cir2_start w)
  go_enter Try.func166, Try.ntmps166
  go_wp2_with fail
  refine (CP.out _).mono ?_
  rintro e w1 ⟨rfl, hb1⟩
  have H1 := Lib.hid (H0.out.next hb1); clear hb1 H0
  go_wp2_with fail
  refine (CT.out _).mono ?_
  rintro e w2 ⟨rfl, hb2⟩
  have H2 := Lib.hid (H1.out.next hb2); clear hb2 H1
  go_wp2_with fail
  refine (CO.out _).mono ?_
  rintro e w3 ⟨rfl, hb3⟩
  have H3 := Lib.hid (H2.out.next hb3); clear hb3 H2
  go_wp2_with fail
  refine (CM.out _).mono ?_
  rintro e w4 ⟨rfl, hb4⟩
  have H4 : Hid (CirW w (w4.alloc (.cells #[.int .u64 Y0, .int .u64 Y1, .int .u64 Y2, .int .u64 Y3] /-T-/ 171)) w3.heap.size w4.heap.size (.int .u64 X0) (.int .u64 X1) (.int .u64 X2) (.int .u64 X3) (.int .u64 Y0) (.int .u64 Y1) (.int .u64 Y2) (.int .u64 Y3)) := by
    have hb4 : Below (w3.alloc (.cells #[.int .u64 X0, .int .u64 X1, .int .u64 X2, .int .u64 X3] /-T-/ 171)).heap.size (w3.alloc (.cells #[.int .u64 X0, .int .u64 X1, .int .u64 X2, .int .u64 X3] /-T-/ 171)) w4 := hb4
    have hs := hb4.size
    have hz : (w3.alloc (.cells #[.int .u64 X0, .int .u64 X1, .int .u64 X2, .int .u64 X3] /-T-/ 171)).heap.size = w3.heap.size + 1 := by simp
    have hn := f4_new0 w3 (.int .u64 X0) (.int .u64 X1) (.int .u64 X2) (.int .u64 X3) /-T-/ 171
    have hal : Below w3.heap.size w3 (w3.alloc (.cells #[.int .u64 X0, .int .u64 X1, .int .u64 X2, .int .u64 X3] /-T-/ 171)) := (Below.refl _ _).alloc (Nat.le_refl _) _
    have hal4 : Below w4.heap.size w4 (w4.alloc (.cells #[.int .u64 Y0, .int .u64 Y1, .int .u64 Y2, .int .u64 Y3] /-T-/ 171)) := (Below.refl _ _).alloc (Nat.le_refl _) _
    obtain ⟨a, b, c, d⟩ := ((H3.out.next hal).next hb4).next hal4
    rw [hz] at hs
    exact ⟨a, c, d, (hn.below hb4 (by rw [hz]; omega)).below hal4 (by omega), f4_new0 _ _ _ _ _ _, by simp; omega, by simp, b⟩
  clear hb4 H3
  go_wp2
  generalize (w4.alloc (.cells #[.int .u64 Y0, .int .u64 Y1, .int .u64 Y2, .int .u64 Y3] /-T-/ 171)) = wq at *
  generalize w3.heap.size = b4 at *
  generalize w4.heap.size = b5 at *
  obtain ⟨⟨x0, x1, x2, x3⟩, _⟩ := H4.out.t
  obtain ⟨⟨y0, y1, y2, y3⟩, _⟩ := H4.out.q
  clear CP CT CO CM hk0 hk1
  go_region_with (first
    | ((go_at_call 179; with_reducible refine (CS.out _).mono ?_); rintro e w5 ⟨rfl, hb⟩; replace H4 := Lib.hid (H4.out.next (by first | exact hb | exact undrew hb)); clear hb x0 x1 x2 x3 y0 y1 y2 y3 CS; obtain ⟨⟨x0, x1, x2, x3⟩, _⟩ := H4.out.t; obtain ⟨⟨y0, y1, y2, y3⟩, _⟩ := H4.out.q)
    | ((go_at_call 179; with_reducible refine (CC.out _).mono ?_); rintro e w5 ⟨rfl, hb⟩; replace H4 := Lib.hid (H4.out.next (by first | exact hb | exact undrew hb)); clear hb x0 x1 x2 x3 y0 y1 y2 y3 CC; obtain ⟨⟨m0, m1, m2, m3⟩, f0, f1, f2, f3⟩ := H4.out.r0; obtain ⟨⟨n0, n1, n2, n3⟩, g0, g1, g2, g3⟩ := H4.out.r1))
  all_goals
    go_wp2
    refine bodyPost_ret (v := .tuple #[.agg #[.int .u64 S0, .int .u64 S1, .int .u64 S2, .int .u64 S3], .agg #[.int .u64 C0, .int .u64 C1, .int .u64 C2, .int .u64 C3]]) (by simp [results, Try.results166, go_sem, m0, m1, m2, m3, n0, n1, n2, n3]) rfl ⟨rfl, ?_⟩
    have hb := H4.out.below
    go_grown
theorem circle_low (k : Nat) (w : World) (hk : k ≤ 2700000) :
    Calls Try.prog 166 #[.int .i64 (k : Int)] w fun e w' => e = .returned (.tuple #[.agg #[.int .u64 (nl (sinN k) 0), .int .u64 (nl (sinN k) 1), .int .u64 (nl (sinN k) 2), .int .u64 (nl (sinN k) 3)], .agg #[.int .u64 (nl (cosN k) 0), .int .u64 (nl (cosN k) 1), .int .u64 (nl (cosN k) 2), .int .u64 (nl (cosN k) 3)]]) ∧ Below w.heap.size w w' := by
  have hW := QA_W
  have hr := radA_lt k hk
  have hq := (sqA_near k hk).1
  have hPk : PiA * k < W := by
    have h1 : PiA * k ≤ PiA * 2700000 := Nat.mul_le_mul_left _ hk
    have h2 : PiA * 2700000 < W := by unfold PiA W; decide +kernel
    omega
  have CT := fun w => c_atimes PiA (k : Int) PiA_lt (by unfold U64; omega) (by rw [Int.toNat_natCast]; exact hPk) w
  rw [Int.toNat_natCast] at CT
  have CO := fun w => c_aover (PiA * k) 10800000 hPk (by unfold U64; omega) (by omega) w
  have eO : PiA * k / (10800000 : Int).toNat = radA k := by unfold radA; rw [Nat.mul_comm]; rfl
  rw [eO] at CO
  have CM := fun w => c_amul (radA k) (radA k) (by omega) (by omega) (by
    have h1 := Nat.mul_le_mul (Nat.le_of_lt hr) (Nat.le_of_lt hr)
    have h2 : QA * QA < 2^448 := by rw [QA_val]; decide +kernel
    omega) w
  have eM : mulA (radA k) (radA k) = sqA k := rfl
  rw [eM] at CM
  have CS := fun w => c_ser (radA k) (sqA k) 1 w (Nat.le_of_lt hr) (Nat.le_of_lt hq) (by omega)
  have CC := fun w => c_ser QA (sqA k) 0 w (Nat.le_refl _) (Nat.le_of_lt hq) (by omega)
  have eQ : nl QA 0 = 1 ∧ nl QA 1 = 0 ∧ nl QA 2 = 0 ∧ nl QA 3 = 0 := by unfold nl; rw [QA_val]; decide +kernel
  rw [eQ.1, eQ.2.1, eQ.2.2.1, eQ.2.2.2] at CC
  have eS : serN (radA k) (sqA k) 1 = sinN k := rfl
  have eC : serN QA (sqA k) 0 = cosN k := rfl
  rw [eS, show ((1 : Nat) : Int) = 1 from rfl] at CS; rw [eC, show ((0 : Nat) : Int) = 0 from rfl] at CC
  exact circle_low' k w _ _ _ _ _ _ _ _ _ _ _ _ _ _ _ _ _ _ _ _ _ _ _ _ (by omega) (by omega) (Lib.hid c_api) (Lib.hid CT) (Lib.hid CO) (Lib.hid CM) (Lib.hid CS) (Lib.hid CC)
end Go.Proofs.Ytlloiallkcfomaa
