/- The walk of the angle of a point. -/
import Derived.Test.YtlloiallkcfomaaGreatArc6
import Derived.Deep.Light
set_option linter.unusedVariables false
set_option linter.unusedSimpArgs false
namespace Alm
/-- whether the way from a point to another one goes to greater angles, or nowhere -/
def befB (px py qx qy : Int) : Bool := decide (py * qx ≤ px * qy)
/-- a point turned back into the first quarter; by how much -/
def qX (x y : Int) : Int := if 0 < x ∧ 0 ≤ y then x else if 0 < y then y else if x < 0 then -x else -y
def qY (x y : Int) : Int := if 0 < x ∧ 0 ≤ y then y else if 0 < y then -x else if x < 0 then -y else x
def qT (x y : Int) : Int := if 0 < x ∧ 0 ≤ y then 0 else if 0 < y then 5400000 else if x < 0 then 10800000 else 16200000
theorem q_turn (x y : Int) (h : ¬ (0 < x ∧ 0 ≤ y)) (h0 : ¬ (x = 0 ∧ y = 0)) : qX y (-x) = qX x y ∧ qY y (-x) = qY x y ∧ qT y (-x) + 5400000 = qT x y := by
  unfold qX qY qT
  refine ⟨?_, ?_, ?_⟩ <;> (repeat' split) <;> omega
theorem qT_bd (x y : Int) : 0 ≤ qT x y ∧ qT x y ≤ 16200000 ∧ (¬ (0 < x ∧ 0 ≤ y) → 5400000 ≤ qT x y) := by
  unfold qT; (repeat' split) <;> omega
theorem q_in (x y : Int) (h : 0 < x ∧ 0 ≤ y) : qX x y = x ∧ qY x y = y ∧ qT x y = 0 := by
  unfold qX qY qT; simp [h]
theorem q_bd (x y M : Int) (h0 : ¬ (x = 0 ∧ y = 0)) (hx : -M ≤ x ∧ x ≤ M) (hy : -M ≤ y ∧ y ≤ M) : 0 < qX x y ∧ qX x y ≤ M ∧ 0 ≤ qY x y ∧ qY x y ≤ M := by
  unfold qX qY; (repeat' split) <;> omega
/-- the search -/
def angS (x y : Int) : Nat → Nat → Nat → Nat
  | 0, lo, _ => lo
  | f + 1, lo, hi => if lo + 1 < hi then (if reachB x y ((lo + hi) / 2) then angS x y f ((lo + hi) / 2) hi else angS x y f lo ((lo + hi) / 2)) else lo
theorem angS_succ (x y : Int) (f lo hi : Nat) : angS x y (f + 1) lo hi = if lo + 1 < hi then (if reachB x y ((lo + hi) / 2) then angS x y f ((lo + hi) / 2) hi else angS x y f lo ((lo + hi) / 2)) else lo := rfl
theorem angS_end (x y : Int) (f lo hi : Nat) (h : ¬ lo + 1 < hi) : angS x y f lo hi = lo := by
  cases f with
  | zero => rfl
  | succ f => simp only [angS]; rw [if_neg h]
theorem angS_bd (x y : Int) (f lo hi : Nat) (h : lo < hi) : lo ≤ angS x y f lo hi ∧ angS x y f lo hi < hi := by
  induction f generalizing lo hi with
  | zero => simp [angS]; exact h
  | succ f ih =>
    simp only [angS]
    split
    · split
      · have := ih ((lo + hi) / 2) hi (by omega); omega
      · have := ih lo ((lo + hi) / 2) (by omega); omega
    · omega
def angL (x y : Int) : Nat := angS (qX x y) (qY x y) 23 0 5400000
/-- the angle of a point, rounded down; whether it is exact -/
def angV (x y : Int) : Int := qT x y + (angL x y : Int)
def angE (x y : Int) : Bool := (decide (angL x y = 0) && decide (qY x y = 0)) || (decide (angL x y = 2700000) && decide (qX x y = qY x y))
/-- what holds in the search -/
def AngI (X Y : Int) (lo hi : Nat) : Prop := lo < hi ∧ hi ≤ 5400000 ∧ ∃ f, hi - lo ≤ 2^f ∧ angS X Y f lo hi = angS X Y 23 0 5400000
theorem angI_start (X Y : Int) : AngI X Y 0 5400000 := ⟨by omega, by omega, 23, by omega, rfl⟩
theorem angI_next {X Y : Int} {lo hi : Nat} (h : AngI X Y lo hi) (h1 : lo + 1 < hi) : if reachB X Y ((lo + hi) / 2) then AngI X Y ((lo + hi) / 2) hi else AngI X Y lo ((lo + hi) / 2) := by
  obtain ⟨a, b, f, hf, he⟩ := h
  cases f with
  | zero => simp at hf; omega
  | succ f =>
    rw [Nat.pow_succ] at hf
    rw [angS_succ X Y f lo hi, if_pos h1] at he
    cases hr : reachB X Y ((lo + hi) / 2)
    · rw [hr] at he
      simp only [Bool.false_eq_true, if_false] at he ⊢
      exact ⟨by omega, by omega, f, by omega, he⟩
    · rw [hr] at he
      simp only [if_true] at he ⊢
      exact ⟨by omega, by omega, f, by omega, he⟩
theorem angI_done {X Y : Int} {lo hi : Nat} (h : AngI X Y lo hi) (h1 : ¬ lo + 1 < hi) : angS X Y 23 0 5400000 = lo := by
  obtain ⟨a, b, f, hf, he⟩ := h
  rw [← he]; exact angS_end X Y f lo hi h1
/-- what holds while the point is turned -/
def TurnI (x y x' y' t : Int) : Prop := qX x' y' = qX x y ∧ qY x' y' = qY x y ∧ t + qT x' y' = qT x y ∧ ¬ (x' = 0 ∧ y' = 0) ∧ (-4294967296 ≤ x' ∧ x' ≤ 4294967296) ∧ (-4294967296 ≤ y' ∧ y' ≤ 4294967296) ∧ 0 ≤ t
theorem turnI_next {x y x' y' t : Int} (h : TurnI x y x' y' t) (hn : ¬ (0 < x' ∧ 0 ≤ y')) : TurnI x y y' (-x') (t + 5400000) ∧ t ≤ 10800000 := by
  obtain ⟨a, b, c, d, e, f, g⟩ := h
  obtain ⟨q1, q2, q3⟩ := q_turn x' y' hn d
  have q4 := qT_bd x' y'
  have q5 := qT_bd x y
  exact ⟨⟨q1.trans a, q2.trans b, by omega, by omega, by omega, by omega, by omega⟩, by have := q4.2.2 hn; omega⟩
end Alm
namespace Go.Proofs.YtlloiallkcfomaaGreat
open Go.RowKit Alm
theorem mul_bdI (x y A B : Int) (hx : -A ≤ x ∧ x ≤ A) (hy : -B ≤ y ∧ y ≤ B) : -(A * B) ≤ x * y ∧ x * y ≤ A * B := by
  have k1 := Int.mul_nonneg (show 0 ≤ A - x by omega) (show 0 ≤ B + y by omega)
  have k2 := Int.mul_nonneg (show 0 ≤ A + x by omega) (show 0 ≤ B - y by omega)
  have k3 := Int.mul_nonneg (show 0 ≤ A - x by omega) (show 0 ≤ B - y by omega)
  have k4 := Int.mul_nonneg (show 0 ≤ A + x by omega) (show 0 ≤ B + y by omega)
  constructor <;> grind
set_option maxRecDepth 100000 in
theorem c_before (px py qx qy : Int) (w : World) (hp : (-2147483648 ≤ px ∧ px ≤ 2147483648) ∧ (-2147483648 ≤ py ∧ py ≤ 2147483648)) (hq : (-2147483648 ≤ qx ∧ qx ≤ 2147483648) ∧ (-2147483648 ≤ qy ∧ qy ≤ 2147483648)) :
    Calls Tryz.prog 133 #[.agg #[.int .i64 px, .int .i64 py], .agg #[.int .i64 qx, .int .i64 qy]] w fun e w' => e = .returned (.bool (befB px py qx qy)) ∧ Below w.heap.size w w' := by
  have m1 := mul_bdI px qy 2147483648 2147483648 hp.1 hq.2
  have m2 := mul_bdI py qx 2147483648 2147483648 hp.2 hq.1
  obtain ⟨a1, a2⟩ := m1
  obtain ⟨a3, a4⟩ := m2
  unfold befB
  clear hp hq
  go_enter Tryz.func133, Tryz.ntmps133
  go_wp2
  go_ret
  exact ⟨rfl, by go_grown⟩
/-- the memory in angle -/
def AngW (w : World) (X Y : Int) (wr : World) : Prop := KS w wr [(w.heap.size, /-T-/ 141, #[.int .i64 X, .int .i64 Y])]
set_option maxRecDepth 100000 in
set_option maxHeartbeats 8000000 in
theorem c_angle (x y : Int) (w : World) (hx : -4294967296 ≤ x ∧ x ≤ 4294967296) (hy : -4294967296 ≤ y ∧ y ≤ 4294967296) (h0 : ¬ (x = 0 ∧ y = 0)) :
    Calls Tryz.prog 134 #[.agg #[.int .i64 x, .int .i64 y]] w fun e w' => e = .returned (.tuple #[.int .i64 (angV x y), .bool (angE x y)]) ∧ Below w.heap.size w w' := by
  have T0 : Hid (TurnI x y x y 0) := ⟨rfl, rfl, by omega, h0, hx, hy, by omega⟩
  have QB := Lib.hid (q_bd x y 4294967296 h0 hx hy)
  have QT := Lib.hid (qT_bd x y)
  have K0 : Hid (AngW w x y (w.alloc (.cells #[.int .i64 x, .int .i64 y] /-T-/ 141))) := (ks_start w).new w.heap.size rfl /-T-/ 141 #[.int .i64 x, .int .i64 y]
  clear h0 hx hy
  go_enter Tryz.func134, Tryz.ntmps134
  go_wp2
  go_loopw [4] (fun v4 wr => ∃ x' y' t, v4 = .int .i64 t ∧ TurnI x y x' y' t ∧ AngW w x' y' wr) (fun v4 _ => (16200000 - intOf v4).toNat)
  case atStart => exact ⟨x, y, 0, rfl, T0.out, K0.out⟩
  case round =>
    obtain ⟨x', y', t, rfl, hT, hK⟩ := hrel
    have HT := Lib.hid hT; have HK := Lib.hid hK; clear hT hK K0 T0
    have p0 := HK.out.c (g := w.heap.size) (t := /-T-/ 141) (cs := #[.int .i64 x', .int .i64 y']) (by simp) (i := 0) rfl
    have p1 := HK.out.c (g := w.heap.size) (t := /-T-/ 141) (cs := #[.int .i64 x', .int .i64 y']) (by simp) (i := 1) rfl
    by_cases hin : 0 < x' ∧ 0 ≤ y'
    · obtain ⟨hi1, hi2⟩ := hin
      obtain ⟨qa, qb, qc⟩ := q_in x' y' ⟨hi1, hi2⟩
      have E : Hid (x' = qX x y ∧ y' = qY x y ∧ t = qT x y) := by
        obtain ⟨a, b, c, _⟩ := HT.out; exact ⟨by rw [← a, qa], by rw [← b, qb], by omega⟩
      have HX : Hid (0 ≤ x' ∧ x' ≤ 4294967296) := by have := HT.out.2.2.2.2.1; exact ⟨by omega, by omega⟩
      have HY : Hid (0 ≤ y' ∧ y' ≤ 4294967296) := by have := HT.out.2.2.2.2.2.1; exact ⟨by omega, by omega⟩
      have ht0 : 0 ≤ t := HT.out.2.2.2.2.2.2
      have ht1 : t ≤ 16200000 := by have := QT.out; have := E.out; omega
      clear qa qb qc HT
      go_wp2
      clear p0 p1
      go_loopw [5, 6] (fun v5 v6 wr => ∃ lo hi : Nat, v5 = .int .i64 (lo : Int) ∧ v6 = .int .i64 (hi : Int) ∧ AngI x' y' lo hi ∧ AngW w x' y' wr) (fun v5 v6 _ => (intOf v6 - intOf v5).toNat)
      case atStart => exact ⟨0, 5400000, rfl, rfl, angI_start x' y', HK.out⟩
      case round =>
        obtain ⟨lo, hi, rfl, rfl, hI, hK⟩ := hrel
        have HI := Lib.hid hI; have HK2 := Lib.hid hK; clear hI hK HK
        have b1 : lo < hi := HI.out.1
        have b2 : hi ≤ 5400000 := HI.out.2.1
        have c1 : (lo : Int) < (hi : Int) := by omega
        have c2 : (hi : Int) ≤ 5400000 := by omega
        have p0 := HK2.out.c (g := w.heap.size) (t := /-T-/ 141) (cs := #[.int .i64 x', .int .i64 y']) (by simp) (i := 0) rfl
        have p1 := HK2.out.c (g := w.heap.size) (t := /-T-/ 141) (cs := #[.int .i64 x', .int .i64 y']) (by simp) (i := 1) rfl
        by_cases hgo : lo + 1 < hi
        · have NX := Lib.hid (angI_next HI.out hgo)
          have CR := fun w => c_reachesA x' y' ((lo + hi) / 2) w HX.out HY.out (by omega)
          have em : (((lo + hi) / 2 : Nat) : Int) = ((lo : Int) + (hi : Int)) / 2 := by omega
          have hm1 : Hid (lo < (lo + hi) / 2 ∧ (lo + hi) / 2 < hi) := ⟨by omega, by omega⟩
          have hgo' : 1 < (hi : Int) - (lo : Int) := by omega
          clear HI hgo
          cases hr : reachB x' y' ((lo + hi) / 2)
          · rw [hr] at CR NX
            rw [em] at CR
            replace CR := Lib.hid CR
            have EM := Lib.hid em; clear em hr
            go_wp2_with fail
            refine (CR.out _).mono ?_
            rintro e w1 ⟨rfl, hb⟩
            have HK3 : Hid (AngW w x' y' w1) := HK2.out.below hb
            clear hb p0 p1 HK2 CR
            go_wp2
            go_light
            exact ⟨⟨lo, (lo + hi) / 2, rfl, by rw [EM.out], by have := NX.out; simpa using this, HK3.out⟩, by simp only [intOf]; have := hm1.out; omega⟩
          · rw [hr] at CR NX
            rw [em] at CR
            replace CR := Lib.hid CR
            have EM := Lib.hid em; clear em hr
            go_wp2_with fail
            refine (CR.out _).mono ?_
            rintro e w1 ⟨rfl, hb⟩
            have HK3 : Hid (AngW w x' y' w1) := HK2.out.below hb
            clear hb p0 p1 HK2 CR
            go_wp2
            go_light
            exact ⟨⟨(lo + hi) / 2, hi, by rw [EM.out], rfl, by have := NX.out; simpa using this, HK3.out⟩, by simp only [intOf]; have := hm1.out; omega⟩
        · have hgo' : ¬ 1 < (hi : Int) - (lo : Int) := by omega
          have hA : angL x y = lo := by
            unfold angL; rw [← E.out.1, ← E.out.2.1]; exact angI_done HI.out hgo
          have V : Hid (angV x y = t + (lo : Int)) := by unfold angV; rw [hA, ← E.out.2.2]; exact rfl
          have VE : Hid (angE x y = ((decide (lo = 0) && decide (y' = 0)) || (decide (lo = 2700000) && decide (x' = y')))) := by unfold angE; rw [hA, ← E.out.1, ← E.out.2.1]; exact rfl
          have HB := Lib.hid HK2.out.1
          clear HI hgo hA E HX HY QB QT HK2 b1 b2
          by_cases l0 : lo = 0
          · subst l0
            by_cases y0 : y' = 0
            · subst y0
              go_wp2
              go_quiet (fail)
              go_wp2
              go_ret2
              exact ⟨by rw [V.out, VE.out]; simp, below_drewN HB.out _⟩
            · have hd1 : (y' == 0) = false := by simpa using y0
              have hd2 : decide (y' = 0) = false := by simpa using y0
              go_wp2
              go_quiet (fail)
              go_wp2
              go_ret2
              exact ⟨by rw [V.out, VE.out]; simp [y0], below_drewN HB.out _⟩
          · have hd1 : ((lo : Int) == 0) = false := by simpa using l0
            have hd2 : decide ((lo : Int) = 0) = false := by simpa using l0
            by_cases l1 : lo = 2700000
            · subst l1
              by_cases y0 : x' = y'
              · subst y0
                go_wp2
                go_quiet (fail)
                go_wp2
                go_ret2
                exact ⟨by rw [V.out, VE.out]; simp, below_drewN HB.out _⟩
              · have hd3 : (x' == y') = false := by simpa using y0
                have hd4 : decide (x' = y') = false := by simpa using y0
                go_wp2
                go_quiet (fail)
                go_wp2
                go_ret2
                exact ⟨by rw [V.out, VE.out]; simp [y0], below_drewN HB.out _⟩
            · have hd3 : ((lo : Int) == 2700000) = false := by simp; omega
              have hd4 : decide ((lo : Int) = 2700000) = false := by simp; omega
              go_wp2
              go_quiet (fail)
              go_wp2
              go_ret2
              exact ⟨by rw [V.out, VE.out]; simp [l0, l1], below_drewN HB.out _⟩
    · obtain ⟨NT, ht1⟩ := turnI_next HT.out hin
      have NT := Lib.hid NT
      have ht0 : 0 ≤ t := HT.out.2.2.2.2.2.2
      have hx1 : -4294967296 ≤ x' := HT.out.2.2.2.2.1.1
      have hx2 : x' ≤ 4294967296 := HT.out.2.2.2.2.1.2
      have f0 := HK.out.f (g := w.heap.size) (t := /-T-/ 141) (cs := #[.int .i64 x', .int .i64 y']) (by simp) 0
      have f1 := HK.out.f (g := w.heap.size) (t := /-T-/ 141) (cs := #[.int .i64 x', .int .i64 y']) (by simp) 1
      have HK3 : Hid (AngW w y' (-x') ((wr.setCell ⟨w.heap.size, 0, none⟩ (.int .i64 y')).setCell ⟨w.heap.size, 1, none⟩ (.int .i64 (-x')))) :=
        (HK.out.set (Nat.le_refl _) (by simp) 0 (.int .i64 y')).set (Nat.le_refl _) (by simp) 1 (.int .i64 (-x'))
      clear HT HK
      by_cases hx0 : 0 < x'
      · have hy0 : ¬ 0 ≤ y' := by omega
        clear hin
        go_wp2
        go_light
        exact ⟨⟨y', -x', t + 5400000, rfl, NT.out, HK3.out⟩, by simp only [intOf]; omega⟩
      · clear hin
        go_wp2
        go_light
        exact ⟨⟨y', -x', t + 5400000, rfl, NT.out, HK3.out⟩, by simp only [intOf]; omega⟩
end Go.Proofs.YtlloiallkcfomaaGreat
