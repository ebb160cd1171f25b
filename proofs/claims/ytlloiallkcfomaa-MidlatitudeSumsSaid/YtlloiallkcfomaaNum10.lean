/- Plain numbers: the sines of all angles are far from the multiples of 2^-30 (second part). -/
import Derived.Test.YtlloiallkcfomaaNum9
set_option linter.unusedVariables false
namespace Alm
/-- 2^-30 -/
def u30 : Rat := 1 / ((2^30 : Int) : Rat)
/-- 3 * 2^-54 -/
def mg : Rat := 3 / ((2^54 : Int) : Rat)
/-- a number is between q and q + 1 times 2^-30, and not near to them -/
def FlR (s : Rat) (q : Int) : Prop := q * u30 + mg ≤ s ∧ s ≤ (q + 1) * u30 - mg
theorem far_q (X : Nat) (h : Far X) : ∃ q : Nat, q * 2^162 + 2^140 ≤ X ∧ X + 2^140 ≤ (q + 1) * 2^162 := by
  unfold Far tolP at h
  refine ⟨(X + 2^140) / 2^162, ?_, ?_⟩ <;> omega
theorem v162 : ((2^162 : Nat) : Rat) * (e96 * e96) = u30 := by unfold e96 u30; decide +kernel
theorem v140 : ((2^140 : Nat) : Rat) * (e96 * e96) = 4 / ((2^54 : Int) : Rat) := by unfold e96; decide +kernel
theorem v96 : 262144 * e96 ≤ 1 / ((2^54 : Int) : Rat) := by unfold e96; decide +kernel
theorem fl_of_far (X : Nat) (s : Rat) (h : Far X) (h1 : -(262144 * e96) ≤ X * (e96 * e96) - s) (h2 : X * (e96 * e96) - s ≤ 262144 * e96) : ∃ q : Nat, FlR s q := by
  obtain ⟨q, a, b⟩ := far_q X h
  refine ⟨q, ?_⟩
  have g1 : ((q * 2^162 + 2^140 : Nat) : Rat) ≤ (X : Rat) := natR_le _ _ a
  have g2 : ((X + 2^140 : Nat) : Rat) ≤ (((q + 1) * 2^162 : Nat) : Rat) := natR_le _ _ b
  rw [Rat.natCast_add, Rat.natCast_mul] at g1
  rw [Rat.natCast_add, Rat.natCast_mul] at g2
  have hpp : 0 ≤ e96 * e96 := sq_nonneg _
  have k1 := Rat.mul_le_mul_of_nonneg_right g1 hpp
  have k2 := Rat.mul_le_mul_of_nonneg_right g2 hpp
  have a1 := v162; have a2 := v140; have a3 := v96
  have e1 : ((q + 1 : Nat) : Rat) = (q : Rat) + 1 := by rw [Rat.natCast_add]; rfl
  have e2 : (((q : Nat) : Int) : Rat) = (q : Rat) := rfl
  rw [e1] at k2
  unfold FlR mg
  rw [e2]
  have q3 : (3 : Rat) / ((2^54 : Int) : Rat) = 3 * (1 / ((2^54 : Int) : Rat)) := by decide +kernel
  have q4 : (4 : Rat) / ((2^54 : Int) : Rat) = 4 * (1 / ((2^54 : Int) : Rat)) := by decide +kernel
  rw [q3]; rw [q4] at a2
  generalize (1 : Rat) / ((2^54 : Int) : Rat) = m at *
  generalize ((2^162 : Nat) : Rat) = A at *
  generalize ((2^140 : Nat) : Rat) = B at *
  generalize (X : Rat) = x at *
  generalize (q : Rat) = r at *
  generalize e96 * e96 = D at *
  have f1 : (r * A + B) * D = r * (A * D) + B * D := by grind
  have f2 : (r + 1) * A * D = (r + 1) * (A * D) := by grind
  have f3 : (x + B) * D = x * D + B * D := by grind
  rw [f1, a1, a2] at k1
  rw [f2, f3, a1, a2] at k2
  constructor <;> grind

/-- products of pairs that are near -/
theorem prod_near (P x : Nat × Nat) (M j : Nat) (hP : NearP P M (50000 * e96)) (hx : NearP x j (50000 * e96)) (hs : P.2 * x.2 ≤ P.1 * x.1) :
    (-(262144 * e96) ≤ ((P.2 * x.1 + P.1 * x.2 : Nat) : Rat) * (e96 * e96) - zs (M + j) ∧ ((P.2 * x.1 + P.1 * x.2 : Nat) : Rat) * (e96 * e96) - zs (M + j) ≤ 262144 * e96) ∧
    (-(262144 * e96) ≤ ((P.1 * x.1 - P.2 * x.2 : Nat) : Rat) * (e96 * e96) - zc (M + j) ∧ ((P.1 * x.1 - P.2 * x.2 : Nat) : Rat) * (e96 * e96) - zc (M + j) ≤ 262144 * e96) := by
  obtain ⟨⟨a1, a2⟩, ⟨b1, b2⟩⟩ := hP
  obtain ⟨⟨c1, c2⟩, ⟨d1, d2⟩⟩ := hx
  obtain ⟨za1, za2⟩ := zadd M j
  rw [natR_sub _ _ hs]
  simp only [Rat.natCast_add, Rat.natCast_mul]
  rw [za1, za2]
  have hp := e96_pos; have hes := e96_small
  have zr := zc_le j; have zr2 := zs_le j; have zn := zc_le M; have zn2 := zs_le M
  generalize (P.1 : Rat) = p1 at *
  generalize (P.2 : Rat) = p2 at *
  generalize (x.1 : Rat) = x1 at *
  generalize (x.2 : Rat) = x2 at *
  generalize zc M = u at *
  generalize zs M = v at *
  generalize zc j = k at *
  generalize zs j = l at *
  generalize e96 = d at *
  obtain ⟨A, hA⟩ : ∃ A, A = p1 * d - u := ⟨_, rfl⟩
  obtain ⟨B, hB⟩ : ∃ B, B = p2 * d - v := ⟨_, rfl⟩
  obtain ⟨G, hG⟩ : ∃ G, G = x1 * d - k := ⟨_, rfl⟩
  obtain ⟨H, hH⟩ : ∃ H, H = x2 * d - l := ⟨_, rfl⟩
  rw [← hA] at a1 a2; rw [← hB] at b1 b2; rw [← hG] at c1 c2; rw [← hH] at d1 d2
  have q1 : (p2 * x1 + p1 * x2) * (d * d) = (v + B) * (k + G) + (u + A) * (l + H) := by grind
  have q2 : (p1 * x1 - p2 * x2) * (d * d) = (u + A) * (k + G) - (v + B) * (l + H) := by grind
  rw [q1, q2]
  clear hA hB hG hH q1 q2 za1 za2
  have hb : 50000 * d ≤ 1/100 := by grind
  have t1 := mul_bd B k (50000 * d) 1 b1 b2 (by grind) (by grind)
  have t2 := mul_bd A l (50000 * d) 1 a1 a2 (by grind) (by grind)
  have t3 := mul_bd (v + B) G (101/100) (50000 * d) (by grind) (by grind) c1 c2
  have t4 := mul_bd (u + A) H (101/100) (50000 * d) (by grind) (by grind) d1 d2
  have t5 := mul_bd A k (50000 * d) 1 a1 a2 (by grind) (by grind)
  have t6 := mul_bd B l (50000 * d) 1 b1 b2 (by grind) (by grind)
  have t7 := mul_bd (u + A) G (101/100) (50000 * d) (by grind) (by grind) c1 c2
  have t8 := mul_bd (v + B) H (101/100) (50000 * d) (by grind) (by grind) d1 d2
  refine ⟨⟨?_, ?_⟩, ⟨?_, ?_⟩⟩ <;> grind

theorem near_up (p : Nat × Nat) (n : Nat) (e f : Rat) (h : NearP p n e) (hf : e ≤ f) : NearP p n f := by
  obtain ⟨⟨a1, a2⟩, ⟨b1, b2⟩⟩ := h
  refine ⟨⟨?_, ?_⟩, ⟨?_, ?_⟩⟩ <;> grind
theorem near_T (i : Nat) (hi : i ≤ 1350) : 32 * (i : Rat) * e96 ≤ 50000 * e96 := by
  have hp := e96_pos
  have h : (i : Rat) ≤ 1350 := by exact_mod_cast hi
  exact Rat.mul_le_mul_of_nonneg_right (by grind) (by grind)
theorem near_1 (j : Nat) (hj : j ≤ 2000) : 7 * (j : Rat) * e96 ≤ 50000 * e96 := by
  have hp := e96_pos
  have h : (j : Rat) ≤ 2000 := by exact_mod_cast hj
  exact Rat.mul_le_mul_of_nonneg_right (by grind) (by grind)
theorem fifty_small : 50000 * e96 ≤ 1/100000 := by have := e96_small; unfold e96; decide +kernel

/-- one block -/
theorem block_far (P : Nat × Nat) (m : Nat) (l : List (Nat × Nat)) (hm : m ≤ 1349) (hP : NearP P (2000 * m) (50000 * e96))
    (hl : ∀ x ∈ l, ∃ j, j < 2000 ∧ NearP x j (7 * j * e96))
    (h1 : chk (ones l.length) (P.2 * pack (l.map (·.1)) + P.1 * pack (l.map (·.2))) = true) (h2 : chk (ones l.length) (P.1 * pack (l.map (·.1)) - P.2 * pack (l.map (·.2))) = true) :
    ∀ x ∈ l, ∀ j, j < 2000 → NearP x j (50000 * e96) → (∃ q : Nat, FlR (zs (2000 * m + j)) q) ∧ (∃ q : Nat, FlR (zc (2000 * m + j)) q) := by
  have hs : ∀ x ∈ l, P.2 * x.2 ≤ P.1 * x.1 := by
    intro x hx
    obtain ⟨j, hj, hn⟩ := hl x hx
    have hn := near_up _ _ _ _ hn (near_1 j (by omega))
    have z1 := zs_small j (by omega)
    have z2 := zc_pos j (by omega)
    have z3 := zs_le (2000 * m)
    have z4 := zc_pos (2000 * m) (by omega)
    obtain ⟨⟨a1, a2⟩, ⟨b1, b2⟩⟩ := hP
    obtain ⟨⟨c1, c2⟩, ⟨d1, d2⟩⟩ := hn
    have hf := fifty_small
    generalize 50000 * e96 = f at *
    apply sub_ok P.2 x.2 P.1 x.1 (11/10) (1/100) (1/10) (2/10) <;> grind
  have hf := fifty_small
  have hr := look_one P l (near_sm P _ _ (by omega) hf hP) (fun x hx => by
    obtain ⟨j, hj, hn⟩ := hl x hx
    exact near_sm x j _ (by omega) hf (near_up _ _ _ _ hn (near_1 j (by omega)))) hs h1 h2
  intro x hx j hj hn
  obtain ⟨f1, f2⟩ := hr x hx
  obtain ⟨g1, g2⟩ := prod_near P x _ j hP hn (hs x hx)
  exact ⟨fl_of_far _ _ f1 g1.1 g1.2, fl_of_far _ _ f2 g2.1 g2.2⟩

theorem look_far (q m : Nat) (p : Nat × Nat) (l : List (Nat × Nat)) (hq : m + q ≤ 1350) (hp : NearP p (2000 * m) (32 * m * e96))
    (hl : ∀ x ∈ l, ∃ j, j < 2000 ∧ NearP x j (7 * j * e96))
    (h : look q p (pack (l.map (·.1)), pack (l.map (·.2))) (ones l.length) = true) :
    ∀ i, i < q → ∀ x ∈ l, ∀ j, j < 2000 → NearP x j (50000 * e96) → (∃ q : Nat, FlR (zs (2000 * (m + i) + j)) q) ∧ (∃ q : Nat, FlR (zc (2000 * (m + i) + j)) q) := by
  induction q generalizing m p with
  | zero => intro i hi; omega
  | succ q ih =>
    simp only [look, Bool.and_eq_true] at h
    obtain ⟨⟨h1, h2⟩, h3⟩ := h
    have r0 := block_far p m l (by omega) (near_up _ _ _ _ hp (near_T m (by omega))) hl h1 h2
    have r1 := ih (m + 1) (stT p) (by omega) (stT_near p m (by omega) hp) h3
    clear ih h1 h2 h3 hl hp
    intro i hi x hx j hj hn
    by_cases hz : i = 0
    · subst hz; rw [Nat.add_zero]; exact r0 x hx j hj hn
    · have r := r1 (i-1) (by omega) x hx j hj hn; rw [show m + 1 + (i-1) = m + i by omega] at r; exact r
theorem stTn_near (k m : Nat) (p : Nat × Nat) (hk : m + k ≤ 1350) (hp : NearP p (2000 * m) (32 * m * e96)) : NearP (stTn k p) (2000 * (m + k)) (32 * (m + k : Nat) * e96) := by
  induction k generalizing m p with
  | zero => rw [stTn_zero, Nat.add_zero]; exact hp
  | succ k ih =>
    have r := ih (m + 1) (stT p) (by omega) (stT_near p m (by omega) hp)
    rw [show m + 1 + k = m + (k + 1) by omega] at r
    rw [stTn_succ]; exact r
theorem F_near : NearP (F96, 0) (2000 * 0) (32 * (0 : Nat) * e96) := by
  have h := F96_near
  have e : (32 : Rat) * ((0 : Nat) : Rat) * e96 = 0 := by norm_cast; grind
  rw [e]; exact h
theorem F_near1 : NearP (F96, 0) 0 (7 * (0 : Nat) * e96) := by
  have h := F96_near
  have e : (7 : Rat) * ((0 : Nat) : Rat) * e96 = 0 := by norm_cast; grind
  rw [e]; exact h
theorem far_core (n : Nat) (h0 : n ≠ 0) (h1 : n ≠ 1800000) (h2 : n < 2700000) (t u : List (Nat × Nat)) (p : Nat × Nat)
    (H1 : look 899 (stT (F96, 0)) (pack (t.map (·.1)), pack (t.map (·.2))) (ones t.length) = true)
    (H2 : look 1 p (pack (u.map (·.1)), pack (u.map (·.2))) (ones u.length) = true)
    (H3 : look 449 (stT p) (pack (t.map (·.1)), pack (t.map (·.2))) (ones t.length) = true)
    (H4 : look 1 (F96, 0) (pack (u.map (·.1)), pack (u.map (·.2))) (ones u.length) = true)
    (kt : ∀ x ∈ t, ∃ j, j < 2000 ∧ NearP x j (7 * j * e96)) (ku : ∀ x ∈ u, ∃ j, j < 2000 ∧ NearP x j (7 * j * e96))
    (nt : ∀ j, j < 2000 → ∃ x ∈ t, NearP x (0 + j) (7 * (0 + j : Nat) * e96)) (nu : ∀ j, j < 1999 → ∃ x ∈ u, NearP x (0 + 1 + j) (7 * (0 + 1 + j : Nat) * e96))
    (p9 : NearP p (2000 * (0 + 900)) (32 * (0 + 900 : Nat) * e96)) : (∃ q : Nat, FlR (zs n) q) ∧ (∃ q : Nat, FlR (zc n) q) := by
  have s1 := stT_near (F96, 0) 0 (by omega) F_near
  have s9 := stT_near _ (0 + 900) (by omega) p9
  have en : 2000 * (n / 2000) + n % 2000 = n := by omega
  have hi : n / 2000 < 1350 := by omega
  have hj : n % 2000 < 2000 := by omega
  have hnz : n / 2000 = 0 ∨ n / 2000 = 900 → n % 2000 ≠ 0 := by omega
  generalize n / 2000 = i at *
  generalize n % 2000 = j at *
  subst en
  by_cases c0 : i = 0
  · subst c0
    have hj0 := hnz (.inl rfl)
    obtain ⟨x, hx, hn⟩ := nu (j - 1) (by omega)
    rw [show 0 + 1 + (j - 1) = j by omega] at hn
    exact look_far 1 0 (F96, 0) u (by omega) F_near ku H4 0 (by omega) x hx j hj (near_up _ _ _ _ hn (near_1 j (by omega)))
  by_cases c9 : i = 900
  · subst c9
    have hj0 := hnz (.inr rfl)
    obtain ⟨x, hx, hn⟩ := nu (j - 1) (by omega)
    rw [show 0 + 1 + (j - 1) = j by omega] at hn
    exact look_far 1 (0 + 900) p u (by omega) p9 ku H2 0 (by omega) x hx j hj (near_up _ _ _ _ hn (near_1 j (by omega)))
  obtain ⟨x, hx, hn⟩ := nt j (by omega)
  rw [show 0 + j = j by omega] at hn
  by_cases c : i < 900
  · have r := look_far 899 (0 + 1) (stT (F96, 0)) t (by omega) s1 kt H1 (i - 1) (by omega) x hx j hj (near_up _ _ _ _ hn (near_1 j (by omega)))
    rw [show 0 + 1 + (i - 1) = i by omega] at r
    exact r
  · have r := look_far 449 (0 + 900 + 1) (stT p) t (by omega) s9 kt H3 (i - 901) (by omega) x hx j hj (near_up _ _ _ _ hn (near_1 j (by omega)))
    rw [show 0 + 900 + 1 + (i - 901) = i by omega] at r
    exact r
theorem and4 {a b c d : Bool} (h : (a && b && c && d) = true) : a = true ∧ b = true ∧ c = true ∧ d = true := by
  cases a <;> cases b <;> cases c <;> cases d <;> simp_all
theorem look_parts : look 899 (stT (F96, 0)) (tabP 2000 (F96, 0)) (ones 2000) = true ∧ look 1 (stTn 900 (F96, 0)) (tabP 1999 (st1 (F96, 0))) (ones 1999) = true ∧
    look 449 (stT (stTn 900 (F96, 0))) (tabP 2000 (F96, 0)) (ones 2000) = true ∧ look 1 (F96, 0) (tabP 1999 (st1 (F96, 0))) (ones 1999) = true := and4 look_ok
theorem tabP_eq (k : Nat) (p : Nat × Nat) : tabP k p = (pack ((tab k p).map (·.1)), pack ((tab k p).map (·.2))) := by
  have := tabP_pack k p; rw [← this.1, ← this.2]
theorem look_form (q k : Nat) (P p : Nat × Nat) (h : look q P (tabP k p) (ones k) = true) : look q P (pack ((tab k p).map (·.1)), pack ((tab k p).map (·.2))) (ones (tab k p).length) = true := by
  rw [tab_length, ← tabP_eq]; exact h
theorem far_all (n : Nat) (h0 : n ≠ 0) (h1 : n ≠ 1800000) (h2 : n < 2700000) : (∃ q : Nat, FlR (zs n) q) ∧ (∃ q : Nat, FlR (zc n) q) :=
  far_core n h0 h1 h2 (tab 2000 (F96, 0)) (tab 1999 (st1 (F96, 0))) (stTn 900 (F96, 0))
    (look_form _ _ _ _ look_parts.1) (look_form _ _ _ _ look_parts.2.1) (look_form _ _ _ _ look_parts.2.2.1) (look_form _ _ _ _ look_parts.2.2.2)
    (fun x hx => by
      obtain ⟨j, _, hj, hn⟩ := tab_all 2000 0 (F96, 0) (by omega) F_near1 x hx
      exact ⟨j, hj, hn⟩)
    (fun x hx => by
      obtain ⟨j, _, hj, hn⟩ := tab_all 1999 (0 + 1) (st1 (F96, 0)) (by omega) (st1_near _ 0 (by omega) F_near1) x hx
      exact ⟨j, hj, hn⟩)
    (tab_near 2000 0 (F96, 0) (by omega) F_near1) (tab_near 1999 (0 + 1) (st1 (F96, 0)) (by omega) (st1_near _ 0 (by omega) F_near1))
    (stTn_near 900 0 (F96, 0) (by omega) F_near)
end Alm
