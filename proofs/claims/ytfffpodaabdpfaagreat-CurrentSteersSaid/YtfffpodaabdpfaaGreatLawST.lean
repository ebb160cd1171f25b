/- The law CurrentSteers: Steer returns what is specified. -/
import Derived.Test.YtfffpodaabdpfaaGreatPlus
import Derived.Test.YtfffpodaabdpfaaGreatCur2
set_option linter.unusedVariables false
set_option linter.unusedSimpArgs false
namespace Alm
open Go.RowKit Go.Proofs.YtfffpodaabdpfaaGreat in
theorem floorN {x y z u c r : Int} {d : Int} (hd : 0 < d) (hy : y = x.tdiv d) (hz : z = x.tmod d) (hu : u = y - 1) (hc : c = Sx.b2i (decide (z < 0))) (hr : r = if c ≠ 0 then u else y) : r = x / d := by
 obtain ⟨f1, f2⟩ := tdiv_floor x d hd
 rw [hr, hc]
 by_cases h : z < 0
 · rw [decide_eq_true h, if_pos (by decide), hu, hy, f1 (by omega)]
 · rw [decide_eq_false h, if_neg (by decide), hy, f2 (by omega)]
end Alm
namespace Go.Proofs.YtfffpodaabdpfaaGreat
open Go.RowKit Alm Sx
theorem ceilN {x y z u c r d : Int} (hd : 0 < d) (hy : y = x.tdiv d) (hz : z = x.tmod d) (hu : u = y + 1) (hc : c = b2i (decide (z > 0))) (hr : r = if c ≠ 0 then u else y) : r = -((-x) / d) := by
 obtain ⟨f1, f2⟩ := tdiv_floor (-x) d hd
 rw [Int.neg_tmod, Int.neg_tdiv] at f1 f2
 rw [hr, hc]
 by_cases h : z > 0
 · rw [decide_eq_true h, if_pos (by decide), hu, hy, ← f1 (by omega)]; omega
 · rw [decide_eq_false h, if_neg (by decide), hy, ← f2 (by omega)]; omega
theorem bHi_neg (n : Int) (h0 : -5400000 ≤ n) (h1 : n ≤ 5400000) : bHi (-n) = -bLo n := by
 rcases Int.lt_trichotomy n 0 with h | h | h
 · obtain ⟨a, b⟩ := foldQ_neg n h0 h
   obtain ⟨a', b'⟩ := foldQ_pos (-n) (by omega) (by omega)
   unfold bHi bLo
   rw [a, b, a', b']; simp
 · subst h; decide
 · obtain ⟨a, b⟩ := foldQ_pos n (by omega) h1
   obtain ⟨a', b'⟩ := foldQ_neg (-n) (by omega) (by omega)
   unfold bHi bLo
   rw [a, b, a', b']; simp
theorem asin_order (lo hi : Int) (h : lo ≤ hi) : asinV lo ≤ -asinV (-hi) := by
 obtain ⟨a0, a1, a2, _⟩ := asinV_is lo
 obtain ⟨b0, b1, b2, _⟩ := asinV_is (-hi)
 by_cases hh : asinV lo ≤ -asinV (-hi)
 · exact hh
 · have m := b_mono (-asinV (-hi)) (asinV lo) (by omega) (by omega) (by omega)
   have n := bHi_neg (-asinV (-hi)) (by omega) (by omega)
   rw [Int.neg_neg] at n
   omega
theorem asn36 (a b : Int) (h : a ≤ b) : -5400000 ≤ (semE 36 [a, b]).getD 0 0 ∧ (semE 36 [a, b]).getD 0 0 ≤ (semE 36 [a, b]).getD 1 0 ∧ (semE 36 [a, b]).getD 1 0 ≤ 5400000 := by
 show -5400000 ≤ (if asnE a b = 0 then asnL a else 0) ∧ (if asnE a b = 0 then asnL a else 0) ≤ (if asnE a b = 0 then asnH b else 0) ∧ (if asnE a b = 0 then asnH b else 0) ≤ 5400000
 by_cases q : asnE a b = 0
 · rw [if_pos q, if_pos q]
   have c : a ≤ 1073741824 ∧ -1073741824 ≤ b := by
    unfold asnE at q
    by_cases g : a ≤ 1073741824 ∧ -1073741824 ≤ b
    · exact g
    · rw [if_neg g] at q; exact absurd q (by decide)
   have r1 := asinV_is (max a (-1073741824))
   have r2 := asinV_is (-(min b 1073741824))
   have o := asin_order (max a (-1073741824)) (min b 1073741824) (by omega)
   unfold asnL asnH
   generalize asinV (max a (-1073741824)) = x at *
   generalize asinV (-(min b 1073741824)) = y at *
   omega
 · rw [if_neg q, if_neg q]; omega
theorem en_shift (a b k : Int) : enLo (a + 21600000 * k) (b + 21600000 * k) = enLo a b ∧ enHi (a + 21600000 * k) (b + 21600000 * k) = enHi a b := by
 have w : ∀ n : Int, wrapTurn (n + 21600000 * k) = wrapTurn n := fun n => by unfold wrapTurn; omega
 have w2 : ∀ n : Int, wrapTurn (n - (a + 21600000 * k)) = wrapTurn (n - a) := fun n => by unfold wrapTurn; omega
 have l : ∀ n : Int, bLo (n + 21600000 * k) = bLo n ∧ bHi (n + 21600000 * k) = bHi n := fun n => by
  unfold bLo bHi south foldQ
  rw [w]
  exact ⟨rfl, rfl⟩
 have d : b + 21600000 * k - (a + 21600000 * k) = b - a := by omega
 unfold enLo enHi meetsB
 rw [w2, w2, d, (l a).1, (l a).2, (l b).1, (l b).2]
 exact ⟨rfl, rfl⟩
theorem en_all (a b : Int) (h : 21600000 ≤ b - a) : enLo a b = -1073741824 ∧ enHi a b = 1073741824 := by
 unfold enLo enHi meetsB wrapTurn
 rw [if_pos (decide_eq_true (by omega)), if_pos (decide_eq_true (by omega))]
 exact ⟨rfl, rfl⟩
theorem paV_same {a b a' b' : Int} (l h : Int) (H : (∃ k, a' = a + 21600000 * k ∧ b' = b + 21600000 * k) ∨ (21600000 ≤ b - a ∧ 21600000 ≤ b' - a')) : paV a' b' l h = paV a b l h := by
 have e : enLo a' b' = enLo a b ∧ enHi a' b' = enHi a b ∧ enLo (a' + 5400000) (b' + 5400000) = enLo (a + 5400000) (b + 5400000) ∧ enHi (a' + 5400000) (b' + 5400000) = enHi (a + 5400000) (b + 5400000) := by
  rcases H with ⟨k, rfl, rfl⟩ | ⟨h1, h2⟩
  · have s := en_shift a b k
    have s2 := en_shift (a + 5400000) (b + 5400000) k
    rw [show a + 21600000 * k + 5400000 = a + 5400000 + 21600000 * k by omega, show b + 21600000 * k + 5400000 = b + 5400000 + 21600000 * k by omega]
    exact ⟨s.1, s.2, s2.1, s2.2⟩
  · have s1 := en_all a b h1
    have s2 := en_all a' b' h2
    have s3 := en_all (a + 5400000) (b + 5400000) (by omega)
    have s4 := en_all (a' + 5400000) (b' + 5400000) (by omega)
    exact ⟨s2.1.trans s1.1.symm, s2.2.trans s1.2.symm, s4.1.trans s3.1.symm, s4.2.trans s3.2.symm⟩
 have e5 : semB 5 [a', b'] = semB 5 [a, b] := by
  show [enLo a' b', enHi a' b', 0] = [enLo a b, enHi a b, 0]
  rw [e.1, e.2.1]
 have e6 : semB 6 [a', b'] = semB 6 [a, b] := by
  show [enLo (a' + 5400000) (b' + 5400000), enHi (a' + 5400000) (b' + 5400000), 0] = [enLo (a + 5400000) (b + 5400000), enHi (a + 5400000) (b + 5400000), 0]
  rw [e.2.2.1, e.2.2.2]
 unfold paV
 rw [e5, e6]
def tuL (a b : Int) : Int := if b - a ≥ 21600000 then 0 else a % 21600000
def tuH (a b : Int) : Int := if b - a ≥ 21600000 then 21600000 else a % 21600000 + (b - a)
theorem tu_is {a b : Int} (h : a ≤ b) : (0 ≤ tuL a b ∧ tuL a b ≤ tuH a b ∧ tuH a b ≤ 43200000) ∧ ((21600000 ≤ b - a ∧ tuH a b - tuL a b = 21600000) ∨ (b - a < 21600000 ∧ ∃ k, tuL a b = a + 21600000 * k ∧ tuH a b = b + 21600000 * k)) := by
 unfold tuL tuH
 by_cases q : b - a ≥ 21600000
 · rw [if_pos q, if_pos q]; exact ⟨by omega, .inl ⟨by omega, by omega⟩⟩
 · rw [if_neg q, if_neg q]
   refine ⟨by omega, .inr ⟨by omega, -(a / 21600000), by omega, by omega⟩⟩
theorem wrapT {x y c r : Int} {a : Int} (hx : x = a.tmod 21600000) (hy : y = x + 21600000) (hc : c = b2i (decide (x < 0))) (hr : r = if c ≠ 0 then y else x) : r = a % 21600000 := by
 rw [hr, hc]
 rcases Int.le_total 0 a with h | h
 · have e : a.tmod 21600000 = a % 21600000 := Int.tmod_eq_emod_of_nonneg h
   rw [decide_eq_false (by omega), if_neg (by decide), hx, e]
 · have e : (-a).tmod 21600000 = (-a) % 21600000 := Int.tmod_eq_emod_of_nonneg (by omega)
   rw [Int.neg_tmod] at e
   by_cases g : x < 0
   · rw [decide_eq_true g, if_pos (by decide), hy]; omega
   · rw [decide_eq_false g, if_neg (by decide)]; omega
theorem or2 {x y : Prop} [Decidable x] [Decidable y] : (if b2i (decide x) ≠ 0 then (1 : Int) else b2i (decide y)) = b2i (decide (x ∨ y)) := by
 by_cases h1 : x <;> by_cases h2 : y <;> simp [b2i, h1, h2]
theorem two_of {x : Int} {p : Prop} [Decidable p] (h : x = b2i (decide p)) : (p ∧ x = 1) ∨ (¬ p ∧ x = 0) := by
 by_cases q : p
 · exact .inl ⟨q, by rw [h, decide_eq_true q]; rfl⟩
 · exact .inr ⟨q, by rw [h, decide_eq_false q]; rfl⟩
theorem quo_le {P Q c d : Int} (h : P ≤ Q) (hc : 1 ≤ c) (hd : c ≤ d) : qFl P 1073741824 (if P < 0 then c else d) ≤ qCe Q 1073741824 (if Q < 0 then d else c) := by
 unfold qFl qCe
 have D1 : 0 < (if P < 0 then c else d) := by split <;> omega
 have D2 : 0 < (if Q < 0 then d else c) := by split <;> omega
 have l1 := Int.ediv_mul_le (P * 1073741824) (show (if P < 0 then c else d) ≠ 0 by omega)
 have l2 := Int.ediv_mul_le (-(Q * 1073741824)) (show (if Q < 0 then d else c) ≠ 0 by omega)
 generalize hL : P * 1073741824 / (if P < 0 then c else d) = L at *
 generalize hK : -(Q * 1073741824) / (if Q < 0 then d else c) = K at *
 refine Int.not_lt.1 fun hh => ?_
 by_cases p : P < 0
 · rw [if_pos p] at l1
   by_cases q : Q < 0
   · rw [if_pos q] at l2 hK
     have K0 : 0 ≤ K := by rw [← hK]; exact Int.ediv_nonneg (by omega) (by omega)
     have m := Int.mul_le_mul_of_nonneg_left hd K0
     have n := Int.mul_le_mul_of_nonneg_right (show -K + 1 ≤ L by omega) (show 0 ≤ c by omega)
     have e : (-K + 1) * c = -(K * c) + c := by grind
     omega
   · rw [if_neg q] at l2
     have : L < 0 := by
      refine Int.not_le.1 fun g => ?_
      have := Int.mul_nonneg g (show 0 ≤ c by omega)
      omega
     have : K ≤ 0 := by
      refine Int.not_lt.1 fun g => ?_
      have := Int.mul_pos g (show 0 < c by omega)
      omega
     omega
 · have q : ¬ Q < 0 := by omega
   rw [if_neg p] at l1
   rw [if_neg q] at l2
   have K0 : K ≤ 0 := by
    refine Int.not_lt.1 fun g => ?_
    have := Int.mul_pos g (show 0 < c by omega)
    omega
   have m := Int.mul_le_mul_of_nonneg_left hd (show 0 ≤ -K by omega)
   have n := Int.mul_le_mul_of_nonneg_right (show -K + 1 ≤ L by omega) (show 0 ≤ d by omega)
   have e : (-K + 1) * d = -K * d + d := by grind
   have e2 : -K * c = -(K * c) := by grind
   omega
theorem st1 {a0 a1 a4 a5 t1 t2 s1 s2 x33 x34 y241 y242 y233 y234 : Int} (m1 : arcV a0 a1 = true) (m5 : arcV a4 a5 = true) (q1 : t1 = tuL a0 a1) (q2 : t2 = tuH a0 a1) (q3 : s1 = tuL a4 a5) (q4 : s2 = tuH a4 a5) (w33 : x33 = s1 - t2) (w34 : x34 = s2 - t1) (e241 : y241 = IntKind.i64.wrap (s1 - t2)) (e242 : y242 = IntKind.i64.wrap (s2 - t1)) (e233 : y233 = IntKind.i64.wrap (a4 - a1)) (e234 : y234 = IntKind.i64.wrap (a5 - a0)) :
 ((0 ≤ t1 ∧ t1 ≤ t2 ∧ t2 ≤ 43200000) ∧ (0 ≤ s1 ∧ s1 ≤ s2 ∧ s2 ≤ 43200000)) ∧ y241 = x33 ∧ y242 = x34 ∧ arcV x33 x34 = true ∧ ∀ l h, paV y233 y234 l h = paV x33 x34 l h := by
 have c1 := (arcV_iff _ _).1 m1
 have c2 := (arcV_iff _ _).1 m5
 have T0 := tu_is c1.2.1
 have T4 := tu_is c2.2.1
 rw [← q1, ← q2] at T0
 rw [← q3, ← q4] at T4
 clear q1 q2 q3 q4 m1 m5
 rw [IntWalk.i64_in _ (by omega)] at e241 e242 e233 e234
 refine ⟨⟨T0.1, T4.1⟩, by omega, by omega, (arcV_iff _ _).2 (by omega), fun l h => (paV_same l h ?_).symm⟩
 rw [e233, e234, w33, w34]
 rcases T0.2 with ⟨t1, t2⟩ | ⟨t1, k1, t2, t3⟩
 · exact .inr ⟨by omega, by omega⟩
 · rcases T4.2 with ⟨t4, t5⟩ | ⟨t4, k4, t5, t6⟩
   · exact .inr ⟨by omega, by omega⟩
   · exact .inl ⟨k4 - k1, by omega, by omega⟩
theorem st2 {P Q c d d1 d2 y47 y50 x256 x263 y257 y258 y259 y260 y264 y265 y266 y267 L H : Int} (hP : -200000 ≤ P ∧ P ≤ Q ∧ Q ≤ 200000) (hc : 1 ≤ c ∧ c ≤ d ∧ d ≤ 200000) (hd1 : d1 = if b2i (decide (P < 0)) ≠ 0 then c else d) (hd2 : d2 = if b2i (decide (Q < 0)) ≠ 0 then d else c) (z1 : y47 = d1) (z2 : y50 = d2)
 (e256 : x256 = IntKind.i64.wrap (P * 1073741824)) (e263 : x263 = IntKind.i64.wrap (Q * 1073741824)) (e257 : y257 = IntKind.i64.wrap (Int.tdiv x256 y47)) (e258 : y258 = Int.tmod x256 y47) (e259 : y259 = b2i (decide (y258 < 0))) (e260 : y260 = IntKind.i64.wrap (y257 - 1)) (eL : L = if y259 ≠ 0 then y260 else y257)
 (e264 : y264 = IntKind.i64.wrap (Int.tdiv x263 y50)) (e265 : y265 = Int.tmod x263 y50) (e266 : y266 = b2i (decide (y265 > 0))) (e267 : y267 = IntKind.i64.wrap (y264 + 1)) (eH : H = if y266 ≠ 0 then y267 else y264) :
 (1 ≤ d1 ∧ d1 ≤ 200000) ∧ (1 ≤ d2 ∧ d2 ≤ 200000) ∧ L = qFl P 1073741824 d1 ∧ H = qCe Q 1073741824 d2 ∧ L ≤ H := by
 rw [b2i_ite] at hd1 hd2
 have p1 : 1 ≤ d1 ∧ d1 ≤ 200000 := by rw [hd1]; split <;> omega
 have p2 : 1 ≤ d2 ∧ d2 ≤ 200000 := by rw [hd2]; split <;> omega
 subst z1 z2
 rw [IntWalk.i64_in _ (by omega)] at e256 e263
 have b257 := tdiv_bd x256 y47 (by omega) 214748364800000 (by omega) (by omega)
 have b264 := tdiv_bd x263 y50 (by omega) 214748364800000 (by omega) (by omega)
 rw [IntWalk.i64_in _ (by omega)] at e257 e264
 rw [IntWalk.i64_in _ (by omega)] at e260 e267
 have wL : L = qFl P 1073741824 y47 := by rw [floorN (show 0 < y47 by omega) e257 e258 e260 e259 eL, e256]; rfl
 have wH : H = qCe Q 1073741824 y50 := by rw [ceilN (show 0 < y50 by omega) e264 e265 e267 e266 eH, e263]; rfl
 refine ⟨p1, p2, wL, wH, ?_⟩
 rw [wL, wH, hd1, hd2]
 exact quo_le hP.2.1 hc.1 hc.2.1
theorem st3 {L H x270 x271 x272 x273 x274 x275 x276 : Int} (e270 : x270 = b2i (decide (L < (-2147483648 : Int)))) (e271 : x271 = b2i (decide (H > (2147483648 : Int)))) (e272 : x272 = if x270 ≠ 0 then (1 : Int) else x271) (e273 : x273 = b2i (decide (H < (-1073741824 : Int)))) (e274 : x274 = if x272 ≠ 0 then (1 : Int) else x273) (e275 : x275 = b2i (decide (L > (1073741824 : Int)))) (e276 : x276 = if x274 ≠ 0 then (1 : Int) else x275) :
 x276 = b2i (decide ((((L < -2147483648 ∨ H > 2147483648) ∨ H < -1073741824)) ∨ L > 1073741824)) := by
 rw [e276, e274, e272, e270, e271, or2, e273, or2, e275, or2]
theorem qce_one (x n d : Int) (hd : 1 ≤ d) : qCe x n d ≤ qFl x n d + 1 := (qFl_bd x n d _ hd (Int.le_refl _)).2.2.2.2.2
def nd_pTu : List Nd := [
 .arg 0,
 .arg 1,
 .bin .sub .i64 (.n 1) (.n 0),
 .bin .leq .i64 (.n 0) (.n 1),
 .bin .geq .i64 (.n 0) (.c (-1099511627776)),
 .bin .leq .i64 (.n 0) (.c 1099511627776),
 .ite (.n 4) (.n 5) (.c 0),
 .ite (.n 3) (.n 6) (.c 0),
 .bin .geq .i64 (.n 1) (.c (-1099511627776)),
 .bin .leq .i64 (.n 1) (.c 1099511627776),
 .ite (.n 8) (.n 9) (.c 0),
 .ite (.n 7) (.n 10) (.c 0),
 .ite (.n 11) (.c 0) (.c 1),
 .bin .geq .i64 (.n 2) (.c 21600000),
 .bin .rem .i64 (.n 0) (.c 21600000),
 .bin .lss .i64 (.n 14) (.c 0),
 .bin .add .i64 (.n 14) (.c 21600000),
 .ite (.n 15) (.c 0) (.c 1),
 .ite (.n 15) (.n 16) (.n 14),
 .bin .add .i64 (.n 18) (.n 2),
 .ite (.n 13) (.c 0) (.c 1),
 .ite (.n 13) (.c 0) (.n 18),
 .ite (.n 13) (.c 21600000) (.n 19),
 .ite (.n 12) (.c 0) (.n 21),
 .ite (.n 12) (.c 0) (.n 22)]
def vc_pTu : List Vc := [
 ]
theorem wh_pTu : whole Tryz.prog [] 20 40 163 [(true, [some .i64, some .i64])] = some (.tup [.agg [.int .i64 (.n 23), .int .i64 (.n 24)], .c (.int .i64 (.n 12))], ⟨nd_pTu.reverse, vc_pTu.reverse⟩) := by kernel_rfl
theorem wf_pTu : wfN nd_pTu.reverse = true := by kernel_rfl
set_option maxRecDepth 100000 in
theorem c_aTurn (a b : Int) (w : World) (h : arcV a b = true) : Calls Tryz.prog 163 #[.agg #[.int .i64 a, .int .i64 b]] w fun e w' => e = .returned (.tuple #[.agg #[.int .i64 (tuL a b), .int .i64 (tuH a b)], .int .i64 0]) ∧ Below w.heap.size w w' := by
 refine Sx.calls (X := cxD [a, b]) hmix (fun s hs => by cases hs) wh_pTu wf_pTu (fun v hs => ?_) w
 have e0 : v 0 = a := satF hs 0 rfl
 have e1 : v 1 = b := satF hs 1 rfl
 have e2 : v 2 = IntKind.i64.wrap (v 1 - v 0) := satF hs 2 rfl
 have e3 : v 3 = b2i (decide (v 0 ≤ v 1)) := satF hs 3 rfl
 have e4 : v 4 = b2i (decide (v 0 ≥ (-1099511627776 : Int))) := satF hs 4 rfl
 have e5 : v 5 = b2i (decide (v 0 ≤ (1099511627776 : Int))) := satF hs 5 rfl
 have e6 : v 6 = if v 4 ≠ 0 then v 5 else (0 : Int) := satF hs 6 rfl
 have e7 : v 7 = if v 3 ≠ 0 then v 6 else (0 : Int) := satF hs 7 rfl
 have e8 : v 8 = b2i (decide (v 1 ≥ (-1099511627776 : Int))) := satF hs 8 rfl
 have e9 : v 9 = b2i (decide (v 1 ≤ (1099511627776 : Int))) := satF hs 9 rfl
 have e10 : v 10 = if v 8 ≠ 0 then v 9 else (0 : Int) := satF hs 10 rfl
 have e11 : v 11 = if v 7 ≠ 0 then v 10 else (0 : Int) := satF hs 11 rfl
 have e12 : v 12 = if v 11 ≠ 0 then (0 : Int) else (1 : Int) := satF hs 12 rfl
 have e13 : v 13 = b2i (decide (v 2 ≥ (21600000 : Int))) := satF hs 13 rfl
 have e14 : v 14 = Int.tmod (v 0) ((21600000 : Int)) := satF hs 14 rfl
 have e15 : v 15 = b2i (decide (v 14 < (0 : Int))) := satF hs 15 rfl
 have e16 : v 16 = IntKind.i64.wrap (v 14 + (21600000 : Int)) := satF hs 16 rfl
 have e17 : v 17 = if v 15 ≠ 0 then (0 : Int) else (1 : Int) := satF hs 17 rfl
 have e18 : v 18 = if v 15 ≠ 0 then v 16 else v 14 := satF hs 18 rfl
 have e19 : v 19 = IntKind.i64.wrap (v 18 + v 2) := satF hs 19 rfl
 have e20 : v 20 = if v 13 ≠ 0 then (0 : Int) else (1 : Int) := satF hs 20 rfl
 have e21 : v 21 = if v 13 ≠ 0 then (0 : Int) else v 18 := satF hs 21 rfl
 have e22 : v 22 = if v 13 ≠ 0 then (21600000 : Int) else v 19 := satF hs 22 rfl
 have e23 : v 23 = if v 12 ≠ 0 then (0 : Int) else v 21 := satF hs 23 rfl
 have e24 : v 24 = if v 12 ≠ 0 then (0 : Int) else v 22 := satF hs 24 rfl
 have hh := (arcV_iff _ _).1 h
 have w2 : v 2 = b - a := by rw [e2, e0, e1, IntWalk.i64_in _ (by omega)]
 have b14 : -21600000 < v 14 ∧ v 14 < 21600000 := by
  rw [e14]
  refine ⟨?_, Int.tmod_lt_of_pos _ (by omega)⟩
  have := Int.tmod_lt_of_pos (-(v 0)) (show (0 : Int) < 21600000 by omega)
  rw [Int.neg_tmod] at this
  omega
 have w16 : v 16 = v 14 + 21600000 := by rw [e16, IntWalk.i64_in _ (by omega)]
 have w18 : v 18 = v 0 % 21600000 := wrapT e14 w16 e15 e18
 have w19 : v 19 = v 0 % 21600000 + (b - a) := by rw [e19, w18, w2, IntWalk.i64_in _ (by rw [e0]; omega)]
 have A11 : v 11 = 1 := by rw [e11, e7, e3, e6, e4, e5, e10, e8, e9, arc_prog, e0, e1, h]; rfl
 rcases two_of e13 with ⟨g, u⟩ | ⟨g, u⟩
 · have z12 : v 12 = 0 := norm_val (X := cxD [a, b]) (v := v) (l := nd_pTu) (extD_ok _) hs (k := 12) (r := .c 0) (ps := [(11, .c 1), (13, .c 1)]) (nz := []) (ps_cons A11 (ps_cons u ps_nil)) nz_nil (by kernel_rfl)
   have z23 : v 23 = 0 := norm_val (X := cxD [a, b]) (v := v) (l := nd_pTu) (extD_ok _) hs (k := 23) (r := .c 0) (ps := [(11, .c 1), (13, .c 1)]) (nz := []) (ps_cons A11 (ps_cons u ps_nil)) nz_nil (by kernel_rfl)
   have z24 : v 24 = 21600000 := norm_val (X := cxD [a, b]) (v := v) (l := nd_pTu) (extD_ok _) hs (k := 24) (r := .c 21600000) (ps := [(11, .c 1), (13, .c 1)]) (nz := []) (ps_cons A11 (ps_cons u ps_nil)) nz_nil (by kernel_rfl)
   refine ⟨vcs_rev vcs_nil, ?_⟩
   intro x hx0
   have hx' := valV_of (v := v) (by rfl) hx0
   rw [hx']
   show Value.tuple #[.agg #[.int .i64 (v 23), .int .i64 (v 24)], .int .i64 (v 12)] = _
   unfold tuL tuH
   rw [z23, z24, z12, if_pos (by omega), if_pos (by omega)]
 · have z12 : v 12 = 0 := norm_val (X := cxD [a, b]) (v := v) (l := nd_pTu) (extD_ok _) hs (k := 12) (r := .c 0) (ps := [(11, .c 1), (13, .c 0)]) (nz := []) (ps_cons A11 (ps_cons u ps_nil)) nz_nil (by kernel_rfl)
   have z23 : v 23 = v 18 := norm_eq (X := cxD [a, b]) (v := v) (l := nd_pTu) (extD_ok _) hs (k := 23) (j := 18) (ps := [(11, .c 1), (13, .c 0)]) (ps_cons A11 (ps_cons u ps_nil)) (by kernel_rfl)
   have z24 : v 24 = v 19 := norm_eq (X := cxD [a, b]) (v := v) (l := nd_pTu) (extD_ok _) hs (k := 24) (j := 19) (ps := [(11, .c 1), (13, .c 0)]) (ps_cons A11 (ps_cons u ps_nil)) (by kernel_rfl)
   refine ⟨vcs_rev vcs_nil, ?_⟩
   intro x hx0
   have hx' := valV_of (v := v) (by rfl) hx0
   rw [hx']
   show Value.tuple #[.agg #[.int .i64 (v 23), .int .i64 (v 24)], .int .i64 (v 12)] = _
   unfold tuL tuH
   rw [z23, z24, z12, w18, w19, e0, if_neg (by omega), if_neg (by omega)]
def nd_rTu : List Nd := [
 .arg 0,
 .arg 1,
 .bin .sub .i64 (.n 1) (.n 0),
 .bin .geq .i64 (.n 2) (.c 21600000),
 .ite (.n 3) (.c 0) (.c 1),
 .bin .rem .i64 (.n 0) (.c 21600000),
 .bin .lss .i64 (.n 5) (.c 0),
 .bin .add .i64 (.n 5) (.c 21600000),
 .ite (.n 6) (.c 0) (.c 1),
 .ite (.n 6) (.n 7) (.n 5),
 .bin .add .i64 (.n 9) (.n 2),
 .ite (.n 3) (.c 0) (.n 9),
 .ite (.n 3) (.c 21600000) (.n 10)]
def vc_rTu : List Vc := [
 ]
theorem wh_rTu : whole Tryz.prog [] 20 40 169 [(true, [some .i64, some .i64])] = some (.p (.agg [.int .i64 (.n 11), .int .i64 (.n 12)]), ⟨nd_rTu.reverse, vc_rTu.reverse⟩) := by kernel_rfl
theorem wf_rTu : wfN nd_rTu.reverse = true := by kernel_rfl
set_option maxRecDepth 100000 in
theorem c_rTurn (a b : Int) (w : World) (h : arcV a b = true) : Calls Tryz.prog 169 #[.agg #[.int .i64 a, .int .i64 b]] w fun e w' => e = .returned (.agg #[.int .i64 (tuL a b), .int .i64 (tuH a b)]) ∧ Below w.heap.size w w' := by
 refine Sx.calls (X := cxD [a, b]) hmix (fun s hs => by cases hs) wh_rTu wf_rTu (fun v hs => ?_) w
 have e0 : v 0 = a := satF hs 0 rfl
 have e1 : v 1 = b := satF hs 1 rfl
 have e2 : v 2 = IntKind.i64.wrap (v 1 - v 0) := satF hs 2 rfl
 have e3 : v 3 = b2i (decide (v 2 ≥ (21600000 : Int))) := satF hs 3 rfl
 have e4 : v 4 = if v 3 ≠ 0 then (0 : Int) else (1 : Int) := satF hs 4 rfl
 have e5 : v 5 = Int.tmod (v 0) ((21600000 : Int)) := satF hs 5 rfl
 have e6 : v 6 = b2i (decide (v 5 < (0 : Int))) := satF hs 6 rfl
 have e7 : v 7 = IntKind.i64.wrap (v 5 + (21600000 : Int)) := satF hs 7 rfl
 have e8 : v 8 = if v 6 ≠ 0 then (0 : Int) else (1 : Int) := satF hs 8 rfl
 have e9 : v 9 = if v 6 ≠ 0 then v 7 else v 5 := satF hs 9 rfl
 have e10 : v 10 = IntKind.i64.wrap (v 9 + v 2) := satF hs 10 rfl
 have e11 : v 11 = if v 3 ≠ 0 then (0 : Int) else v 9 := satF hs 11 rfl
 have e12 : v 12 = if v 3 ≠ 0 then (21600000 : Int) else v 10 := satF hs 12 rfl
 have hh := (arcV_iff _ _).1 h
 have w2 : v 2 = b - a := by rw [e2, e0, e1, IntWalk.i64_in _ (by omega)]
 have b5 : -21600000 < v 5 ∧ v 5 < 21600000 := by
  rw [e5]
  refine ⟨?_, Int.tmod_lt_of_pos _ (by omega)⟩
  have := Int.tmod_lt_of_pos (-(v 0)) (show (0 : Int) < 21600000 by omega)
  rw [Int.neg_tmod] at this
  omega
 have w7 : v 7 = v 5 + 21600000 := by rw [e7, IntWalk.i64_in _ (by omega)]
 have w9 : v 9 = v 0 % 21600000 := wrapT e5 w7 e6 e9
 have w10 : v 10 = v 0 % 21600000 + (b - a) := by rw [e10, w9, w2, IntWalk.i64_in _ (by rw [e0]; omega)]
 rcases two_of e3 with ⟨g, u⟩ | ⟨g, u⟩
 · have z11 : v 11 = 0 := norm_val (X := cxD [a, b]) (v := v) (l := nd_rTu) (extD_ok _) hs (k := 11) (r := .c 0) (ps := [(3, .c 1)]) (nz := []) (ps_cons u ps_nil) nz_nil (by kernel_rfl)
   have z12 : v 12 = 21600000 := norm_val (X := cxD [a, b]) (v := v) (l := nd_rTu) (extD_ok _) hs (k := 12) (r := .c 21600000) (ps := [(3, .c 1)]) (nz := []) (ps_cons u ps_nil) nz_nil (by kernel_rfl)
   refine ⟨vcs_rev vcs_nil, ?_⟩
   intro x hx0
   have hx' := valV_of (v := v) (by rfl) hx0
   rw [hx']
   show Value.agg #[.int .i64 (v 11), .int .i64 (v 12)] = _
   unfold tuL tuH
   rw [z11, z12, if_pos (by omega), if_pos (by omega)]
 · have z11 : v 11 = v 9 := norm_eq (X := cxD [a, b]) (v := v) (l := nd_rTu) (extD_ok _) hs (k := 11) (j := 9) (ps := [(3, .c 0)]) (ps_cons u ps_nil) (by kernel_rfl)
   have z12 : v 12 = v 10 := norm_eq (X := cxD [a, b]) (v := v) (l := nd_rTu) (extD_ok _) hs (k := 12) (j := 10) (ps := [(3, .c 0)]) (ps_cons u ps_nil) (by kernel_rfl)
   refine ⟨vcs_rev vcs_nil, ?_⟩
   intro x hx0
   have hx' := valV_of (v := v) (by rfl) hx0
   rw [hx']
   show Value.agg #[.int .i64 (v 11), .int .i64 (v 12)] = _
   unfold tuL tuH
   rw [z11, z12, w9, w10, e0, if_neg (by omega), if_neg (by omega)]
def kG (f : Nat) : Bool := f == 47
def semG : Nat → List Int → List Int
 | 47, [a, b] => [tuL a b, tuH a b, 0]
 | _, _ => []
def preG : Nat → List Int → Prop
 | 47, [a, b] => arcV a b = true
 | _, _ => False
def cxG (args : List Int) : Cx := (cxD args).plus kG semG preG
theorem likeG (args : List Int) : Like (cxG args) := like_plus (likeD args) fun f h => by
 unfold kG
 rcases h with h | rfl
 · simp; omega
 · rfl
def sTurn : Sx.Spec := ⟨163, 47, [(true, [some .i64, some .i64])], [(true, [some .i64, some .i64]), (false, [some .i64])]⟩
def rTurn : Sx.Spec := ⟨169, 47, [(true, [some .i64, some .i64])], [(true, [some .i64, some .i64])]⟩
def spG0 : List Sx.Spec := spAll ++ [sAwake45, sParts, rParts, qsMoves, qrMotion, qrDrift, qsSpeed, qrSpeed, qsSub]
def spG : List Sx.Spec := spG0 ++ [sTurn, rTurn]
theorem spG0_in : ∀ s ∈ spG0, s ∈ spD ∧ kG s.id = false := by
 intro s h
 rcases List.mem_append.1 h with h | h
 · refine ⟨List.mem_append_left _ (List.mem_append_left _ h), ?_⟩
   simp only [spAll, spProg, spRef4, spRef6, spRef7, spE, List.mem_append, List.mem_cons, List.not_mem_nil, or_false] at h
   rcases h with (((h | h) | h) | h) | h
   · rcases h with rfl | rfl | rfl | rfl | rfl | rfl | rfl | rfl | rfl <;> rfl
   · rcases h with rfl | rfl | rfl | rfl <;> rfl
   · rcases h with rfl | rfl <;> rfl
   · rcases h with rfl | rfl | rfl <;> rfl
   · rcases h with rfl | rfl | rfl | rfl | rfl | rfl | rfl <;> rfl
 · simp only [List.mem_cons, List.not_mem_nil, or_false] at h
   unfold spD spC spD2
   rcases h with rfl | rfl | rfl | rfl | rfl | rfl | rfl | rfl | rfl <;> exact ⟨by simp, rfl⟩
theorem spG_ok (args : List Int) : ∀ s ∈ spG, SpecOK Tryz.prog (cxG args) s := by
 intro s hs
 rcases List.mem_append.1 hs with h | h
 · exact plus_old (spG0_in s h).2 (spD_ok args s (spG0_in s h).1)
 · simp only [List.mem_cons, List.not_mem_nil, or_false] at h
   rcases h with rfl | rfl
   · refine plus_new rfl (ours _ _ _ Tryz.func163 rfl (by kernel_rfl)) fun xs hp w => ?_
     match xs, hp with
     | [a, b], hp => exact c_aTurn a b w hp
   · refine plus_new rfl (ours _ _ _ Tryz.func169 rfl (by kernel_rfl)) fun xs hp w => ?_
     match xs, hp with
     | [a, b], hp => exact c_rTurn a b w hp
def extG (t : Tab) : Nd → Option Rf
 | .app 47 2 [_, _] => some (.c 0)
 | .app 45 2 [_, _, _, _] => some (.c 0)
 | .app 37 4 [_, _, _, _] => some (.c 0)
 | .app 9 2 [_, _, _] => some (.c 0)
 | .app 20 0 [] => some (.c 1)
 | x => extB t x
theorem extG_ok (args : List Int) : ExtOK (cxG args) extG := by
 intro v t x r ht h
 unfold extG at h
 split at h
 · cases h; rfl
 · cases h; rfl
 · cases h; rfl
 · cases h; rfl
 · cases h; rfl
 · exact extX_ok (likeG args) v t x r ht h
def nd_st : List Nd := [
 .arg 0,
 .arg 1,
 .arg 2,
 .arg 3,
 .arg 4,
 .arg 5,
 .arg 6,
 .arg 7,
 .app 20 0 [],
 .ite (.n 8) (.c 0) (.c 1),
 .ite (.n 9) (.c 0) (.c 1),
 .app 42 0 [.n 0, .n 1, .n 2, .n 3],
 .ite (.n 11) (.c 0) (.c 1),
 .app 42 0 [.n 4, .n 5, .n 6, .n 7],
 .ite (.n 13) (.c 0) (.c 1),
 .ite (.n 12) (.c 1) (.n 14),
 .bin .eql .i64 (.n 2) (.c 0),
 .ite (.n 16) (.c 0) (.c 1),
 .ite (.n 15) (.c 0) (.c 1),
 .ite (.n 18) (.n 17) (.c 0),
 .ite (.n 18) (.n 16) (.c 0),
 .ite (.n 15) (.c 1) (.n 20),
 .ite (.n 15) (.c 1) (.c 16),
 .app 47 0 [.n 0, .n 1],
 .app 47 1 [.n 0, .n 1],
 .app 47 2 [.n 0, .n 1],
 .bin .neq .i64 (.n 25) (.c 0),
 .ite (.n 26) (.c 0) (.c 1),
 .app 47 0 [.n 4, .n 5],
 .app 47 1 [.n 4, .n 5],
 .app 47 2 [.n 4, .n 5],
 .bin .neq .i64 (.n 30) (.c 0),
 .ite (.n 31) (.c 0) (.c 1),
 .app 45 0 [.n 28, .n 29, .n 23, .n 24],
 .app 45 1 [.n 28, .n 29, .n 23, .n 24],
 .app 45 2 [.n 28, .n 29, .n 23, .n 24],
 .bin .neq .i64 (.n 35) (.c 0),
 .ite (.n 36) (.c 0) (.c 1),
 .app 37 0 [.n 33, .n 34, .n 6, .n 7],
 .app 37 1 [.n 33, .n 34, .n 6, .n 7],
 .app 37 2 [.n 33, .n 34, .n 6, .n 7],
 .app 37 3 [.n 33, .n 34, .n 6, .n 7],
 .app 37 4 [.n 33, .n 34, .n 6, .n 7],
 .bin .neq .i64 (.n 42) (.c 0),
 .ite (.n 43) (.c 0) (.c 1),
 .bin .lss .i64 (.n 40) (.c 0),
 .ite (.n 45) (.c 0) (.c 1),
 .ite (.n 45) (.n 2) (.n 3),
 .bin .lss .i64 (.n 41) (.c 0),
 .ite (.n 48) (.c 0) (.c 1),
 .ite (.n 48) (.n 3) (.n 2),
 .app 11 0 [.n 40, .n 47],
 .app 11 1 [.n 40, .n 47],
 .app 11 2 [.n 40, .n 47],
 .bin .neq .i64 (.n 53) (.c 0),
 .ite (.n 54) (.c 0) (.c 1),
 .app 11 0 [.n 41, .n 50],
 .app 11 1 [.n 41, .n 50],
 .app 11 2 [.n 41, .n 50],
 .ite (.n 54) (.n 53) (.n 58),
 .ite (.n 54) (.c 0) (.n 51),
 .ite (.n 54) (.c 0) (.n 57),
 .bin .neq .i64 (.n 59) (.c 0),
 .ite (.n 62) (.c 0) (.c 1),
 .app 36 0 [.n 60, .n 61],
 .app 36 1 [.n 60, .n 61],
 .app 36 2 [.n 60, .n 61],
 .bin .neq .i64 (.n 66) (.c 0),
 .ite (.n 67) (.c 0) (.c 1),
 .app 6 0 [.n 64, .n 65],
 .app 6 1 [.n 64, .n 65],
 .app 6 2 [.n 64, .n 65],
 .bin .neq .i64 (.n 71) (.c 0),
 .ite (.n 72) (.c 0) (.c 1),
 .app 9 0 [.n 69, .n 70, .n 2],
 .app 9 1 [.n 69, .n 70, .n 2],
 .app 9 2 [.n 69, .n 70, .n 2],
 .bin .neq .i64 (.n 76) (.c 0),
 .ite (.n 77) (.c 0) (.c 1),
 .app 9 0 [.n 69, .n 70, .n 3],
 .app 9 1 [.n 69, .n 70, .n 3],
 .app 9 2 [.n 69, .n 70, .n 3],
 .mn (.n 74) (.n 79),
 .mx (.n 75) (.n 80),
 .ite (.n 77) (.n 76) (.n 81),
 .ite (.n 77) (.c 0) (.n 82),
 .ite (.n 77) (.c 0) (.n 83),
 .bin .neq .i64 (.n 84) (.c 0),
 .ite (.n 87) (.c 0) (.c 1),
 .bin .add .i64 (.n 85) (.n 38),
 .bin .add .i64 (.n 86) (.n 39),
 .bin .leq .i64 (.n 89) (.c 0),
 .bin .gtr .i64 (.n 90) (.c 200000),
 .ite (.n 92) (.c 0) (.c 1),
 .ite (.n 91) (.c 0) (.c 1),
 .ite (.n 94) (.n 93) (.c 0),
 .ite (.n 94) (.n 92) (.c 0),
 .ite (.n 91) (.c 1) (.n 96),
 .ite (.n 91) (.c 25) (.c 5),
 .app 45 0 [.n 23, .n 24, .n 64, .n 65],
 .app 45 1 [.n 23, .n 24, .n 64, .n 65],
 .app 45 2 [.n 23, .n 24, .n 64, .n 65],
 .bin .neq .i64 (.n 101) (.c 0),
 .ite (.n 102) (.c 0) (.c 1),
 .app 47 0 [.n 99, .n 100],
 .app 47 1 [.n 99, .n 100],
 .app 47 2 [.n 99, .n 100],
 .bin .neq .i64 (.n 106) (.c 0),
 .ite (.n 107) (.c 0) (.c 1),
 .ite (.n 107) (.n 106) (.c 0),
 .ite (.n 107) (.c 0) (.n 104),
 .ite (.n 107) (.c 0) (.n 105),
 .ite (.n 107) (.c 0) (.n 89),
 .ite (.n 107) (.c 0) (.n 90),
 .ite (.n 102) (.n 101) (.n 109),
 .ite (.n 102) (.n 101) (.n 106),
 .ite (.n 102) (.n 99) (.n 104),
 .ite (.n 102) (.n 100) (.n 105),
 .ite (.n 102) (.c 0) (.n 110),
 .ite (.n 102) (.c 0) (.n 111),
 .ite (.n 102) (.c 0) (.n 112),
 .ite (.n 102) (.c 0) (.n 113),
 .ite (.n 97) (.c 1) (.n 95),
 .ite (.n 97) (.n 98) (.n 114),
 .ite (.n 97) (.n 84) (.n 115),
 .ite (.n 97) (.n 23) (.n 116),
 .ite (.n 97) (.n 24) (.n 117),
 .ite (.n 97) (.c 0) (.n 118),
 .ite (.n 97) (.c 0) (.n 119),
 .ite (.n 97) (.c 0) (.n 120),
 .ite (.n 97) (.c 0) (.n 121),
 .ite (.n 88) (.n 122) (.c 0),
 .ite (.n 87) (.c 1) (.n 131),
 .ite (.n 87) (.n 84) (.n 123),
 .ite (.n 87) (.n 84) (.n 124),
 .ite (.n 87) (.n 85) (.n 89),
 .ite (.n 87) (.n 86) (.n 90),
 .ite (.n 87) (.n 23) (.n 125),
 .ite (.n 87) (.n 24) (.n 126),
 .ite (.n 87) (.c 0) (.n 127),
 .ite (.n 87) (.c 0) (.n 128),
 .ite (.n 87) (.c 0) (.n 129),
 .ite (.n 87) (.c 0) (.n 130),
 .ite (.n 73) (.n 132) (.c 0),
 .ite (.n 72) (.c 1) (.n 143),
 .ite (.n 72) (.n 71) (.n 133),
 .ite (.n 72) (.n 71) (.n 134),
 .ite (.n 72) (.n 23) (.n 137),
 .ite (.n 72) (.n 24) (.n 138),
 .ite (.n 72) (.c 0) (.n 139),
 .ite (.n 72) (.c 0) (.n 140),
 .ite (.n 72) (.c 0) (.n 141),
 .ite (.n 72) (.c 0) (.n 142),
 .ite (.n 68) (.n 144) (.c 0),
 .ite (.n 67) (.c 1) (.n 153),
 .ite (.n 67) (.c 25) (.n 145),
 .ite (.n 67) (.n 66) (.n 146),
 .ite (.n 67) (.n 23) (.n 147),
 .ite (.n 67) (.n 24) (.n 148),
 .ite (.n 67) (.c 0) (.n 149),
 .ite (.n 67) (.c 0) (.n 150),
 .ite (.n 67) (.c 0) (.n 151),
 .ite (.n 67) (.c 0) (.n 152),
 .ite (.n 63) (.n 154) (.c 0),
 .ite (.n 62) (.c 1) (.n 163),
 .ite (.n 62) (.c 25) (.n 155),
 .ite (.n 62) (.n 59) (.n 156),
 .ite (.n 62) (.n 23) (.n 157),
 .ite (.n 62) (.n 24) (.n 158),
 .ite (.n 62) (.c 0) (.n 159),
 .ite (.n 62) (.c 0) (.n 160),
 .ite (.n 62) (.c 0) (.n 161),
 .ite (.n 62) (.c 0) (.n 162),
 .ite (.n 44) (.n 164) (.c 0),
 .ite (.n 43) (.c 1) (.n 173),
 .ite (.n 43) (.n 42) (.n 165),
 .ite (.n 43) (.n 42) (.n 166),
 .ite (.n 43) (.n 23) (.n 167),
 .ite (.n 43) (.n 24) (.n 168),
 .ite (.n 43) (.c 0) (.n 169),
 .ite (.n 43) (.c 0) (.n 170),
 .ite (.n 43) (.c 0) (.n 171),
 .ite (.n 43) (.c 0) (.n 172),
 .ite (.n 37) (.n 174) (.c 0),
 .ite (.n 36) (.c 1) (.n 183),
 .ite (.n 36) (.n 35) (.n 175),
 .ite (.n 36) (.n 35) (.n 176),
 .ite (.n 36) (.n 23) (.n 177),
 .ite (.n 36) (.n 24) (.n 178),
 .ite (.n 36) (.c 0) (.n 179),
 .ite (.n 36) (.c 0) (.n 180),
 .ite (.n 36) (.c 0) (.n 181),
 .ite (.n 36) (.c 0) (.n 182),
 .ite (.n 32) (.n 184) (.c 0),
 .ite (.n 31) (.c 1) (.n 193),
 .ite (.n 31) (.n 30) (.n 185),
 .ite (.n 31) (.n 30) (.n 186),
 .ite (.n 31) (.n 28) (.n 33),
 .ite (.n 31) (.n 29) (.n 34),
 .ite (.n 31) (.n 23) (.n 187),
 .ite (.n 31) (.n 24) (.n 188),
 .ite (.n 31) (.c 0) (.n 189),
 .ite (.n 31) (.c 0) (.n 190),
 .ite (.n 31) (.c 0) (.n 191),
 .ite (.n 31) (.c 0) (.n 192),
 .ite (.n 27) (.n 194) (.c 0),
 .ite (.n 26) (.c 1) (.n 205),
 .ite (.n 26) (.n 25) (.n 195),
 .ite (.n 26) (.n 25) (.n 196),
 .ite (.n 26) (.n 23) (.n 199),
 .ite (.n 26) (.n 24) (.n 200),
 .ite (.n 26) (.c 0) (.n 201),
 .ite (.n 26) (.c 0) (.n 202),
 .ite (.n 26) (.c 0) (.n 203),
 .ite (.n 26) (.c 0) (.n 204),
 .ite (.n 19) (.n 206) (.c 0),
 .ite (.n 21) (.c 1) (.n 215),
 .ite (.n 21) (.n 22) (.n 207),
 .ite (.n 21) (.c 0) (.n 211),
 .ite (.n 21) (.c 0) (.n 212),
 .ite (.n 21) (.c 0) (.n 213),
 .ite (.n 21) (.c 0) (.n 214),
 .bin .leq .i64 (.n 0) (.n 1),
 .bin .geq .i64 (.n 0) (.c (-1099511627776)),
 .ite (.n 222) (.n 223) (.c 0),
 .bin .leq .i64 (.n 1) (.c 1099511627776),
 .ite (.n 224) (.n 225) (.c 0),
 .ite (.n 226) (.c 0) (.c 1),
 .app 43 0 [.n 2, .n 3],
 .ite (.n 228) (.c 0) (.c 1),
 .ite (.n 227) (.c 1) (.n 229),
 .ite (.n 230) (.c 1) (.n 14),
 .ite (.n 231) (.c 0) (.c 1),
 .bin .sub .i64 (.n 4) (.n 1),
 .bin .sub .i64 (.n 5) (.n 0),
 .bin .leq .i64 (.n 233) (.n 234),
 .bin .geq .i64 (.n 233) (.c (-1099511627776)),
 .ite (.n 235) (.n 236) (.c 0),
 .bin .leq .i64 (.n 234) (.c 1099511627776),
 .ite (.n 237) (.n 238) (.c 0),
 .ite (.n 239) (.c 0) (.c 1),
 .bin .sub .i64 (.n 28) (.n 24),
 .bin .sub .i64 (.n 29) (.n 23),
 .ite (.n 240) (.n 241) (.n 233),
 .ite (.n 240) (.n 242) (.n 234),
 .app 37 0 [.n 243, .n 244, .n 6, .n 7],
 .app 37 1 [.n 243, .n 244, .n 6, .n 7],
 .app 37 2 [.n 243, .n 244, .n 6, .n 7],
 .app 37 3 [.n 243, .n 244, .n 6, .n 7],
 .app 37 4 [.n 243, .n 244, .n 6, .n 7],
 .bin .lss .i64 (.n 247) (.c 0),
 .ite (.n 250) (.c 0) (.c 1),
 .ite (.n 250) (.n 2) (.n 3),
 .bin .lss .i64 (.n 248) (.c 0),
 .ite (.n 253) (.c 0) (.c 1),
 .ite (.n 253) (.n 3) (.n 2),
 .bin .mul .i64 (.n 247) (.c 1073741824),
 .bin .quo .i64 (.n 256) (.n 252),
 .bin .rem .i64 (.n 256) (.n 252),
 .bin .lss .i64 (.n 258) (.c 0),
 .bin .sub .i64 (.n 257) (.c 1),
 .ite (.n 259) (.c 0) (.c 1),
 .ite (.n 259) (.n 260) (.n 257),
 .bin .mul .i64 (.n 248) (.c 1073741824),
 .bin .quo .i64 (.n 263) (.n 255),
 .bin .rem .i64 (.n 263) (.n 255),
 .bin .gtr .i64 (.n 265) (.c 0),
 .bin .add .i64 (.n 264) (.c 1),
 .ite (.n 266) (.c 0) (.c 1),
 .ite (.n 266) (.n 267) (.n 264),
 .bin .lss .i64 (.n 262) (.c (-2147483648)),
 .bin .gtr .i64 (.n 269) (.c 2147483648),
 .ite (.n 270) (.c 1) (.n 271),
 .bin .lss .i64 (.n 269) (.c (-1073741824)),
 .ite (.n 272) (.c 1) (.n 273),
 .bin .gtr .i64 (.n 262) (.c 1073741824),
 .ite (.n 274) (.c 1) (.n 275),
 .ite (.n 276) (.c 0) (.c 1),
 .app 36 0 [.n 262, .n 269],
 .app 36 1 [.n 262, .n 269],
 .app 36 2 [.n 262, .n 269],
 .app 6 0 [.n 278, .n 279],
 .app 6 1 [.n 278, .n 279],
 .app 9 0 [.n 281, .n 282, .n 2],
 .app 9 1 [.n 281, .n 282, .n 2],
 .app 9 2 [.n 281, .n 282, .n 2],
 .app 9 0 [.n 281, .n 282, .n 3],
 .app 9 1 [.n 281, .n 282, .n 3],
 .app 9 2 [.n 281, .n 282, .n 3],
 .bin .lss .i64 (.n 286) (.n 283),
 .ite (.n 289) (.c 0) (.c 1),
 .ite (.n 289) (.n 286) (.n 283),
 .bin .gtr .i64 (.n 287) (.n 284),
 .ite (.n 292) (.c 0) (.c 1),
 .ite (.n 292) (.n 287) (.n 284),
 .bin .add .i64 (.n 291) (.n 245),
 .bin .add .i64 (.n 294) (.n 246),
 .bin .leq .i64 (.n 295) (.c 0),
 .ite (.n 297) (.c 0) (.c 1),
 .bin .gtr .i64 (.n 296) (.c 200000),
 .ite (.n 299) (.c 0) (.c 1),
 .bin .sub .i64 (.n 23) (.n 279),
 .bin .sub .i64 (.n 24) (.n 278),
 .app 47 0 [.n 301, .n 302],
 .app 47 1 [.n 301, .n 302],
 .ite (.n 299) (.c 5) (.c 0),
 .ite (.n 299) (.c 0) (.n 303),
 .ite (.n 299) (.c 0) (.n 304),
 .ite (.n 299) (.c 0) (.n 295),
 .ite (.n 299) (.c 0) (.n 296),
 .ite (.n 297) (.c 25) (.n 305),
 .ite (.n 297) (.c 0) (.n 306),
 .ite (.n 297) (.c 0) (.n 307),
 .ite (.n 297) (.c 0) (.n 308),
 .ite (.n 297) (.c 0) (.n 309),
 .ite (.n 276) (.c 25) (.n 310),
 .ite (.n 276) (.c 0) (.n 311),
 .ite (.n 276) (.c 0) (.n 312),
 .ite (.n 276) (.c 0) (.n 313),
 .ite (.n 276) (.c 0) (.n 314),
 .ite (.n 16) (.c 16) (.n 315),
 .ite (.n 16) (.c 0) (.n 316),
 .ite (.n 16) (.c 0) (.n 317),
 .ite (.n 16) (.c 0) (.n 318),
 .ite (.n 16) (.c 0) (.n 319),
 .ite (.n 231) (.c 1) (.n 320),
 .ite (.n 231) (.c 0) (.n 321),
 .ite (.n 231) (.c 0) (.n 322),
 .ite (.n 231) (.c 0) (.n 323),
 .ite (.n 231) (.c 0) (.n 324),
 .bin .eql .i64 (.n 218) (.n 326),
 .bin .eql .i64 (.n 219) (.n 327),
 .bin .eql .i64 (.n 220) (.n 328),
 .bin .eql .i64 (.n 221) (.n 329),
 .ite (.n 332) (.n 333) (.c 0),
 .ite (.n 331) (.n 334) (.c 0),
 .ite (.n 330) (.n 335) (.c 0),
 .bin .eql .i64 (.n 217) (.n 325),
 .ite (.n 336) (.n 337) (.c 0),
 .ite (.n 9) (.c 0) (.n 338)]
def vc_st : List Vc := [
 ⟨[], .pre 20 []⟩,
 ⟨[(.n 10, true)], .pre 42 [.n 0, .n 1, .n 2, .n 3]⟩,
 ⟨[(.n 10, true), (.n 12, false)], .pre 42 [.n 4, .n 5, .n 6, .n 7]⟩,
 ⟨[(.n 19, true), (.n 10, true)], .pre 47 [.n 0, .n 1]⟩,
 ⟨[(.n 27, true), (.n 19, true), (.n 10, true)], .pre 47 [.n 4, .n 5]⟩,
 ⟨[(.n 32, true), (.n 27, true), (.n 19, true), (.n 10, true)], .pre 45 [.n 28, .n 29, .n 23, .n 24]⟩,
 ⟨[(.n 37, true), (.n 32, true), (.n 27, true), (.n 19, true), (.n 10, true)], .pre 37 [.n 33, .n 34, .n 6, .n 7]⟩,
 ⟨[(.n 44, true), (.n 37, true), (.n 32, true), (.n 27, true), (.n 19, true), (.n 10, true)], .pre 11 [.n 40, .n 47]⟩,
 ⟨[(.n 55, true), (.n 44, true), (.n 37, true), (.n 32, true), (.n 27, true), (.n 19, true), (.n 10, true)], .pre 11 [.n 41, .n 50]⟩,
 ⟨[(.n 63, true), (.n 44, true), (.n 37, true), (.n 32, true), (.n 27, true), (.n 19, true), (.n 10, true)], .pre 36 [.n 60, .n 61]⟩,
 ⟨[(.n 68, true), (.n 63, true), (.n 44, true), (.n 37, true), (.n 32, true), (.n 27, true), (.n 19, true), (.n 10, true)], .pre 6 [.n 64, .n 65]⟩,
 ⟨[(.n 73, true), (.n 68, true), (.n 63, true), (.n 44, true), (.n 37, true), (.n 32, true), (.n 27, true), (.n 19, true), (.n 10, true)], .pre 9 [.n 69, .n 70, .n 2]⟩,
 ⟨[(.n 78, true), (.n 73, true), (.n 68, true), (.n 63, true), (.n 44, true), (.n 37, true), (.n 32, true), (.n 27, true), (.n 19, true), (.n 10, true)], .pre 9 [.n 69, .n 70, .n 3]⟩,
 ⟨[(.n 95, true), (.n 88, true), (.n 73, true), (.n 68, true), (.n 63, true), (.n 44, true), (.n 37, true), (.n 32, true), (.n 27, true), (.n 19, true), (.n 10, true)], .pre 45 [.n 23, .n 24, .n 64, .n 65]⟩,
 ⟨[(.n 103, true), (.n 95, true), (.n 88, true), (.n 73, true), (.n 68, true), (.n 63, true), (.n 44, true), (.n 37, true), (.n 32, true), (.n 27, true), (.n 19, true), (.n 10, true)], .pre 47 [.n 99, .n 100]⟩,
 ⟨[(.n 10, true), (.n 227, false)], .pre 43 [.n 2, .n 3]⟩,
 ⟨[(.n 10, true), (.n 230, false)], .pre 42 [.n 4, .n 5, .n 6, .n 7]⟩,
 ⟨[(.n 240, true), (.n 17, true), (.n 232, true), (.n 10, true)], .pre 47 [.n 4, .n 5]⟩,
 ⟨[(.n 240, true), (.n 17, true), (.n 232, true), (.n 10, true)], .pre 47 [.n 0, .n 1]⟩,
 ⟨[(.n 17, true), (.n 232, true), (.n 10, true)], .pre 37 [.n 243, .n 244, .n 6, .n 7]⟩,
 ⟨[(.n 17, true), (.n 232, true), (.n 10, true)], .ne0 (.n 252)⟩,
 ⟨[(.n 17, true), (.n 232, true), (.n 10, true)], .ne0 (.n 252)⟩,
 ⟨[(.n 17, true), (.n 232, true), (.n 10, true)], .ne0 (.n 255)⟩,
 ⟨[(.n 17, true), (.n 232, true), (.n 10, true)], .ne0 (.n 255)⟩,
 ⟨[(.n 277, true), (.n 17, true), (.n 232, true), (.n 10, true)], .pre 36 [.n 262, .n 269]⟩,
 ⟨[(.n 277, true), (.n 17, true), (.n 232, true), (.n 10, true)], .pre 6 [.n 278, .n 279]⟩,
 ⟨[(.n 277, true), (.n 17, true), (.n 232, true), (.n 10, true)], .pre 9 [.n 281, .n 282, .n 2]⟩,
 ⟨[(.n 277, true), (.n 17, true), (.n 232, true), (.n 10, true)], .pre 9 [.n 281, .n 282, .n 3]⟩,
 ⟨[(.n 300, true), (.n 298, true), (.n 277, true), (.n 17, true), (.n 232, true), (.n 10, true)], .pre 47 [.n 0, .n 1]⟩,
 ⟨[(.n 300, true), (.n 298, true), (.n 277, true), (.n 17, true), (.n 232, true), (.n 10, true)], .pre 47 [.n 301, .n 302]⟩]
theorem wh_st : whole Tryz.prog spG 20 40 8 [(true, [some .i64, some .i64]), (true, [some .i64, some .i64]), (true, [some .i64, some .i64, some .i64, some .i64])] = some (.p (.c (.bool (.n 339))), ⟨nd_st.reverse, vc_st.reverse⟩) := by kernel_rfl
theorem wf_st : wfN nd_st.reverse = true := by kernel_rfl
set_option maxRecDepth 100000 in
set_option maxHeartbeats 8000000 in
theorem c_lawST (a0 a1 a2 a3 a4 a5 a6 a7 : Int) (w : World)  : Calls Tryz.prog 8 #[.agg #[.int .i64 a0, .int .i64 a1], .agg #[.int .i64 a2, .int .i64 a3], .agg #[.int .i64 a4, .int .i64 a5, .int .i64 a6, .int .i64 a7]] w fun e w' => e = .returned (.bool true) ∧ Below w.heap.size w w' := by
 refine Sx.calls (X := cxG [a0, a1, a2, a3, a4, a5, a6, a7]) hmix (spG_ok _) wh_st wf_st (fun v hs => ?_) w
 have e0 : v 0 = a0 := satF hs 0 rfl
 have e1 : v 1 = a1 := satF hs 1 rfl
 have e2 : v 2 = a2 := satF hs 2 rfl
 have e3 : v 3 = a3 := satF hs 3 rfl
 have e4 : v 4 = a4 := satF hs 4 rfl
 have e5 : v 5 = a5 := satF hs 5 rfl
 have e6 : v 6 = a6 := satF hs 6 rfl
 have e7 : v 7 = a7 := satF hs 7 rfl
 have e222 : v 222 = b2i (decide (v 0 ≤ v 1)) := satF hs 222 rfl
 have e223 : v 223 = b2i (decide (v 0 ≥ (-1099511627776 : Int))) := satF hs 223 rfl
 have e224 : v 224 = if v 222 ≠ 0 then v 223 else (0 : Int) := satF hs 224 rfl
 have e225 : v 225 = b2i (decide (v 1 ≤ (1099511627776 : Int))) := satF hs 225 rfl
 have e226 : v 226 = if v 224 ≠ 0 then v 225 else (0 : Int) := satF hs 226 rfl
 have Q11 : v 11 = b2i (decide (MV (v 0) (v 1) (v 2) (v 3))) := satF hs 11 rfl
 have Q13 : v 13 = b2i (decide (MV (v 4) (v 5) (v 6) (v 7))) := satF hs 13 rfl
 have Q228 : v 228 = b2i (decide (0 ≤ v 2 ∧ v 2 ≤ v 3 ∧ v 3 ≤ 200000)) := satF hs 228 rfl
 have Q226 : v 226 = b2i (decide (arcV (v 0) (v 1) = true)) := by
  rw [e226, e224, e222, e223, e225, arc_ref]
  cases arcV (v 0) (v 1) <;> rfl
 have Q16 : v 16 = b2i (decide (v 2 = 0)) := by
  rw [satF hs 16 rfl]
  show b2i (v 2 == 0) = _
  by_cases q : v 2 = 0 <;> simp [b2i, q]
 rcases two_of Q11 with ⟨g1, u11⟩ | ⟨g1, u11⟩
 rotate_left
 · rcases two_of Q226 with ⟨g3, u226⟩ | ⟨g3, u226⟩
   · have u228 : v 228 = 0 := by
      rw [Q228, decide_eq_false (fun q => g1 ⟨g3, q⟩)]; rfl
     have z19 : v 19 = 0 := norm_val (X := cxG [a0, a1, a2, a3, a4, a5, a6, a7]) (v := v) (l := nd_st) (extG_ok _) hs (k := 19) (r := .c 0) (ps := [(11, .c 0), (226, .c 1), (228, .c 0)]) (nz := []) (ps_cons u11 (ps_cons u226 (ps_cons u228 ps_nil))) nz_nil (by kernel_rfl)
     have z232 : v 232 = 0 := norm_val (X := cxG [a0, a1, a2, a3, a4, a5, a6, a7]) (v := v) (l := nd_st) (extG_ok _) hs (k := 232) (r := .c 0) (ps := [(11, .c 0), (226, .c 1), (228, .c 0)]) (nz := []) (ps_cons u11 (ps_cons u226 (ps_cons u228 ps_nil))) nz_nil (by kernel_rfl)
     refine ⟨vcs_rev ?_, ?_⟩
     · exact vcs_cons (fun _ => trivial) (vcs_cons (fun _ => trivial) (vcs_cons (fun _ => trivial) (vcs_cons (fun hp => absurd z19 (pt_true hp).1) (vcs_cons (fun hp => absurd z19 (pt_true (pt_true hp).2).1) (vcs_cons (fun hp => absurd z19 (pt_true (pt_true (pt_true hp).2).2).1) (vcs_cons (fun hp => absurd z19 (pt_true (pt_true (pt_true (pt_true hp).2).2).2).1) (vcs_cons (fun hp => absurd z19 (pt_true (pt_true (pt_true (pt_true (pt_true hp).2).2).2).2).1) (vcs_cons (fun hp => absurd z19 (pt_true (pt_true (pt_true (pt_true (pt_true (pt_true hp).2).2).2).2).2).1) (vcs_cons (fun hp => absurd z19 (pt_true (pt_true (pt_true (pt_true (pt_true (pt_true hp).2).2).2).2).2).1) (vcs_cons (fun hp => absurd z19 (pt_true (pt_true (pt_true (pt_true (pt_true (pt_true (pt_true hp).2).2).2).2).2).2).1) (vcs_cons (fun hp => absurd z19 (pt_true (pt_true (pt_true (pt_true (pt_true (pt_true (pt_true (pt_true hp).2).2).2).2).2).2).2).1) (vcs_cons (fun hp => absurd z19 (pt_true (pt_true (pt_true (pt_true (pt_true (pt_true (pt_true (pt_true (pt_true hp).2).2).2).2).2).2).2).2).1) (vcs_cons (fun hp => absurd z19 (pt_true (pt_true (pt_true (pt_true (pt_true (pt_true (pt_true (pt_true (pt_true (pt_true hp).2).2).2).2).2).2).2).2).2).1) (vcs_cons (fun hp => absurd z19 (pt_true (pt_true (pt_true (pt_true (pt_true (pt_true (pt_true (pt_true (pt_true (pt_true (pt_true hp).2).2).2).2).2).2).2).2).2).2).1) (vcs_cons (fun _ => trivial) (vcs_cons (fun _ => trivial) (vcs_cons (fun hp => absurd z232 (pt_true (pt_true (pt_true hp).2).2).1) (vcs_cons (fun hp => absurd z232 (pt_true (pt_true (pt_true hp).2).2).1) (vcs_cons (fun hp => absurd z232 (pt_true (pt_true hp).2).1) (vcs_cons (fun hp => absurd z232 (pt_true (pt_true hp).2).1) (vcs_cons (fun hp => absurd z232 (pt_true (pt_true hp).2).1) (vcs_cons (fun hp => absurd z232 (pt_true (pt_true hp).2).1) (vcs_cons (fun hp => absurd z232 (pt_true (pt_true hp).2).1) (vcs_cons (fun hp => absurd z232 (pt_true (pt_true (pt_true hp).2).2).1) (vcs_cons (fun hp => absurd z232 (pt_true (pt_true (pt_true hp).2).2).1) (vcs_cons (fun hp => absurd z232 (pt_true (pt_true (pt_true hp).2).2).1) (vcs_cons (fun hp => absurd z232 (pt_true (pt_true (pt_true hp).2).2).1) (vcs_cons (fun hp => absurd z232 (pt_true (pt_true (pt_true (pt_true (pt_true hp).2).2).2).2).1) (vcs_cons (fun hp => absurd z232 (pt_true (pt_true (pt_true (pt_true (pt_true hp).2).2).2).2).1) (vcs_nil))))))))))))))))))))))))))))))
     · intro x hx
       have hx' : x = .bool (decide (v 339 ≠ 0)) := hx
       have hr : v 339 = 1 := norm_val (X := cxG [a0, a1, a2, a3, a4, a5, a6, a7]) (v := v) (l := nd_st) (extG_ok _) hs (k := 339) (r := .c 1) (ps := [(11, .c 0), (226, .c 1), (228, .c 0)]) (nz := []) (ps_cons u11 (ps_cons u226 (ps_cons u228 ps_nil))) nz_nil (by kernel_rfl)
       rw [hx', hr]; rfl
   · have z19 : v 19 = 0 := norm_val (X := cxG [a0, a1, a2, a3, a4, a5, a6, a7]) (v := v) (l := nd_st) (extG_ok _) hs (k := 19) (r := .c 0) (ps := [(11, .c 0), (226, .c 0)]) (nz := []) (ps_cons u11 (ps_cons u226 ps_nil)) nz_nil (by kernel_rfl)
     have z232 : v 232 = 0 := norm_val (X := cxG [a0, a1, a2, a3, a4, a5, a6, a7]) (v := v) (l := nd_st) (extG_ok _) hs (k := 232) (r := .c 0) (ps := [(11, .c 0), (226, .c 0)]) (nz := []) (ps_cons u11 (ps_cons u226 ps_nil)) nz_nil (by kernel_rfl)
     refine ⟨vcs_rev ?_, ?_⟩
     · exact vcs_cons (fun _ => trivial) (vcs_cons (fun _ => trivial) (vcs_cons (fun _ => trivial) (vcs_cons (fun hp => absurd z19 (pt_true hp).1) (vcs_cons (fun hp => absurd z19 (pt_true (pt_true hp).2).1) (vcs_cons (fun hp => absurd z19 (pt_true (pt_true (pt_true hp).2).2).1) (vcs_cons (fun hp => absurd z19 (pt_true (pt_true (pt_true (pt_true hp).2).2).2).1) (vcs_cons (fun hp => absurd z19 (pt_true (pt_true (pt_true (pt_true (pt_true hp).2).2).2).2).1) (vcs_cons (fun hp => absurd z19 (pt_true (pt_true (pt_true (pt_true (pt_true (pt_true hp).2).2).2).2).2).1) (vcs_cons (fun hp => absurd z19 (pt_true (pt_true (pt_true (pt_true (pt_true (pt_true hp).2).2).2).2).2).1) (vcs_cons (fun hp => absurd z19 (pt_true (pt_true (pt_true (pt_true (pt_true (pt_true (pt_true hp).2).2).2).2).2).2).1) (vcs_cons (fun hp => absurd z19 (pt_true (pt_true (pt_true (pt_true (pt_true (pt_true (pt_true (pt_true hp).2).2).2).2).2).2).2).1) (vcs_cons (fun hp => absurd z19 (pt_true (pt_true (pt_true (pt_true (pt_true (pt_true (pt_true (pt_true (pt_true hp).2).2).2).2).2).2).2).2).1) (vcs_cons (fun hp => absurd z19 (pt_true (pt_true (pt_true (pt_true (pt_true (pt_true (pt_true (pt_true (pt_true (pt_true hp).2).2).2).2).2).2).2).2).2).1) (vcs_cons (fun hp => absurd z19 (pt_true (pt_true (pt_true (pt_true (pt_true (pt_true (pt_true (pt_true (pt_true (pt_true (pt_true hp).2).2).2).2).2).2).2).2).2).2).1) (vcs_cons (fun _ => trivial) (vcs_cons (fun _ => trivial) (vcs_cons (fun hp => absurd z232 (pt_true (pt_true (pt_true hp).2).2).1) (vcs_cons (fun hp => absurd z232 (pt_true (pt_true (pt_true hp).2).2).1) (vcs_cons (fun hp => absurd z232 (pt_true (pt_true hp).2).1) (vcs_cons (fun hp => absurd z232 (pt_true (pt_true hp).2).1) (vcs_cons (fun hp => absurd z232 (pt_true (pt_true hp).2).1) (vcs_cons (fun hp => absurd z232 (pt_true (pt_true hp).2).1) (vcs_cons (fun hp => absurd z232 (pt_true (pt_true hp).2).1) (vcs_cons (fun hp => absurd z232 (pt_true (pt_true (pt_true hp).2).2).1) (vcs_cons (fun hp => absurd z232 (pt_true (pt_true (pt_true hp).2).2).1) (vcs_cons (fun hp => absurd z232 (pt_true (pt_true (pt_true hp).2).2).1) (vcs_cons (fun hp => absurd z232 (pt_true (pt_true (pt_true hp).2).2).1) (vcs_cons (fun hp => absurd z232 (pt_true (pt_true (pt_true (pt_true (pt_true hp).2).2).2).2).1) (vcs_cons (fun hp => absurd z232 (pt_true (pt_true (pt_true (pt_true (pt_true hp).2).2).2).2).1) (vcs_nil))))))))))))))))))))))))))))))
     · intro x hx
       have hx' : x = .bool (decide (v 339 ≠ 0)) := hx
       have hr : v 339 = 1 := norm_val (X := cxG [a0, a1, a2, a3, a4, a5, a6, a7]) (v := v) (l := nd_st) (extG_ok _) hs (k := 339) (r := .c 1) (ps := [(11, .c 0), (226, .c 0)]) (nz := []) (ps_cons u11 (ps_cons u226 ps_nil)) nz_nil (by kernel_rfl)
       rw [hx', hr]; rfl
 have u226 : v 226 = 1 := by rw [Q226, decide_eq_true g1.1]; rfl
 have u228 : v 228 = 1 := by rw [Q228, decide_eq_true g1.2]; rfl
 rcases two_of Q13 with ⟨g2, u13⟩ | ⟨g2, u13⟩
 rotate_left
 · have z19 : v 19 = 0 := norm_val (X := cxG [a0, a1, a2, a3, a4, a5, a6, a7]) (v := v) (l := nd_st) (extG_ok _) hs (k := 19) (r := .c 0) (ps := [(11, .c 1), (13, .c 0), (226, .c 1), (228, .c 1)]) (nz := []) (ps_cons u11 (ps_cons u13 (ps_cons u226 (ps_cons u228 ps_nil)))) nz_nil (by kernel_rfl)
   have z232 : v 232 = 0 := norm_val (X := cxG [a0, a1, a2, a3, a4, a5, a6, a7]) (v := v) (l := nd_st) (extG_ok _) hs (k := 232) (r := .c 0) (ps := [(11, .c 1), (13, .c 0), (226, .c 1), (228, .c 1)]) (nz := []) (ps_cons u11 (ps_cons u13 (ps_cons u226 (ps_cons u228 ps_nil)))) nz_nil (by kernel_rfl)
   refine ⟨vcs_rev ?_, ?_⟩
   · exact vcs_cons (fun _ => trivial) (vcs_cons (fun _ => trivial) (vcs_cons (fun _ => trivial) (vcs_cons (fun hp => absurd z19 (pt_true hp).1) (vcs_cons (fun hp => absurd z19 (pt_true (pt_true hp).2).1) (vcs_cons (fun hp => absurd z19 (pt_true (pt_true (pt_true hp).2).2).1) (vcs_cons (fun hp => absurd z19 (pt_true (pt_true (pt_true (pt_true hp).2).2).2).1) (vcs_cons (fun hp => absurd z19 (pt_true (pt_true (pt_true (pt_true (pt_true hp).2).2).2).2).1) (vcs_cons (fun hp => absurd z19 (pt_true (pt_true (pt_true (pt_true (pt_true (pt_true hp).2).2).2).2).2).1) (vcs_cons (fun hp => absurd z19 (pt_true (pt_true (pt_true (pt_true (pt_true (pt_true hp).2).2).2).2).2).1) (vcs_cons (fun hp => absurd z19 (pt_true (pt_true (pt_true (pt_true (pt_true (pt_true (pt_true hp).2).2).2).2).2).2).1) (vcs_cons (fun hp => absurd z19 (pt_true (pt_true (pt_true (pt_true (pt_true (pt_true (pt_true (pt_true hp).2).2).2).2).2).2).2).1) (vcs_cons (fun hp => absurd z19 (pt_true (pt_true (pt_true (pt_true (pt_true (pt_true (pt_true (pt_true (pt_true hp).2).2).2).2).2).2).2).2).1) (vcs_cons (fun hp => absurd z19 (pt_true (pt_true (pt_true (pt_true (pt_true (pt_true (pt_true (pt_true (pt_true (pt_true hp).2).2).2).2).2).2).2).2).2).1) (vcs_cons (fun hp => absurd z19 (pt_true (pt_true (pt_true (pt_true (pt_true (pt_true (pt_true (pt_true (pt_true (pt_true (pt_true hp).2).2).2).2).2).2).2).2).2).2).1) (vcs_cons (fun _ => trivial) (vcs_cons (fun _ => trivial) (vcs_cons (fun hp => absurd z232 (pt_true (pt_true (pt_true hp).2).2).1) (vcs_cons (fun hp => absurd z232 (pt_true (pt_true (pt_true hp).2).2).1) (vcs_cons (fun hp => absurd z232 (pt_true (pt_true hp).2).1) (vcs_cons (fun hp => absurd z232 (pt_true (pt_true hp).2).1) (vcs_cons (fun hp => absurd z232 (pt_true (pt_true hp).2).1) (vcs_cons (fun hp => absurd z232 (pt_true (pt_true hp).2).1) (vcs_cons (fun hp => absurd z232 (pt_true (pt_true hp).2).1) (vcs_cons (fun hp => absurd z232 (pt_true (pt_true (pt_true hp).2).2).1) (vcs_cons (fun hp => absurd z232 (pt_true (pt_true (pt_true hp).2).2).1) (vcs_cons (fun hp => absurd z232 (pt_true (pt_true (pt_true hp).2).2).1) (vcs_cons (fun hp => absurd z232 (pt_true (pt_true (pt_true hp).2).2).1) (vcs_cons (fun hp => absurd z232 (pt_true (pt_true (pt_true (pt_true (pt_true hp).2).2).2).2).1) (vcs_cons (fun hp => absurd z232 (pt_true (pt_true (pt_true (pt_true (pt_true hp).2).2).2).2).1) (vcs_nil))))))))))))))))))))))))))))))
   · intro x hx
     have hx' : x = .bool (decide (v 339 ≠ 0)) := hx
     have hr : v 339 = 1 := norm_val (X := cxG [a0, a1, a2, a3, a4, a5, a6, a7]) (v := v) (l := nd_st) (extG_ok _) hs (k := 339) (r := .c 1) (ps := [(11, .c 1), (13, .c 0), (226, .c 1), (228, .c 1)]) (nz := []) (ps_cons u11 (ps_cons u13 (ps_cons u226 (ps_cons u228 ps_nil)))) nz_nil (by kernel_rfl)
     rw [hx', hr]; rfl
 rcases two_of Q16 with ⟨g4, u16⟩ | ⟨g4, u16⟩
 · have z19 : v 19 = 0 := norm_val (X := cxG [a0, a1, a2, a3, a4, a5, a6, a7]) (v := v) (l := nd_st) (extG_ok _) hs (k := 19) (r := .c 0) (ps := [(11, .c 1), (13, .c 1), (16, .c 1), (226, .c 1), (228, .c 1)]) (nz := []) (ps_cons u11 (ps_cons u13 (ps_cons u16 (ps_cons u226 (ps_cons u228 ps_nil))))) nz_nil (by kernel_rfl)
   have z17 : v 17 = 0 := norm_val (X := cxG [a0, a1, a2, a3, a4, a5, a6, a7]) (v := v) (l := nd_st) (extG_ok _) hs (k := 17) (r := .c 0) (ps := [(11, .c 1), (13, .c 1), (16, .c 1), (226, .c 1), (228, .c 1)]) (nz := []) (ps_cons u11 (ps_cons u13 (ps_cons u16 (ps_cons u226 (ps_cons u228 ps_nil))))) nz_nil (by kernel_rfl)
   refine ⟨vcs_rev ?_, ?_⟩
   · exact vcs_cons (fun _ => trivial) (vcs_cons (fun _ => trivial) (vcs_cons (fun _ => trivial) (vcs_cons (fun hp => absurd z19 (pt_true hp).1) (vcs_cons (fun hp => absurd z19 (pt_true (pt_true hp).2).1) (vcs_cons (fun hp => absurd z19 (pt_true (pt_true (pt_true hp).2).2).1) (vcs_cons (fun hp => absurd z19 (pt_true (pt_true (pt_true (pt_true hp).2).2).2).1) (vcs_cons (fun hp => absurd z19 (pt_true (pt_true (pt_true (pt_true (pt_true hp).2).2).2).2).1) (vcs_cons (fun hp => absurd z19 (pt_true (pt_true (pt_true (pt_true (pt_true (pt_true hp).2).2).2).2).2).1) (vcs_cons (fun hp => absurd z19 (pt_true (pt_true (pt_true (pt_true (pt_true (pt_true hp).2).2).2).2).2).1) (vcs_cons (fun hp => absurd z19 (pt_true (pt_true (pt_true (pt_true (pt_true (pt_true (pt_true hp).2).2).2).2).2).2).1) (vcs_cons (fun hp => absurd z19 (pt_true (pt_true (pt_true (pt_true (pt_true (pt_true (pt_true (pt_true hp).2).2).2).2).2).2).2).1) (vcs_cons (fun hp => absurd z19 (pt_true (pt_true (pt_true (pt_true (pt_true (pt_true (pt_true (pt_true (pt_true hp).2).2).2).2).2).2).2).2).1) (vcs_cons (fun hp => absurd z19 (pt_true (pt_true (pt_true (pt_true (pt_true (pt_true (pt_true (pt_true (pt_true (pt_true hp).2).2).2).2).2).2).2).2).2).1) (vcs_cons (fun hp => absurd z19 (pt_true (pt_true (pt_true (pt_true (pt_true (pt_true (pt_true (pt_true (pt_true (pt_true (pt_true hp).2).2).2).2).2).2).2).2).2).2).1) (vcs_cons (fun _ => trivial) (vcs_cons (fun _ => trivial) (vcs_cons (fun hp => absurd z17 (pt_true (pt_true hp).2).1) (vcs_cons (fun hp => absurd z17 (pt_true (pt_true hp).2).1) (vcs_cons (fun hp => absurd z17 (pt_true hp).1) (vcs_cons (fun hp => absurd z17 (pt_true hp).1) (vcs_cons (fun hp => absurd z17 (pt_true hp).1) (vcs_cons (fun hp => absurd z17 (pt_true hp).1) (vcs_cons (fun hp => absurd z17 (pt_true hp).1) (vcs_cons (fun hp => absurd z17 (pt_true (pt_true hp).2).1) (vcs_cons (fun hp => absurd z17 (pt_true (pt_true hp).2).1) (vcs_cons (fun hp => absurd z17 (pt_true (pt_true hp).2).1) (vcs_cons (fun hp => absurd z17 (pt_true (pt_true hp).2).1) (vcs_cons (fun hp => absurd z17 (pt_true (pt_true (pt_true (pt_true hp).2).2).2).1) (vcs_cons (fun hp => absurd z17 (pt_true (pt_true (pt_true (pt_true hp).2).2).2).1) (vcs_nil))))))))))))))))))))))))))))))
   · intro x hx
     have hx' : x = .bool (decide (v 339 ≠ 0)) := hx
     have hr : v 339 = 1 := norm_val (X := cxG [a0, a1, a2, a3, a4, a5, a6, a7]) (v := v) (l := nd_st) (extG_ok _) hs (k := 339) (r := .c 1) (ps := [(11, .c 1), (13, .c 1), (16, .c 1), (226, .c 1), (228, .c 1)]) (nz := []) (ps_cons u11 (ps_cons u13 (ps_cons u16 (ps_cons u226 (ps_cons u228 ps_nil))))) nz_nil (by kernel_rfl)
     rw [hx', hr]; rfl
 have m1 := g1.1
 have m2 := g1.2
 have m5 := g2.1
 have m6 := g2.2
 clear g1 g2 Q11 Q13 Q16 Q226 Q228 e222 e223 e224 e225 e226
 have S1 := st1 m1 m5 (t1 := v 23) (t2 := v 24) (s1 := v 28) (s2 := v 29) (x33 := v 33) (x34 := v 34) (y241 := v 241) (y242 := v 242) (y233 := v 233) (y234 := v 234) (satF hs 23 rfl) (satF hs 24 rfl) (satF hs 28 rfl) (satF hs 29 rfl) (satF hs 33 rfl) (satF hs 34 rfl) (satF hs 241 rfl) (satF hs 242 rfl) (satF hs 233 rfl) (satF hs 234 rfl)
 obtain ⟨⟨T0, T4⟩, w241, w242, arc33, PS⟩ := S1
 have P243 : paV (v 243) (v 244) (v 6) (v 7) = paV (v 33) (v 34) (v 6) (v 7) ∧ arcV (v 243) (v 244) = true := by
  have w239 : v 239 = b2i (arcV (v 233) (v 234)) := by rw [(satF hs 239 rfl).trans (show _ = if v 237 ≠ 0 then v 238 else (0 : Int) from rfl), show v 237 = if v 235 ≠ 0 then v 236 else (0 : Int) from (satF hs 237 rfl), show v 235 = b2i (decide (v 233 ≤ v 234)) from (satF hs 235 rfl), show v 236 = b2i (decide (v 233 ≥ (-1099511627776 : Int))) from (satF hs 236 rfl), show v 238 = b2i (decide (v 234 ≤ (1099511627776 : Int))) from (satF hs 238 rfl)]; exact arc_ref _ _
  rw [show v 243 = if v 240 ≠ 0 then v 241 else v 233 from (satF hs 243 rfl), show v 244 = if v 240 ≠ 0 then v 242 else v 234 from (satF hs 244 rfl), show v 240 = if v 239 ≠ 0 then (0 : Int) else (1 : Int) from (satF hs 240 rfl), w239]
  cases hq : arcV (v 233) (v 234)
  · rw [if_pos (show (if b2i false ≠ 0 then (0 : Int) else 1) ≠ 0 by decide), if_pos (show (if b2i false ≠ 0 then (0 : Int) else 1) ≠ 0 by decide), w241, w242]
    exact ⟨rfl, arc33⟩
  · rw [if_neg (show ¬ (if b2i true ≠ 0 then (0 : Int) else 1) ≠ 0 by decide), if_neg (show ¬ (if b2i true ≠ 0 then (0 : Int) else 1) ≠ 0 by decide)]
    exact ⟨PS _ _, hq⟩
 have i0 : v 245 = v 38 := (show v 245 = (paV (v 243) (v 244) (v 6) (v 7)).getD 0 0 from (satF hs 245 rfl)).trans ((congrArg (fun l : List Int => l.getD 0 0) P243.1).trans (show v 38 = (paV (v 33) (v 34) (v 6) (v 7)).getD 0 0 from (satF hs 38 rfl)).symm)
 have i1 : v 246 = v 39 := (show v 246 = (paV (v 243) (v 244) (v 6) (v 7)).getD 1 0 from (satF hs 246 rfl)).trans ((congrArg (fun l : List Int => l.getD 1 0) P243.1).trans (show v 39 = (paV (v 33) (v 34) (v 6) (v 7)).getD 1 0 from (satF hs 39 rfl)).symm)
 have i2 : v 247 = v 40 := (show v 247 = (paV (v 243) (v 244) (v 6) (v 7)).getD 2 0 from (satF hs 247 rfl)).trans ((congrArg (fun l : List Int => l.getD 2 0) P243.1).trans (show v 40 = (paV (v 33) (v 34) (v 6) (v 7)).getD 2 0 from (satF hs 40 rfl)).symm)
 have i3 : v 248 = v 41 := (show v 248 = (paV (v 243) (v 244) (v 6) (v 7)).getD 3 0 from (satF hs 248 rfl)).trans ((congrArg (fun l : List Int => l.getD 3 0) P243.1).trans (show v 41 = (paV (v 33) (v 34) (v 6) (v 7)).getD 3 0 from (satF hs 41 rfl)).symm)
 have i4 : v 249 = v 42 := (show v 249 = (paV (v 243) (v 244) (v 6) (v 7)).getD 4 0 from (satF hs 249 rfl)).trans ((congrArg (fun l : List Int => l.getD 4 0) P243.1).trans (show v 42 = (paV (v 33) (v 34) (v 6) (v 7)).getD 4 0 from (satF hs 42 rfl)).symm)
 have PB : -200000 ≤ v 40 ∧ v 40 ≤ v 41 ∧ v 41 ≤ 200000 := by
  have a := (pa_bd (a := v 33) (b := v 34) m6.1 m6.2.1).2
  rw [← show v 40 = (paV (v 33) (v 34) (v 6) (v 7)).getD 2 0 from (satF hs 40 rfl), ← show v 41 = (paV (v 33) (v 34) (v 6) (v 7)).getD 3 0 from (satF hs 41 rfl)] at a
  omega
 have C1 : 1 ≤ v 2 ∧ v 2 ≤ v 3 ∧ v 3 ≤ 200000 := by omega
 have z252 : v 252 = v 47 := norm_eq (X := cxG [a0, a1, a2, a3, a4, a5, a6, a7]) (v := v) (l := nd_st) (extG_ok _) hs (k := 252) (j := 47) (ps := [(11, .c 1), (13, .c 1), (16, .c 0), (226, .c 1), (228, .c 1), (247, .n 40)]) (ps_cons u11 (ps_cons u13 (ps_cons u16 (ps_cons u226 (ps_cons u228 (ps_cons i2 ps_nil)))))) (by kernel_rfl)
 have z255 : v 255 = v 50 := norm_eq (X := cxG [a0, a1, a2, a3, a4, a5, a6, a7]) (v := v) (l := nd_st) (extG_ok _) hs (k := 255) (j := 50) (ps := [(11, .c 1), (13, .c 1), (16, .c 0), (226, .c 1), (228, .c 1), (248, .n 41)]) (ps_cons u11 (ps_cons u13 (ps_cons u16 (ps_cons u226 (ps_cons u228 (ps_cons i3 ps_nil)))))) (by kernel_rfl)
 have x256 : v 256 = IntKind.i64.wrap (v 40 * 1073741824) := by rw [← i2]; exact (satF hs 256 rfl)
 have x263 : v 263 = IntKind.i64.wrap (v 41 * 1073741824) := by rw [← i3]; exact (satF hs 263 rfl)
 have d47 : v 47 = if b2i (decide (v 40 < 0)) ≠ 0 then v 2 else v 3 := by
  rw [show v 47 = if v 45 ≠ 0 then v 2 else v 3 from (satF hs 47 rfl), show v 45 = b2i (decide (v 40 < (0 : Int))) from (satF hs 45 rfl)]
 have d50 : v 50 = if b2i (decide (v 41 < 0)) ≠ 0 then v 3 else v 2 := by
  rw [show v 50 = if v 48 ≠ 0 then v 3 else v 2 from (satF hs 50 rfl), show v 48 = b2i (decide (v 41 < (0 : Int))) from (satF hs 48 rfl)]
 obtain ⟨p47, p50, wL, wH, LH⟩ := st2 PB C1 d47 d50 z252 z255 x256 x263 (y257 := v 257) (y258 := v 258) (y259 := v 259) (y260 := v 260) (L := v 262) (y264 := v 264) (y265 := v 265) (y266 := v 266) (y267 := v 267) (H := v 269) (satF hs 257 rfl) (satF hs 258 rfl) (satF hs 259 rfl) (satF hs 260 rfl) (satF hs 262 rfl) (satF hs 264 rfl) (satF hs 265 rfl) (satF hs 266 rfl) (satF hs 267 rfl) (satF hs 269 rfl)
 clear x256 x263 d47 d50
 have o1 := qce_one (v 40) 1073741824 (v 47) p47.1
 have o2 := qce_one (v 41) 1073741824 (v 50) p50.1
 have k1 := (qFl_bd (v 40) 1073741824 (v 47) _ p47.1 (Int.le_refl _)).2.2.2.2.1
 have k2 := (qFl_bd (v 41) 1073741824 (v 50) _ p50.1 (Int.le_refl _)).2.2.2.2.1
 rw [← wL] at o1 k1
 rw [← wH] at o2 k2
 have f51 : v 51 = fxfL (v 262) (qCe (v 40) 1073741824 (v 47)) := by rw [wL]; exact (satF hs 51 rfl)
 have f53 : v 53 = fxfE (v 262) (qCe (v 40) 1073741824 (v 47)) := by rw [wL]; exact (satF hs 53 rfl)
 have f57 : v 57 = fxfH (qFl (v 41) 1073741824 (v 50)) (v 269) := by rw [wH]; exact (satF hs 57 rfl)
 have f58 : v 58 = fxfE (qFl (v 41) 1073741824 (v 50)) (v 269) := by rw [wH]; exact (satF hs 58 rfl)
 clear wL wH
 generalize qCe (v 40) 1073741824 (v 47) = x1 at *
 generalize qFl (v 41) 1073741824 (v 50) = x2 at *
 have Q276 := st3 (L := v 262) (H := v 269) (x270 := v 270) (x271 := v 271) (x272 := v 272) (x273 := v 273) (x274 := v 274) (x275 := v 275) (x276 := v 276) (satF hs 270 rfl) (satF hs 271 rfl) (satF hs 272 rfl) (satF hs 273 rfl) (satF hs 274 rfl) (satF hs 275 rfl) (satF hs 276 rfl)
 have e277 : v 277 = if v 276 ≠ 0 then (0 : Int) else (1 : Int) := (satF hs 277 rfl)
 have G2 : v 277 ≠ 0 → fxV (v 262) (v 269) = true := by
  rw [e277, Q276]
  intro h
  by_cases q : ((v 262 < -2147483648 ∨ v 269 > 2147483648) ∨ v 269 < -1073741824) ∨ v 262 > 1073741824
  · rw [decide_eq_true q] at h; exact absurd rfl h
  · exact (fxV_iff _ _).2 (by omega)
 clear e277
 have e278 : v 278 = (semE 36 [v 262, v 269]).getD 0 0 := (satF hs 278 rfl)
 have e279 : v 279 = (semE 36 [v 262, v 269]).getD 1 0 := (satF hs 279 rfl)
 have H2 : -5400000 ≤ v 278 ∧ v 278 ≤ v 279 ∧ v 279 ≤ 5400000 := by
  rw [e278, e279]; exact asn36 _ _ LH
 have MK1 : MkP (v 40) (v 47) := ⟨by omega, by omega, .inl (by omega)⟩
 have MK2 : MkP (v 41) (v 50) := ⟨by omega, by omega, .inl (by omega)⟩
 have F6 : fxV (v 69) (v 70) = true := by
  rw [show v 69 = (semE 6 [v 64, v 65]).getD 0 0 from (satF hs 69 rfl), show v 70 = (semE 6 [v 64, v 65]).getD 1 0 from (satF hs 70 rfl)]; exact sem_fitV6 _ _
 have F7 : fxV (v 281) (v 282) = true := by
  rw [show v 281 = (semE 6 [v 278, v 279]).getD 0 0 from (satF hs 281 rfl), show v 282 = (semE 6 [v 278, v 279]).getD 1 0 from (satF hs 282 rfl)]; exact sem_fitV6 _ _
 have N2 : factB (v 2) = true := fac0 (by omega) (by omega)
 have N3 : factB (v 3) = true := fac0 (by omega) (by omega)
 have P45 : (-200000000 ≤ v 28 ∧ v 28 ≤ v 29 ∧ v 29 ≤ 200000000) ∧ (-200000000 ≤ v 23 ∧ v 23 ≤ v 24 ∧ v 24 ≤ 200000000) := by omega
 have h6 : v 7 ≤ 400000 := by omega
 have n252 : v 252 ≠ 0 := by rw [z252]; omega
 have n255 : v 255 ≠ 0 := by rw [z255]; omega
 have A278 : arcV (v 278) (v 279) = true := (arcV_iff _ _).2 (by omega)
 have J47 : arcV (v 301) (v 302) = true := by
  rw [arcV_iff, show v 301 = IntKind.i64.wrap (v 23 - v 279) from (satF hs 301 rfl), show v 302 = IntKind.i64.wrap (v 24 - v 278) from (satF hs 302 rfl), IntWalk.i64_in _ (by omega), IntWalk.i64_in _ (by omega)]
  omega
 by_cases ok1 : -2147483648 ≤ v 262 ∧ v 262 ≤ x1 ∧ x1 ≤ 2147483648
 rotate_left
 · have E53 : v 53 = 5 := by rw [f53]; exact if_neg ok1
   have u276 : v 276 = 1 := by rw [Q276, decide_eq_true (by omega)]; rfl
   have z63 : v 63 = 0 := norm_val (X := cxG [a0, a1, a2, a3, a4, a5, a6, a7]) (v := v) (l := nd_st) (extG_ok _) hs (k := 63) (r := .c 0) (ps := [(11, .c 1), (13, .c 1), (16, .c 0), (53, .c 5), (226, .c 1), (228, .c 1), (245, .n 38), (246, .n 39), (247, .n 40), (248, .n 41), (249, .n 42), (276, .c 1)]) (nz := []) (ps_cons u11 (ps_cons u13 (ps_cons u16 (ps_cons E53 (ps_cons u226 (ps_cons u228 (ps_cons i0 (ps_cons i1 (ps_cons i2 (ps_cons i3 (ps_cons i4 (ps_cons u276 ps_nil)))))))))))) nz_nil (by kernel_rfl)
   refine ⟨vcs_rev ?_, ?_⟩
   · exact vcs_cons (fun _ => trivial) (vcs_cons (fun _ => trivial) (vcs_cons (fun _ => trivial) (vcs_cons (fun _ => m1) (vcs_cons (fun _ => m5) (vcs_cons (fun _ => P45) (vcs_cons (fun _ => ⟨arc33, m6.1, m6.2.1, h6⟩) (vcs_cons (fun _ => MK1) (vcs_cons (fun _ => MK2) (vcs_cons (fun hp => absurd z63 (pt_true hp).1) (vcs_cons (fun hp => absurd z63 (pt_true (pt_true hp).2).1) (vcs_cons (fun _ => ⟨F6, N2⟩) (vcs_cons (fun _ => ⟨F6, N3⟩) (vcs_cons (fun hp => absurd z63 (pt_true (pt_true (pt_true (pt_true (pt_true hp).2).2).2).2).1) (vcs_cons (fun hp => absurd z63 (pt_true (pt_true (pt_true (pt_true (pt_true (pt_true hp).2).2).2).2).2).1) (vcs_cons (fun _ => trivial) (vcs_cons (fun _ => trivial) (vcs_cons (fun _ => m5) (vcs_cons (fun _ => m1) (vcs_cons (fun _ => ⟨P243.2, m6.1, m6.2.1, h6⟩) (vcs_cons (fun _ => n252) (vcs_cons (fun _ => n252) (vcs_cons (fun _ => n255) (vcs_cons (fun _ => n255) (vcs_cons (fun hp => G2 (pt_true hp).1) (vcs_cons (fun _ => A278) (vcs_cons (fun _ => ⟨F7, N2⟩) (vcs_cons (fun _ => ⟨F7, N3⟩) (vcs_cons (fun _ => m1) (vcs_cons (fun _ => J47) (vcs_nil))))))))))))))))))))))))))))))
   · intro x hx
     have hx' : x = .bool (decide (v 339 ≠ 0)) := hx
     suffices hr : v 339 = 1 by rw [hx', hr]; rfl
     exact norm_val (X := cxG [a0, a1, a2, a3, a4, a5, a6, a7]) (v := v) (l := nd_st) (extG_ok _) hs (k := 339) (r := .c 1) (ps := [(11, .c 1), (13, .c 1), (16, .c 0), (53, .c 5), (226, .c 1), (228, .c 1), (245, .n 38), (246, .n 39), (247, .n 40), (248, .n 41), (249, .n 42), (276, .c 1)]) (nz := []) (ps_cons u11 (ps_cons u13 (ps_cons u16 (ps_cons E53 (ps_cons u226 (ps_cons u228 (ps_cons i0 (ps_cons i1 (ps_cons i2 (ps_cons i3 (ps_cons i4 (ps_cons u276 ps_nil)))))))))))) nz_nil (by kernel_rfl)
 have E53 : v 53 = 0 := by rw [f53]; exact if_pos ok1
 have V51 : v 51 = v 262 := by rw [f51]; exact if_pos ok1
 by_cases ok2 : -2147483648 ≤ x2 ∧ x2 ≤ v 269 ∧ v 269 ≤ 2147483648
 rotate_left
 · have E58 : v 58 = 5 := by rw [f58]; exact if_neg ok2
   have u276 : v 276 = 1 := by rw [Q276, decide_eq_true (by omega)]; rfl
   have z63 : v 63 = 0 := norm_val (X := cxG [a0, a1, a2, a3, a4, a5, a6, a7]) (v := v) (l := nd_st) (extG_ok _) hs (k := 63) (r := .c 0) (ps := [(11, .c 1), (13, .c 1), (16, .c 0), (53, .c 0), (58, .c 5), (226, .c 1), (228, .c 1), (245, .n 38), (246, .n 39), (247, .n 40), (248, .n 41), (249, .n 42), (276, .c 1)]) (nz := []) (ps_cons u11 (ps_cons u13 (ps_cons u16 (ps_cons E53 (ps_cons E58 (ps_cons u226 (ps_cons u228 (ps_cons i0 (ps_cons i1 (ps_cons i2 (ps_cons i3 (ps_cons i4 (ps_cons u276 ps_nil))))))))))))) nz_nil (by kernel_rfl)
   refine ⟨vcs_rev ?_, ?_⟩
   · exact vcs_cons (fun _ => trivial) (vcs_cons (fun _ => trivial) (vcs_cons (fun _ => trivial) (vcs_cons (fun _ => m1) (vcs_cons (fun _ => m5) (vcs_cons (fun _ => P45) (vcs_cons (fun _ => ⟨arc33, m6.1, m6.2.1, h6⟩) (vcs_cons (fun _ => MK1) (vcs_cons (fun _ => MK2) (vcs_cons (fun hp => absurd z63 (pt_true hp).1) (vcs_cons (fun hp => absurd z63 (pt_true (pt_true hp).2).1) (vcs_cons (fun _ => ⟨F6, N2⟩) (vcs_cons (fun _ => ⟨F6, N3⟩) (vcs_cons (fun hp => absurd z63 (pt_true (pt_true (pt_true (pt_true (pt_true hp).2).2).2).2).1) (vcs_cons (fun hp => absurd z63 (pt_true (pt_true (pt_true (pt_true (pt_true (pt_true hp).2).2).2).2).2).1) (vcs_cons (fun _ => trivial) (vcs_cons (fun _ => trivial) (vcs_cons (fun _ => m5) (vcs_cons (fun _ => m1) (vcs_cons (fun _ => ⟨P243.2, m6.1, m6.2.1, h6⟩) (vcs_cons (fun _ => n252) (vcs_cons (fun _ => n252) (vcs_cons (fun _ => n255) (vcs_cons (fun _ => n255) (vcs_cons (fun hp => G2 (pt_true hp).1) (vcs_cons (fun _ => A278) (vcs_cons (fun _ => ⟨F7, N2⟩) (vcs_cons (fun _ => ⟨F7, N3⟩) (vcs_cons (fun _ => m1) (vcs_cons (fun _ => J47) (vcs_nil))))))))))))))))))))))))))))))
   · intro x hx
     have hx' : x = .bool (decide (v 339 ≠ 0)) := hx
     suffices hr : v 339 = 1 by rw [hx', hr]; rfl
     exact norm_val (X := cxG [a0, a1, a2, a3, a4, a5, a6, a7]) (v := v) (l := nd_st) (extG_ok _) hs (k := 339) (r := .c 1) (ps := [(11, .c 1), (13, .c 1), (16, .c 0), (53, .c 0), (58, .c 5), (226, .c 1), (228, .c 1), (245, .n 38), (246, .n 39), (247, .n 40), (248, .n 41), (249, .n 42), (276, .c 1)]) (nz := []) (ps_cons u11 (ps_cons u13 (ps_cons u16 (ps_cons E53 (ps_cons E58 (ps_cons u226 (ps_cons u228 (ps_cons i0 (ps_cons i1 (ps_cons i2 (ps_cons i3 (ps_cons i4 (ps_cons u276 ps_nil))))))))))))) nz_nil (by kernel_rfl)
 have E58 : v 58 = 0 := by rw [f58]; exact if_pos ok2
 have V57 : v 57 = v 269 := by rw [f57]; exact if_pos ok2
 have z60 : v 60 = v 51 := norm_eq (X := cxG [a0, a1, a2, a3, a4, a5, a6, a7]) (v := v) (l := nd_st) (extG_ok _) hs (k := 60) (j := 51) (ps := [(11, .c 1), (13, .c 1), (16, .c 0), (53, .c 0), (58, .c 0), (226, .c 1), (228, .c 1), (245, .n 38), (246, .n 39), (247, .n 40), (248, .n 41), (249, .n 42)]) (ps_cons u11 (ps_cons u13 (ps_cons u16 (ps_cons E53 (ps_cons E58 (ps_cons u226 (ps_cons u228 (ps_cons i0 (ps_cons i1 (ps_cons i2 (ps_cons i3 (ps_cons i4 ps_nil)))))))))))) (by kernel_rfl)
 have z61 : v 61 = v 57 := norm_eq (X := cxG [a0, a1, a2, a3, a4, a5, a6, a7]) (v := v) (l := nd_st) (extG_ok _) hs (k := 61) (j := 57) (ps := [(11, .c 1), (13, .c 1), (16, .c 0), (53, .c 0), (58, .c 0), (226, .c 1), (228, .c 1), (245, .n 38), (246, .n 39), (247, .n 40), (248, .n 41), (249, .n 42)]) (ps_cons u11 (ps_cons u13 (ps_cons u16 (ps_cons E53 (ps_cons E58 (ps_cons u226 (ps_cons u228 (ps_cons i0 (ps_cons i1 (ps_cons i2 (ps_cons i3 (ps_cons i4 ps_nil)))))))))))) (by kernel_rfl)
 have F60 : fxV (v 60) (v 61) = true := by rw [z60, z61, V51, V57]; exact (fxV_iff _ _).2 (by omega)
 have e64 : v 64 = (semE 36 [v 60, v 61]).getD 0 0 := satF hs 64 rfl
 have e65 : v 65 = (semE 36 [v 60, v 61]).getD 1 0 := satF hs 65 rfl
 have H1 : -5400000 ≤ v 64 ∧ v 64 ≤ v 65 ∧ v 65 ≤ 5400000 := by
  rw [e64, e65]; exact asn36 _ _ (by rw [z60, z61, V51, V57]; exact LH)
 have A64 : arcV (v 64) (v 65) = true := (arcV_iff _ _).2 (by omega)
 have K45 : v 63 ≠ 0 → (-200000000 ≤ v 23 ∧ v 23 ≤ v 24 ∧ v 24 ≤ 200000000) ∧ (-200000000 ≤ v 64 ∧ v 64 ≤ v 65 ∧ v 65 ≤ 200000000) := fun _ => by omega
 have w99 : v 99 = v 23 - v 65 := satF hs 99 rfl
 have w100 : v 100 = v 24 - v 64 := satF hs 100 rfl
 have K47 : v 63 ≠ 0 → arcV (v 99) (v 100) = true := fun _ => (arcV_iff _ _).2 (by omega)
 have s278 : v 278 = v 64 := by rw [e278, e64, z60, z61, V51, V57]
 have s279 : v 279 = v 65 := by rw [e279, e65, z60, z61, V51, V57]
 have s301 : v 301 = v 99 := by rw [show v 301 = IntKind.i64.wrap (v 23 - v 279) from satF hs 301 rfl, s279, w99, IntWalk.i64_in _ (by omega)]
 have s302 : v 302 = v 100 := by rw [show v 302 = IntKind.i64.wrap (v 24 - v 278) from satF hs 302 rfl, s278, w100, IntWalk.i64_in _ (by omega)]
 have r262 : v 262 = v 51 := V51.symm
 have r269 : v 269 = v 57 := V57.symm
 have w66 : v 66 = asnE (v 262) (v 269) := by rw [show v 66 = (semE 36 [v 60, v 61]).getD 2 0 from satF hs 66 rfl, z60, z61, V51, V57]; rfl
 refine ⟨vcs_rev ?_, ?_⟩
 · exact vcs_cons (fun _ => trivial) (vcs_cons (fun _ => trivial) (vcs_cons (fun _ => trivial) (vcs_cons (fun _ => m1) (vcs_cons (fun _ => m5) (vcs_cons (fun _ => P45) (vcs_cons (fun _ => ⟨arc33, m6.1, m6.2.1, h6⟩) (vcs_cons (fun _ => MK1) (vcs_cons (fun _ => MK2) (vcs_cons (fun _ => F60) (vcs_cons (fun _ => A64) (vcs_cons (fun _ => ⟨F6, N2⟩) (vcs_cons (fun _ => ⟨F6, N3⟩) (vcs_cons (fun hp => K45 (pt_true (pt_true (pt_true (pt_true (pt_true hp).2).2).2).2).1) (vcs_cons (fun hp => K47 (pt_true (pt_true (pt_true (pt_true (pt_true (pt_true hp).2).2).2).2).2).1) (vcs_cons (fun _ => trivial) (vcs_cons (fun _ => trivial) (vcs_cons (fun _ => m5) (vcs_cons (fun _ => m1) (vcs_cons (fun _ => ⟨P243.2, m6.1, m6.2.1, h6⟩) (vcs_cons (fun _ => n252) (vcs_cons (fun _ => n252) (vcs_cons (fun _ => n255) (vcs_cons (fun _ => n255) (vcs_cons (fun hp => G2 (pt_true hp).1) (vcs_cons (fun _ => A278) (vcs_cons (fun _ => ⟨F7, N2⟩) (vcs_cons (fun _ => ⟨F7, N3⟩) (vcs_cons (fun _ => m1) (vcs_cons (fun _ => J47) (vcs_nil))))))))))))))))))))))))))))))
 · intro x hx
   have hx' : x = .bool (decide (v 339 ≠ 0)) := hx
   suffices hr : v 339 = 1 by rw [hx', hr]; rfl
   by_cases c : v 262 ≤ 1073741824 ∧ -1073741824 ≤ v 269
   · have E66 : v 66 = 0 := w66.trans (if_pos c)
     have u276 : v 276 = 0 := by rw [Q276, decide_eq_false (by omega)]; rfl
     have e91 : v 91 = b2i (decide (v 89 ≤ (0 : Int))) := satF hs 91 rfl
     have e92 : v 92 = b2i (decide (v 90 > (200000 : Int))) := satF hs 92 rfl
     rcases two_of e91 with ⟨_, u91⟩ | ⟨_, u91⟩ <;> rcases two_of e92 with ⟨_, u92⟩ | ⟨_, u92⟩
     · exact norm_val (X := cxG [a0, a1, a2, a3, a4, a5, a6, a7]) (v := v) (l := nd_st) (extG_ok _) hs (k := 339) (r := .c 1) (ps := [(11, .c 1), (13, .c 1), (16, .c 0), (53, .c 0), (58, .c 0), (66, .c 0), (91, .c 1), (92, .c 1), (226, .c 1), (228, .c 1), (245, .n 38), (246, .n 39), (247, .n 40), (248, .n 41), (249, .n 42), (262, .n 51), (269, .n 57), (276, .c 0), (301, .n 99), (302, .n 100)]) (nz := []) (ps_cons u11 (ps_cons u13 (ps_cons u16 (ps_cons E53 (ps_cons E58 (ps_cons E66 (ps_cons u91 (ps_cons u92 (ps_cons u226 (ps_cons u228 (ps_cons i0 (ps_cons i1 (ps_cons i2 (ps_cons i3 (ps_cons i4 (ps_cons r262 (ps_cons r269 (ps_cons u276 (ps_cons s301 (ps_cons s302 ps_nil)))))))))))))))))))) nz_nil (by kernel_rfl)
     · exact norm_val (X := cxG [a0, a1, a2, a3, a4, a5, a6, a7]) (v := v) (l := nd_st) (extG_ok _) hs (k := 339) (r := .c 1) (ps := [(11, .c 1), (13, .c 1), (16, .c 0), (53, .c 0), (58, .c 0), (66, .c 0), (91, .c 1), (92, .c 0), (226, .c 1), (228, .c 1), (245, .n 38), (246, .n 39), (247, .n 40), (248, .n 41), (249, .n 42), (262, .n 51), (269, .n 57), (276, .c 0), (301, .n 99), (302, .n 100)]) (nz := []) (ps_cons u11 (ps_cons u13 (ps_cons u16 (ps_cons E53 (ps_cons E58 (ps_cons E66 (ps_cons u91 (ps_cons u92 (ps_cons u226 (ps_cons u228 (ps_cons i0 (ps_cons i1 (ps_cons i2 (ps_cons i3 (ps_cons i4 (ps_cons r262 (ps_cons r269 (ps_cons u276 (ps_cons s301 (ps_cons s302 ps_nil)))))))))))))))))))) nz_nil (by kernel_rfl)
     · exact norm_val (X := cxG [a0, a1, a2, a3, a4, a5, a6, a7]) (v := v) (l := nd_st) (extG_ok _) hs (k := 339) (r := .c 1) (ps := [(11, .c 1), (13, .c 1), (16, .c 0), (53, .c 0), (58, .c 0), (66, .c 0), (91, .c 0), (92, .c 1), (226, .c 1), (228, .c 1), (245, .n 38), (246, .n 39), (247, .n 40), (248, .n 41), (249, .n 42), (262, .n 51), (269, .n 57), (276, .c 0), (301, .n 99), (302, .n 100)]) (nz := []) (ps_cons u11 (ps_cons u13 (ps_cons u16 (ps_cons E53 (ps_cons E58 (ps_cons E66 (ps_cons u91 (ps_cons u92 (ps_cons u226 (ps_cons u228 (ps_cons i0 (ps_cons i1 (ps_cons i2 (ps_cons i3 (ps_cons i4 (ps_cons r262 (ps_cons r269 (ps_cons u276 (ps_cons s301 (ps_cons s302 ps_nil)))))))))))))))))))) nz_nil (by kernel_rfl)
     · exact norm_val (X := cxG [a0, a1, a2, a3, a4, a5, a6, a7]) (v := v) (l := nd_st) (extG_ok _) hs (k := 339) (r := .c 1) (ps := [(11, .c 1), (13, .c 1), (16, .c 0), (53, .c 0), (58, .c 0), (66, .c 0), (91, .c 0), (92, .c 0), (226, .c 1), (228, .c 1), (245, .n 38), (246, .n 39), (247, .n 40), (248, .n 41), (249, .n 42), (262, .n 51), (269, .n 57), (276, .c 0), (301, .n 99), (302, .n 100)]) (nz := []) (ps_cons u11 (ps_cons u13 (ps_cons u16 (ps_cons E53 (ps_cons E58 (ps_cons E66 (ps_cons u91 (ps_cons u92 (ps_cons u226 (ps_cons u228 (ps_cons i0 (ps_cons i1 (ps_cons i2 (ps_cons i3 (ps_cons i4 (ps_cons r262 (ps_cons r269 (ps_cons u276 (ps_cons s301 (ps_cons s302 ps_nil)))))))))))))))))))) nz_nil (by kernel_rfl)
   · have E66 : v 66 = 2 := w66.trans (if_neg c)
     have u276 : v 276 = 1 := by rw [Q276, decide_eq_true (by omega)]; rfl
     exact norm_val (X := cxG [a0, a1, a2, a3, a4, a5, a6, a7]) (v := v) (l := nd_st) (extG_ok _) hs (k := 339) (r := .c 1) (ps := [(11, .c 1), (13, .c 1), (16, .c 0), (53, .c 0), (58, .c 0), (66, .c 2), (226, .c 1), (228, .c 1), (245, .n 38), (246, .n 39), (247, .n 40), (248, .n 41), (249, .n 42), (276, .c 1)]) (nz := []) (ps_cons u11 (ps_cons u13 (ps_cons u16 (ps_cons E53 (ps_cons E58 (ps_cons E66 (ps_cons u226 (ps_cons u228 (ps_cons i0 (ps_cons i1 (ps_cons i2 (ps_cons i3 (ps_cons i4 (ps_cons u276 ps_nil)))))))))))))) nz_nil (by kernel_rfl)
end Go.Proofs.YtfffpodaabdpfaaGreat
