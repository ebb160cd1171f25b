/- The contracts of Quotient of both sides, for a divisor that is not under 0 and a factor from 0 to 2^30. -/
import Derived.Test.YtfffpodaabdpfaaGreatSpE
set_option linter.unusedVariables false
set_option linter.unusedSimpArgs false
namespace Alm
theorem tdiv_nn {a b : Int} (ha : 0 ≤ a) : a.tdiv b = a / b := Int.tdiv_eq_ediv_of_nonneg ha
theorem big_lem {a n c q m : Int} (ha : 0 ≤ a) (hn : 0 ≤ n) (hc : 0 < c) (hq : q = a / c) (hm : m = n / 1048576) (h : 4194304 < m * q) : 4398046511104 < a * n / c := by
 have q0 : 0 ≤ q := by rw [hq]; exact Int.ediv_nonneg ha (by omega)
 have m0 : 0 ≤ m := by omega
 have h1 : q * c ≤ a := by rw [hq]; exact Int.ediv_mul_le a (by omega)
 have h2 : m * 1048576 ≤ n := by omega
 have h3 : (q * c) * (m * 1048576) ≤ a * n := Int.mul_le_mul h1 h2 (by omega) ha
 have h4 : (q * c) * (m * 1048576) = (m * q * 1048576) * c := by grind
 rw [h4] at h3
 have h5 := Int.le_ediv_of_mul_le hc h3
 omega
end Alm
namespace Go.Proofs.YtfffpodaabdpfaaGreat
open Go.RowKit Alm Sx
def qoL (a b c d n : Int) : Int := min (min (min (qFl a n c) (qFl a n d)) (qFl b n c)) (qFl b n d)
def qoH (a b c d n : Int) : Int := max (max (max (qCe a n c) (qCe a n d)) (qCe b n c)) (qCe b n d)
def qoV (a b c d n : Int) : List Int := if c ≤ 0 then [0, 0, 16] else if factB (qoL a b c d n) = true ∧ factB (qoH a b c d n) = true then [qoL a b c d n, qoH a b c d n, 0] else [0, 0, 5]
def qoP (a b c d n : Int) : Prop := fxV a b = true ∧ fxV c d = true ∧ 0 ≤ c ∧ 0 ≤ n ∧ n ≤ 1073741824
def EnP (x n d : Int) : Prop := (-2147483648 ≤ x ∧ x ≤ 2147483648) ∧ (-1073741824 ≤ n ∧ n ≤ 1073741824) ∧ (0 < d ∧ d ≤ 2147483648)
theorem qFl_rng {x n d : Int} (h : EnP x n d) : (-2305843009213693952 ≤ qFl x n d ∧ qFl x n d ≤ 2305843009213693952) ∧ (-2305843009213693952 ≤ qCe x n d ∧ qCe x n d ≤ 2305843009213693952) ∧ x.natAbs * n.natAbs ≤ 1267650600228229401496703205376 := by
 obtain ⟨⟨x1, x2⟩, ⟨n1, n2⟩, d1, d2⟩ := h
 have e : (x.natAbs * n.natAbs : Nat) = (x * n).natAbs := (Int.natAbs_mul x n).symm
 have m : x.natAbs * n.natAbs ≤ 2147483648 * 1073741824 := Nat.mul_le_mul (by omega) (by omega)
 rw [e] at m ⊢
 unfold qFl qCe
 generalize x * n = p at *
 have b : -2305843009213693952 ≤ p ∧ p ≤ 2305843009213693952 := by omega
 have k1 : p ≤ 2305843009213693952 * d := by have := Int.mul_le_mul_of_nonneg_left (show (1 : Int) ≤ d by omega) (show (0 : Int) ≤ 2305843009213693952 by omega); omega
 have k2 : -2305843009213693952 * d ≤ p := by have := Int.mul_le_mul_of_nonneg_left (show (1 : Int) ≤ d by omega) (show (0 : Int) ≤ 2305843009213693952 by omega); omega
 have a1 : -2305843009213693952 ≤ p / d := Int.le_ediv_of_mul_le d1 k2
 have a2 : p / d ≤ 2305843009213693952 := Int.ediv_le_of_le_mul d1 k1
 have a3 : -2305843009213693952 ≤ -p / d := Int.le_ediv_of_mul_le d1 (by omega)
 have a4 : -p / d ≤ 2305843009213693952 := Int.ediv_le_of_le_mul d1 (by omega)
 refine ⟨⟨a1, a2⟩, ⟨by omega, by omega⟩, by omega⟩
def semQo : Nat → List Int → List Int
 | 60, [x, n, d] => [qFl x n d, qCe x n d, 0]
 | 62, [x, n, d] => [qFl x n d]
 | 8, [a, b] => [b2i (fxV a b)]
 | _, _ => []
def preQo : Nat → List Int → Prop
 | 60, [x, n, d] => EnP x n d
 | 62, [x, n, d] => EnP x n d
 | 8, [_, _] => True
 | _, _ => False
def cxQo (args : List Int) : Cx := ⟨semQo, preQo, args⟩
def sEncl : Sx.Spec := ⟨246, 60, [(false, [some .i64]), (false, [some .i64]), (false, [some .i64])], [(false, [some .i64]), (false, [some .i64]), (false, [some .i64])]⟩
def rTimes : Sx.Spec := ⟨336, 62, [(false, [some .i64]), (false, [some .i64]), (false, [some .i64])], [(false, [some .i64])]⟩
def spQo : List Sx.Spec := [sEncl, rTimes, sValid]
theorem spQo_ok (args : List Int) : ∀ s ∈ spQo, SpecOK Tryz.prog (cxQo args) s := by
 intro s hs
 simp only [spQo, List.mem_cons, List.not_mem_nil, or_false] at hs
 rcases hs with rfl | rfl | rfl
 · refine ⟨ours _ _ _ Tryz.func246 rfl (by kernel_rfl), fun xs hp w => ?_⟩
   match xs, hp with
   | [x, n, d], hp =>
    have hp' : EnP x n d := hp
    have r := qFl_rng hp'
    exact c_encl_ok x n d w ⟨by have := hp'.1; omega, by have := hp'.1; omega⟩ ⟨by have := hp'.2.1; omega, by have := hp'.2.1; omega⟩ r.2.2 hp'.2.2.1 (by have := hp'.2.2.2; omega) ⟨by omega, by omega⟩ ⟨by omega, by omega⟩
 · refine ⟨ours _ _ _ Tryz.func336 rfl (by kernel_rfl), fun xs hp w => ?_⟩
   match xs, hp with
   | [x, n, d], hp =>
    have hp' : EnP x n d := hp
    have r := qFl_rng hp'
    refine (c_times x n d w hp'.1 ⟨by have := hp'.2.1; omega, by have := hp'.2.1; omega⟩ hp'.2.2 r.1).mono ?_
    rintro e w' ⟨he, hb⟩
    exact ⟨he, by rw [← hb]; exact Below.refl _ _⟩
 · refine ⟨ours _ _ _ Tryz.func212 rfl (by kernel_rfl), fun xs hp w => ?_⟩
   match xs, hp with
   | [a, b], _ =>
    refine (c_fValid a b w).mono ?_
    rintro e w' ⟨he, hb⟩
    exact ⟨by rw [he]; exact congrArg Ending.returned (bool_b2i _).symm, hb⟩
def extN (t : Tab) : Nd → Option Rf := fun _ => none
theorem extN_ok (X : Cx) : ExtOK X extN := fun v t x r ht h => by cases h
theorem norm_eq3 {X : Cx} {v : Nat → Int} {ext : Ext} (he : ExtOK X ext) {l : List Nd} (hs : SatN X v l.reverse) {ps : List (Nat × Rf)} (hp : ∀ q ∈ ps, v q.1 = q.2.val v) {k j : Nat} (h : Rf.eq ((norm ext ps [] l).rep (.n k)) ((norm ext ps [] l).rep (.n j)) = true) : v k = v j := by
 have a := rep_ok (norm_ok he hs hp nz_nil) (.n k)
 have b := rep_ok (norm_ok he hs hp nz_nil) (.n j)
 rw [Rf.eq_eq h] at a
 exact a.symm.trans b
theorem fac_b {n x y z : Int} (hx : x = b2i (decide (n ≥ (-1099511627776 : Int)))) (hy : y = b2i (decide (n ≤ (1099511627776 : Int)))) (hz : z = if x ≠ 0 then y else (0 : Int)) : z = b2i (factB n) := by
 rw [hz, hx, hy]
 unfold factB
 by_cases h1 : n ≥ (-1099511627776 : Int) <;> by_cases h2 : n ≤ (1099511627776 : Int) <;> simp [b2i, h1, h2] <;> omega
theorem mn_min {a b x : Int} (h : x = if b < a then b else a) : x = min a b := by omega
theorem mx_max {a b x : Int} (h : x = if b > a then b else a) : x = max a b := by omega
def nd_pQo : List Nd := [
 .arg 0,
 .arg 1,
 .arg 2,
 .arg 3,
 .arg 4,
 .app 8 0 [.n 0, .n 1],
 .app 8 0 [.n 2, .n 3],
 .ite (.n 5) (.n 6) (.c 0),
 .ite (.n 7) (.c 0) (.c 1),
 .bin .geq .i64 (.n 4) (.c (-1099511627776)),
 .bin .leq .i64 (.n 4) (.c 1099511627776),
 .ite (.n 9) (.n 10) (.c 0),
 .ite (.n 11) (.c 0) (.c 1),
 .bin .leq .i64 (.n 2) (.c 0),
 .bin .geq .i64 (.n 3) (.c 0),
 .ite (.n 13) (.n 14) (.c 0),
 .ite (.n 15) (.c 0) (.c 1),
 .ite (.n 11) (.n 16) (.c 0),
 .ite (.n 11) (.n 15) (.c 0),
 .ite (.n 12) (.c 1) (.n 18),
 .ite (.n 12) (.c 2) (.c 16),
 .ite (.n 8) (.c 0) (.c 1),
 .ite (.n 21) (.n 17) (.c 0),
 .ite (.n 21) (.n 19) (.c 0),
 .ite (.n 8) (.c 1) (.n 23),
 .ite (.n 8) (.c 1) (.n 20),
 .app 60 0 [.n 0, .n 4, .n 2],
 .app 60 1 [.n 0, .n 4, .n 2],
 .app 60 2 [.n 0, .n 4, .n 2],
 .bin .neq .i64 (.n 28) (.c 0),
 .ite (.n 29) (.c 0) (.c 1),
 .app 60 0 [.n 0, .n 4, .n 3],
 .app 60 1 [.n 0, .n 4, .n 3],
 .app 60 2 [.n 0, .n 4, .n 3],
 .bin .neq .i64 (.n 33) (.c 0),
 .ite (.n 34) (.c 0) (.c 1),
 .mn (.n 26) (.n 31),
 .mx (.n 27) (.n 32),
 .app 60 0 [.n 1, .n 4, .n 2],
 .app 60 1 [.n 1, .n 4, .n 2],
 .app 60 2 [.n 1, .n 4, .n 2],
 .bin .neq .i64 (.n 40) (.c 0),
 .ite (.n 41) (.c 0) (.c 1),
 .mn (.n 36) (.n 38),
 .mx (.n 37) (.n 39),
 .app 60 0 [.n 1, .n 4, .n 3],
 .app 60 1 [.n 1, .n 4, .n 3],
 .app 60 2 [.n 1, .n 4, .n 3],
 .bin .neq .i64 (.n 47) (.c 0),
 .ite (.n 48) (.c 0) (.c 1),
 .mn (.n 43) (.n 45),
 .mx (.n 44) (.n 46),
 .ite (.n 42) (.n 48) (.c 0),
 .ite (.n 42) (.n 49) (.c 0),
 .ite (.n 41) (.c 1) (.n 52),
 .ite (.n 41) (.n 36) (.n 43),
 .ite (.n 41) (.n 37) (.n 44),
 .ite (.n 41) (.c 2) (.c 3),
 .ite (.n 41) (.n 38) (.n 45),
 .ite (.n 41) (.n 39) (.n 46),
 .ite (.n 41) (.n 40) (.n 47),
 .ite (.n 41) (.n 2) (.n 3),
 .ite (.n 41) (.n 41) (.n 48),
 .ite (.n 41) (.c 1) (.c 2),
 .ite (.n 41) (.n 26) (.n 36),
 .ite (.n 41) (.n 31) (.n 38),
 .ite (.n 41) (.n 27) (.n 37),
 .ite (.n 41) (.n 32) (.n 39),
 .ite (.n 35) (.n 54) (.c 0),
 .ite (.n 35) (.n 53) (.c 0),
 .ite (.n 34) (.c 1) (.n 68),
 .ite (.n 34) (.n 26) (.n 55),
 .ite (.n 34) (.n 27) (.n 56),
 .ite (.n 34) (.c 1) (.n 57),
 .ite (.n 34) (.n 31) (.n 58),
 .ite (.n 34) (.n 32) (.n 59),
 .ite (.n 34) (.n 33) (.n 60),
 .ite (.n 34) (.n 0) (.n 1),
 .ite (.n 34) (.n 3) (.n 61),
 .ite (.n 34) (.n 34) (.n 62),
 .ite (.n 34) (.c 0) (.n 63),
 .ite (.n 34) (.n 26) (.n 64),
 .ite (.n 34) (.n 26) (.n 65),
 .ite (.n 34) (.n 27) (.n 66),
 .ite (.n 34) (.n 27) (.n 67),
 .ite (.n 30) (.n 70) (.c 0),
 .ite (.n 30) (.n 69) (.c 0),
 .ite (.n 29) (.c 1) (.n 85),
 .ite (.n 29) (.c 0) (.n 71),
 .ite (.n 29) (.c 0) (.n 72),
 .ite (.n 29) (.c 0) (.n 73),
 .ite (.n 29) (.n 26) (.n 74),
 .ite (.n 29) (.n 27) (.n 75),
 .ite (.n 29) (.n 28) (.n 76),
 .ite (.n 29) (.n 0) (.n 77),
 .ite (.n 29) (.n 2) (.n 78),
 .ite (.n 29) (.n 29) (.n 79),
 .bin .geq .i64 (.n 50) (.c (-1099511627776)),
 .bin .leq .i64 (.n 50) (.c 1099511627776),
 .ite (.n 97) (.n 98) (.c 0),
 .ite (.n 99) (.c 0) (.c 1),
 .bin .geq .i64 (.n 51) (.c (-1099511627776)),
 .bin .leq .i64 (.n 51) (.c 1099511627776),
 .ite (.n 101) (.n 102) (.c 0),
 .ite (.n 103) (.c 0) (.c 1),
 .ite (.n 100) (.c 1) (.n 104),
 .ite (.n 105) (.c 0) (.c 1),
 .ite (.n 105) (.c 0) (.n 50),
 .ite (.n 105) (.c 0) (.n 51),
 .ite (.n 105) (.c 5) (.c 0),
 .ite (.n 87) (.c 1) (.n 86),
 .ite (.n 87) (.c 0) (.n 107),
 .ite (.n 87) (.c 0) (.n 108),
 .ite (.n 87) (.c 5) (.n 109),
 .ite (.n 87) (.n 88) (.n 50),
 .ite (.n 87) (.n 89) (.n 51),
 .ite (.n 87) (.n 90) (.c 3),
 .ite (.n 87) (.n 91) (.n 45),
 .ite (.n 87) (.n 92) (.n 46),
 .ite (.n 87) (.n 93) (.n 47),
 .ite (.n 87) (.n 90) (.c 4),
 .ite (.n 87) (.n 94) (.n 1),
 .ite (.n 87) (.n 95) (.n 3),
 .ite (.n 87) (.n 96) (.n 48),
 .ite (.n 22) (.n 110) (.c 0),
 .ite (.n 24) (.c 1) (.n 124),
 .ite (.n 24) (.c 0) (.n 111),
 .ite (.n 24) (.c 0) (.n 112),
 .ite (.n 24) (.n 25) (.n 113)]
def vc_pQo : List Vc := [
 ⟨[], .pre 8 [.n 0, .n 1]⟩,
 ⟨[(.n 5, true)], .pre 8 [.n 2, .n 3]⟩,
 ⟨[(.n 22, true)], .pre 60 [.n 0, .n 4, .n 2]⟩,
 ⟨[(.n 30, true), (.n 22, true)], .pre 60 [.n 0, .n 4, .n 3]⟩,
 ⟨[(.n 35, true), (.n 30, true), (.n 22, true)], .pre 60 [.n 1, .n 4, .n 2]⟩,
 ⟨[(.n 42, true), (.n 35, true), (.n 30, true), (.n 22, true)], .pre 60 [.n 1, .n 4, .n 3]⟩]
theorem wh_pQo : whole Tryz.prog spQo 20 40 124 [(true, [some .i64, some .i64]), (true, [some .i64, some .i64]), (false, [some .i64])] = some (.tup [.c (.int .i64 (.n 126)), .c (.int .i64 (.n 127)), .c (.int .i64 (.n 128))], ⟨nd_pQo.reverse, vc_pQo.reverse⟩) := by kernel_rfl
theorem wf_pQo : wfN nd_pQo.reverse = true := by kernel_rfl
set_option maxRecDepth 100000 in
theorem c_pQuot (a b c d n : Int) (w : World) (hp0 : qoP a b c d n) : Calls Tryz.prog 124 #[.agg #[.int .i64 a, .int .i64 b], .agg #[.int .i64 c, .int .i64 d], .int .i64 n] w fun e w' => e = .returned (.tuple #[.int .i64 ((qoV a b c d n).getD 0 0), .int .i64 ((qoV a b c d n).getD 1 0), .int .i64 ((qoV a b c d n).getD 2 0)]) ∧ Below w.heap.size w w' := by
 refine Sx.calls (X := cxQo [a, b, c, d, n]) hmix (spQo_ok _) wh_pQo wf_pQo (fun v hs => ?_) w
 obtain ⟨hab, hcd, c0, n0, n1⟩ := hp0
 have ha := (fxV_iff _ _).1 hab
 have hc := (fxV_iff _ _).1 hcd
 have e0 : v 0 = a := satF hs 0 rfl
 have e1 : v 1 = b := satF hs 1 rfl
 have e2 : v 2 = c := satF hs 2 rfl
 have e3 : v 3 = d := satF hs 3 rfl
 have e4 : v 4 = n := satF hs 4 rfl
 have e5 : v 5 = b2i (fxV (v 0) (v 1)) := satF hs 5 rfl
 have e6 : v 6 = b2i (fxV (v 2) (v 3)) := satF hs 6 rfl
 have e9 : v 9 = b2i (decide (v 4 ≥ (-1099511627776 : Int))) := satF hs 9 rfl
 have e10 : v 10 = b2i (decide (v 4 ≤ (1099511627776 : Int))) := satF hs 10 rfl
 have e11 : v 11 = if v 9 ≠ 0 then v 10 else (0 : Int) := satF hs 11 rfl
 have e13 : v 13 = b2i (decide (v 2 ≤ (0 : Int))) := satF hs 13 rfl
 have e14 : v 14 = b2i (decide (v 3 ≥ (0 : Int))) := satF hs 14 rfl
 have e26 : v 26 = (semQo 60 [v 0, v 4, v 2]).getD 0 0 := satF hs 26 rfl
 have e27 : v 27 = (semQo 60 [v 0, v 4, v 2]).getD 1 0 := satF hs 27 rfl
 have e28 : v 28 = (semQo 60 [v 0, v 4, v 2]).getD 2 0 := satF hs 28 rfl
 have e31 : v 31 = (semQo 60 [v 0, v 4, v 3]).getD 0 0 := satF hs 31 rfl
 have e32 : v 32 = (semQo 60 [v 0, v 4, v 3]).getD 1 0 := satF hs 32 rfl
 have e33 : v 33 = (semQo 60 [v 0, v 4, v 3]).getD 2 0 := satF hs 33 rfl
 have e36 : v 36 = if v 31 < v 26 then v 31 else v 26 := satF hs 36 rfl
 have e37 : v 37 = if v 32 > v 27 then v 32 else v 27 := satF hs 37 rfl
 have e38 : v 38 = (semQo 60 [v 1, v 4, v 2]).getD 0 0 := satF hs 38 rfl
 have e39 : v 39 = (semQo 60 [v 1, v 4, v 2]).getD 1 0 := satF hs 39 rfl
 have e40 : v 40 = (semQo 60 [v 1, v 4, v 2]).getD 2 0 := satF hs 40 rfl
 have e43 : v 43 = if v 38 < v 36 then v 38 else v 36 := satF hs 43 rfl
 have e44 : v 44 = if v 39 > v 37 then v 39 else v 37 := satF hs 44 rfl
 have e45 : v 45 = (semQo 60 [v 1, v 4, v 3]).getD 0 0 := satF hs 45 rfl
 have e46 : v 46 = (semQo 60 [v 1, v 4, v 3]).getD 1 0 := satF hs 46 rfl
 have e47 : v 47 = (semQo 60 [v 1, v 4, v 3]).getD 2 0 := satF hs 47 rfl
 have e50 : v 50 = if v 45 < v 43 then v 45 else v 43 := satF hs 50 rfl
 have e51 : v 51 = if v 46 > v 44 then v 46 else v 44 := satF hs 51 rfl
 have e97 : v 97 = b2i (decide (v 50 ≥ (-1099511627776 : Int))) := satF hs 97 rfl
 have e98 : v 98 = b2i (decide (v 50 ≤ (1099511627776 : Int))) := satF hs 98 rfl
 have e99 : v 99 = if v 97 ≠ 0 then v 98 else (0 : Int) := satF hs 99 rfl
 have e101 : v 101 = b2i (decide (v 51 ≥ (-1099511627776 : Int))) := satF hs 101 rfl
 have e102 : v 102 = b2i (decide (v 51 ≤ (1099511627776 : Int))) := satF hs 102 rfl
 have e103 : v 103 = if v 101 ≠ 0 then v 102 else (0 : Int) := satF hs 103 rfl
 have A5 : v 5 = 1 := by rw [e5, e0, e1, hab]; rfl
 have A6 : v 6 = 1 := by rw [e6, e2, e3, hcd]; rfl
 have A9 : v 9 = 1 := by rw [e9, e4, decide_eq_true (show n ≥ (-1099511627776 : Int) by omega)]; rfl
 have A10 : v 10 = 1 := by rw [e10, e4, decide_eq_true (show n ≤ (1099511627776 : Int) by omega)]; rfl
 by_cases hz : c ≤ 0
 · have A13 : v 13 = 1 := by rw [e13, e2, decide_eq_true hz]; rfl
   have A14 : v 14 = 1 := by rw [e14, e3, decide_eq_true (show d ≥ 0 by omega)]; rfl
   have z22 : v 22 = 0 := norm_val (X := cxQo [a, b, c, d, n]) (v := v) (l := nd_pQo) (extN_ok _) hs (k := 22) (r := .c 0) (ps := [(5, .c 1), (6, .c 1), (9, .c 1), (10, .c 1), (13, .c 1), (14, .c 1)]) (nz := []) (ps_cons A5 (ps_cons A6 (ps_cons A9 (ps_cons A10 (ps_cons A13 (ps_cons A14 ps_nil)))))) nz_nil (by kernel_rfl)
   have z126 : v 126 = 0 := norm_val (X := cxQo [a, b, c, d, n]) (v := v) (l := nd_pQo) (extN_ok _) hs (k := 126) (r := .c 0) (ps := [(5, .c 1), (6, .c 1), (9, .c 1), (10, .c 1), (13, .c 1), (14, .c 1)]) (nz := []) (ps_cons A5 (ps_cons A6 (ps_cons A9 (ps_cons A10 (ps_cons A13 (ps_cons A14 ps_nil)))))) nz_nil (by kernel_rfl)
   have z127 : v 127 = 0 := norm_val (X := cxQo [a, b, c, d, n]) (v := v) (l := nd_pQo) (extN_ok _) hs (k := 127) (r := .c 0) (ps := [(5, .c 1), (6, .c 1), (9, .c 1), (10, .c 1), (13, .c 1), (14, .c 1)]) (nz := []) (ps_cons A5 (ps_cons A6 (ps_cons A9 (ps_cons A10 (ps_cons A13 (ps_cons A14 ps_nil)))))) nz_nil (by kernel_rfl)
   have z128 : v 128 = 16 := norm_val (X := cxQo [a, b, c, d, n]) (v := v) (l := nd_pQo) (extN_ok _) hs (k := 128) (r := .c 16) (ps := [(5, .c 1), (6, .c 1), (9, .c 1), (10, .c 1), (13, .c 1), (14, .c 1)]) (nz := []) (ps_cons A5 (ps_cons A6 (ps_cons A9 (ps_cons A10 (ps_cons A13 (ps_cons A14 ps_nil)))))) nz_nil (by kernel_rfl)
   refine ⟨vcs_rev ?_, ?_⟩
   · exact vcs_cons (fun _ => trivial) (vcs_cons (fun _ => trivial) (vcs_cons (fun hp => absurd z22 (pt_true hp).1) (vcs_cons (fun hp => absurd z22 (pt_true (pt_true hp).2).1) (vcs_cons (fun hp => absurd z22 (pt_true (pt_true (pt_true hp).2).2).1) (vcs_cons (fun hp => absurd z22 (pt_true (pt_true (pt_true (pt_true hp).2).2).2).1) (vcs_nil))))))
   · intro x hx0
     have hx' := valV_of (v := v) (by rfl) hx0
     rw [hx']
     show Value.tuple #[.int .i64 (v 126), .int .i64 (v 127), .int .i64 (v 128)] = _
     have V : qoV a b c d n = [0, 0, 16] := if_pos hz
     rw [z126, z127, z128, V]; rfl
 · have A13 : v 13 = 0 := by rw [e13, e2, decide_eq_false hz]; rfl
   have P1 : EnP (v 0) (v 4) (v 2) := by rw [e0, e4, e2]; exact ⟨by omega, by omega, by omega⟩
   have P2 : EnP (v 0) (v 4) (v 3) := by rw [e0, e4, e3]; exact ⟨by omega, by omega, by omega⟩
   have P3 : EnP (v 1) (v 4) (v 2) := by rw [e1, e4, e2]; exact ⟨by omega, by omega, by omega⟩
   have P4 : EnP (v 1) (v 4) (v 3) := by rw [e1, e4, e3]; exact ⟨by omega, by omega, by omega⟩
   have E28 : v 28 = 0 := e28
   have E33 : v 33 = 0 := e33
   have E40 : v 40 = 0 := e40
   have E47 : v 47 = 0 := e47
   have f26 : v 26 = qFl a n c := by rw [e26, e0, e4, e2]; rfl
   have f31 : v 31 = qFl a n d := by rw [e31, e0, e4, e3]; rfl
   have f38 : v 38 = qFl b n c := by rw [e38, e1, e4, e2]; rfl
   have f45 : v 45 = qFl b n d := by rw [e45, e1, e4, e3]; rfl
   have f27 : v 27 = qCe a n c := by rw [e27, e0, e4, e2]; rfl
   have f32 : v 32 = qCe a n d := by rw [e32, e0, e4, e3]; rfl
   have f39 : v 39 = qCe b n c := by rw [e39, e1, e4, e2]; rfl
   have f46 : v 46 = qCe b n d := by rw [e46, e1, e4, e3]; rfl
   have L : v 50 = qoL a b c d n := by
    rw [mn_min e50, mn_min e43, mn_min e36, f26, f31, f38, f45]; rfl
   have H : v 51 = qoH a b c d n := by
    rw [mx_max e51, mx_max e44, mx_max e37, f27, f32, f39, f46]; rfl
   have B1 : v 99 = b2i (factB (qoL a b c d n)) := by rw [← L]; exact fac_b e97 e98 e99
   have B2 : v 103 = b2i (factB (qoH a b c d n)) := by rw [← H]; exact fac_b e101 e102 e103
   refine ⟨vcs_rev ?_, ?_⟩
   · exact vcs_cons (fun _ => trivial) (vcs_cons (fun _ => trivial) (vcs_cons (fun _ => P1) (vcs_cons (fun _ => P2) (vcs_cons (fun _ => P3) (vcs_cons (fun _ => P4) (vcs_nil))))))
   · intro x hx0
     have hx' := valV_of (v := v) (by rfl) hx0
     rw [hx']
     show Value.tuple #[.int .i64 (v 126), .int .i64 (v 127), .int .i64 (v 128)] = _
     cases h1 : factB (qoL a b c d n)
     · have b1 : v 99 = 0 := by rw [B1, h1]; rfl
       have z126 : v 126 = 0 := norm_val (X := cxQo [a, b, c, d, n]) (v := v) (l := nd_pQo) (extN_ok _) hs (k := 126) (r := .c 0) (ps := [(5, .c 1), (6, .c 1), (9, .c 1), (10, .c 1), (13, .c 0), (28, .c 0), (33, .c 0), (40, .c 0), (47, .c 0), (99, .c 0)]) (nz := []) (ps_cons A5 (ps_cons A6 (ps_cons A9 (ps_cons A10 (ps_cons A13 (ps_cons E28 (ps_cons E33 (ps_cons E40 (ps_cons E47 (ps_cons b1 ps_nil)))))))))) nz_nil (by kernel_rfl)
       have z127 : v 127 = 0 := norm_val (X := cxQo [a, b, c, d, n]) (v := v) (l := nd_pQo) (extN_ok _) hs (k := 127) (r := .c 0) (ps := [(5, .c 1), (6, .c 1), (9, .c 1), (10, .c 1), (13, .c 0), (28, .c 0), (33, .c 0), (40, .c 0), (47, .c 0), (99, .c 0)]) (nz := []) (ps_cons A5 (ps_cons A6 (ps_cons A9 (ps_cons A10 (ps_cons A13 (ps_cons E28 (ps_cons E33 (ps_cons E40 (ps_cons E47 (ps_cons b1 ps_nil)))))))))) nz_nil (by kernel_rfl)
       have z128 : v 128 = 5 := norm_val (X := cxQo [a, b, c, d, n]) (v := v) (l := nd_pQo) (extN_ok _) hs (k := 128) (r := .c 5) (ps := [(5, .c 1), (6, .c 1), (9, .c 1), (10, .c 1), (13, .c 0), (28, .c 0), (33, .c 0), (40, .c 0), (47, .c 0), (99, .c 0)]) (nz := []) (ps_cons A5 (ps_cons A6 (ps_cons A9 (ps_cons A10 (ps_cons A13 (ps_cons E28 (ps_cons E33 (ps_cons E40 (ps_cons E47 (ps_cons b1 ps_nil)))))))))) nz_nil (by kernel_rfl)
       have V : qoV a b c d n = [0, 0, 5] := by
        unfold qoV
        rw [if_neg hz, if_neg (fun q => by rw [h1] at q; exact absurd q.1 (by decide))]
       rw [z126, z127, z128, V]; rfl
     · cases h2 : factB (qoH a b c d n)
       · have b1 : v 99 = 1 := by rw [B1, h1]; rfl
         have b2 : v 103 = 0 := by rw [B2, h2]; rfl
         have z126 : v 126 = 0 := norm_val (X := cxQo [a, b, c, d, n]) (v := v) (l := nd_pQo) (extN_ok _) hs (k := 126) (r := .c 0) (ps := [(5, .c 1), (6, .c 1), (9, .c 1), (10, .c 1), (13, .c 0), (28, .c 0), (33, .c 0), (40, .c 0), (47, .c 0), (99, .c 1), (103, .c 0)]) (nz := []) (ps_cons A5 (ps_cons A6 (ps_cons A9 (ps_cons A10 (ps_cons A13 (ps_cons E28 (ps_cons E33 (ps_cons E40 (ps_cons E47 (ps_cons b1 (ps_cons b2 ps_nil))))))))))) nz_nil (by kernel_rfl)
         have z127 : v 127 = 0 := norm_val (X := cxQo [a, b, c, d, n]) (v := v) (l := nd_pQo) (extN_ok _) hs (k := 127) (r := .c 0) (ps := [(5, .c 1), (6, .c 1), (9, .c 1), (10, .c 1), (13, .c 0), (28, .c 0), (33, .c 0), (40, .c 0), (47, .c 0), (99, .c 1), (103, .c 0)]) (nz := []) (ps_cons A5 (ps_cons A6 (ps_cons A9 (ps_cons A10 (ps_cons A13 (ps_cons E28 (ps_cons E33 (ps_cons E40 (ps_cons E47 (ps_cons b1 (ps_cons b2 ps_nil))))))))))) nz_nil (by kernel_rfl)
         have z128 : v 128 = 5 := norm_val (X := cxQo [a, b, c, d, n]) (v := v) (l := nd_pQo) (extN_ok _) hs (k := 128) (r := .c 5) (ps := [(5, .c 1), (6, .c 1), (9, .c 1), (10, .c 1), (13, .c 0), (28, .c 0), (33, .c 0), (40, .c 0), (47, .c 0), (99, .c 1), (103, .c 0)]) (nz := []) (ps_cons A5 (ps_cons A6 (ps_cons A9 (ps_cons A10 (ps_cons A13 (ps_cons E28 (ps_cons E33 (ps_cons E40 (ps_cons E47 (ps_cons b1 (ps_cons b2 ps_nil))))))))))) nz_nil (by kernel_rfl)
         have V : qoV a b c d n = [0, 0, 5] := by
          unfold qoV
          rw [if_neg hz, if_neg (fun q => by rw [h2] at q; exact absurd q.2 (by decide))]
         rw [z126, z127, z128, V]; rfl
       · have b1 : v 99 = 1 := by rw [B1, h1]; rfl
         have b2 : v 103 = 1 := by rw [B2, h2]; rfl
         have z126 : v 126 = v 50 := norm_eq3 (X := cxQo [a, b, c, d, n]) (v := v) (l := nd_pQo) (extN_ok _) hs (k := 126) (j := 50) (ps := [(5, .c 1), (6, .c 1), (9, .c 1), (10, .c 1), (13, .c 0), (28, .c 0), (33, .c 0), (40, .c 0), (47, .c 0), (99, .c 1), (103, .c 1)]) (ps_cons A5 (ps_cons A6 (ps_cons A9 (ps_cons A10 (ps_cons A13 (ps_cons E28 (ps_cons E33 (ps_cons E40 (ps_cons E47 (ps_cons b1 (ps_cons b2 ps_nil))))))))))) (by kernel_rfl)
         have z127 : v 127 = v 51 := norm_eq3 (X := cxQo [a, b, c, d, n]) (v := v) (l := nd_pQo) (extN_ok _) hs (k := 127) (j := 51) (ps := [(5, .c 1), (6, .c 1), (9, .c 1), (10, .c 1), (13, .c 0), (28, .c 0), (33, .c 0), (40, .c 0), (47, .c 0), (99, .c 1), (103, .c 1)]) (ps_cons A5 (ps_cons A6 (ps_cons A9 (ps_cons A10 (ps_cons A13 (ps_cons E28 (ps_cons E33 (ps_cons E40 (ps_cons E47 (ps_cons b1 (ps_cons b2 ps_nil))))))))))) (by kernel_rfl)
         have z128 : v 128 = 0 := norm_val (X := cxQo [a, b, c, d, n]) (v := v) (l := nd_pQo) (extN_ok _) hs (k := 128) (r := .c 0) (ps := [(5, .c 1), (6, .c 1), (9, .c 1), (10, .c 1), (13, .c 0), (28, .c 0), (33, .c 0), (40, .c 0), (47, .c 0), (99, .c 1), (103, .c 1)]) (nz := []) (ps_cons A5 (ps_cons A6 (ps_cons A9 (ps_cons A10 (ps_cons A13 (ps_cons E28 (ps_cons E33 (ps_cons E40 (ps_cons E47 (ps_cons b1 (ps_cons b2 ps_nil))))))))))) nz_nil (by kernel_rfl)
         have V : qoV a b c d n = [qoL a b c d n, qoH a b c d n, 0] := by
          unfold qoV
          rw [if_neg hz, if_pos ⟨h1, h2⟩]
         rw [z126, z127, z128, V, L, H]; rfl
theorem b2i_dec2 {p : Prop} [Decidable p] {x y : Int} : (if b2i (decide p) ≠ 0 then x else y) = if p then x else y := by
 by_cases h : p <;> simp [b2i, h]
theorem b2i_or2 (p q : Bool) : ∃ r, (if b2i p ≠ 0 then (1 : Int) else b2i q) = b2i r := by
 cases p
 · exact ⟨q, rfl⟩
 · exact ⟨true, rfl⟩
theorem qFlCe (x n d : Int) (hd : 0 < d) : qFl x n d ≤ qCe x n d := by
 unfold qFl qCe
 have := Int.mul_ediv_add_emod (x * n) d
 have := Int.mul_ediv_add_emod (-(x * n)) d
 have := Int.emod_nonneg (x * n) (show d ≠ 0 by omega)
 have := Int.emod_nonneg (-(x * n)) (show d ≠ 0 by omega)
 refine Int.not_lt.1 fun hh => ?_
 have m := Int.mul_le_mul_of_nonneg_left (show -(-(x * n) / d) + 1 ≤ x * n / d by omega) (show 0 ≤ d by omega)
 have e : d * (-(-(x * n) / d) + 1) = -(d * (-(x * n) / d)) + d := by grind
 omega
def nd_rQo : List Nd := [
 .arg 0,
 .arg 1,
 .arg 2,
 .arg 3,
 .arg 4,
 .bin .geq .i64 (.n 4) (.c (-1099511627776)),
 .bin .leq .i64 (.n 4) (.c 1099511627776),
 .ite (.n 5) (.n 6) (.c 0),
 .ite (.n 7) (.c 0) (.c 1),
 .bin .leq .i64 (.n 2) (.c 0),
 .bin .geq .i64 (.n 3) (.c 0),
 .ite (.n 9) (.n 10) (.c 0),
 .ite (.n 11) (.c 0) (.c 1),
 .bin .lss .i64 (.n 2) (.c 0),
 .bin .sub .i64 (.c 0) (.n 1),
 .bin .sub .i64 (.c 0) (.n 0),
 .bin .sub .i64 (.c 0) (.n 3),
 .bin .sub .i64 (.c 0) (.n 2),
 .ite (.n 13) (.c 0) (.c 1),
 .ite (.n 13) (.n 16) (.n 2),
 .ite (.n 13) (.n 17) (.n 3),
 .ite (.n 13) (.n 14) (.n 0),
 .ite (.n 13) (.n 15) (.n 1),
 .bin .lss .i64 (.n 21) (.c 0),
 .bin .sub .i64 (.c 0) (.n 21),
 .ite (.n 23) (.c 0) (.c 1),
 .ite (.n 23) (.n 24) (.n 21),
 .bin .lss .i64 (.n 4) (.c 0),
 .bin .sub .i64 (.c 0) (.n 4),
 .ite (.n 27) (.c 0) (.c 1),
 .ite (.n 27) (.n 28) (.n 4),
 .bin .quo .i64 (.n 26) (.n 19),
 .bin .geq .i64 (.n 31) (.c 2),
 .bin .quo .i64 (.n 30) (.c 1048576),
 .bin .mul .i64 (.n 33) (.n 31),
 .bin .gtr .i64 (.n 34) (.c 4194304),
 .ite (.n 32) (.n 35) (.c 0),
 .bin .lss .i64 (.n 22) (.c 0),
 .bin .sub .i64 (.c 0) (.n 22),
 .ite (.n 37) (.c 0) (.c 1),
 .ite (.n 37) (.n 38) (.n 22),
 .bin .quo .i64 (.n 40) (.n 19),
 .bin .geq .i64 (.n 41) (.c 2),
 .bin .mul .i64 (.n 33) (.n 41),
 .bin .gtr .i64 (.n 43) (.c 4194304),
 .ite (.n 42) (.n 44) (.c 0),
 .ite (.n 36) (.c 1) (.n 45),
 .ite (.n 46) (.c 0) (.c 1),
 .app 62 0 [.n 21, .n 4, .n 19],
 .app 62 0 [.n 21, .n 4, .n 20],
 .bin .lss .i64 (.n 49) (.n 48),
 .ite (.n 50) (.c 0) (.c 1),
 .ite (.n 50) (.n 49) (.n 48),
 .app 62 0 [.n 22, .n 4, .n 19],
 .app 62 0 [.n 22, .n 4, .n 20],
 .bin .lss .i64 (.n 54) (.n 53),
 .ite (.n 55) (.c 0) (.c 1),
 .ite (.n 55) (.n 54) (.n 53),
 .bin .lss .i64 (.n 57) (.n 52),
 .ite (.n 58) (.c 0) (.c 1),
 .ite (.n 58) (.n 57) (.n 52),
 .app 62 0 [.n 21, .n 28, .n 19],
 .app 62 0 [.n 21, .n 28, .n 20],
 .bin .lss .i64 (.n 62) (.n 61),
 .ite (.n 63) (.c 0) (.c 1),
 .ite (.n 63) (.n 62) (.n 61),
 .app 62 0 [.n 22, .n 28, .n 19],
 .app 62 0 [.n 22, .n 28, .n 20],
 .bin .lss .i64 (.n 67) (.n 66),
 .ite (.n 68) (.c 0) (.c 1),
 .ite (.n 68) (.n 67) (.n 66),
 .bin .lss .i64 (.n 70) (.n 65),
 .ite (.n 71) (.c 0) (.c 1),
 .ite (.n 71) (.n 70) (.n 65),
 .bin .sub .i64 (.c 0) (.n 73),
 .bin .geq .i64 (.n 60) (.c (-1099511627776)),
 .bin .leq .i64 (.n 60) (.c 1099511627776),
 .ite (.n 75) (.n 76) (.c 0),
 .ite (.n 77) (.c 0) (.c 1),
 .bin .geq .i64 (.n 74) (.c (-1099511627776)),
 .bin .leq .i64 (.n 74) (.c 1099511627776),
 .ite (.n 79) (.n 80) (.c 0),
 .ite (.n 81) (.c 0) (.c 1),
 .ite (.n 78) (.c 1) (.n 82),
 .ite (.n 83) (.c 0) (.c 1),
 .ite (.n 83) (.c 0) (.n 60),
 .ite (.n 83) (.c 0) (.n 74),
 .ite (.n 83) (.c 5) (.c 0),
 .ite (.n 46) (.c 0) (.n 85),
 .ite (.n 46) (.c 0) (.n 86),
 .ite (.n 46) (.c 5) (.n 87),
 .ite (.n 11) (.c 0) (.n 88),
 .ite (.n 11) (.c 0) (.n 89),
 .ite (.n 11) (.c 16) (.n 90),
 .ite (.n 11) (.n 2) (.n 19),
 .ite (.n 11) (.n 3) (.n 20),
 .ite (.n 11) (.n 0) (.n 21),
 .ite (.n 11) (.n 1) (.n 22),
 .ite (.n 8) (.c 0) (.n 91),
 .ite (.n 8) (.c 0) (.n 92),
 .ite (.n 8) (.c 2) (.n 93),
 .ite (.n 8) (.n 2) (.n 94),
 .ite (.n 8) (.n 3) (.n 95),
 .ite (.n 8) (.n 0) (.n 96),
 .ite (.n 8) (.n 1) (.n 97)]
def vc_rQo : List Vc := [
 ⟨[(.n 12, true), (.n 7, true)], .ne0 (.n 19)⟩,
 ⟨[(.n 12, true), (.n 7, true), (.n 32, true)], .ne0 (.n 19)⟩,
 ⟨[(.n 12, true), (.n 7, true), (.n 36, false)], .ne0 (.n 19)⟩,
 ⟨[(.n 12, true), (.n 7, true), (.n 36, false), (.n 42, true)], .ne0 (.n 19)⟩,
 ⟨[(.n 47, true), (.n 12, true), (.n 7, true)], .pre 62 [.n 21, .n 4, .n 19]⟩,
 ⟨[(.n 47, true), (.n 12, true), (.n 7, true)], .pre 62 [.n 21, .n 4, .n 20]⟩,
 ⟨[(.n 47, true), (.n 12, true), (.n 7, true)], .pre 62 [.n 22, .n 4, .n 19]⟩,
 ⟨[(.n 47, true), (.n 12, true), (.n 7, true)], .pre 62 [.n 22, .n 4, .n 20]⟩,
 ⟨[(.n 47, true), (.n 12, true), (.n 7, true)], .pre 62 [.n 21, .n 28, .n 19]⟩,
 ⟨[(.n 47, true), (.n 12, true), (.n 7, true)], .pre 62 [.n 21, .n 28, .n 20]⟩,
 ⟨[(.n 47, true), (.n 12, true), (.n 7, true)], .pre 62 [.n 22, .n 28, .n 19]⟩,
 ⟨[(.n 47, true), (.n 12, true), (.n 7, true)], .pre 62 [.n 22, .n 28, .n 20]⟩]
theorem wh_rQo : whole Tryz.prog spQo 20 40 126 [(true, [some .i64, some .i64]), (true, [some .i64, some .i64]), (false, [some .i64])] = some (.tup [.c (.int .i64 (.n 98)), .c (.int .i64 (.n 99)), .c (.int .i64 (.n 100))], ⟨nd_rQo.reverse, vc_rQo.reverse⟩) := by kernel_rfl
theorem wf_rQo : wfN nd_rQo.reverse = true := by kernel_rfl
set_option maxRecDepth 100000 in
theorem c_rQuot (a b c d n : Int) (w : World) (hp0 : qoP a b c d n) : Calls Tryz.prog 126 #[.agg #[.int .i64 a, .int .i64 b], .agg #[.int .i64 c, .int .i64 d], .int .i64 n] w fun e w' => e = .returned (.tuple #[.int .i64 ((qoV a b c d n).getD 0 0), .int .i64 ((qoV a b c d n).getD 1 0), .int .i64 ((qoV a b c d n).getD 2 0)]) ∧ Below w.heap.size w w' := by
 refine Sx.calls (X := cxQo [a, b, c, d, n]) hmix (spQo_ok _) wh_rQo wf_rQo (fun v hs => ?_) w
 obtain ⟨hab, hcd, c0, n0, n1⟩ := hp0
 have ha := (fxV_iff _ _).1 hab
 have hc := (fxV_iff _ _).1 hcd
 have e0 : v 0 = a := satF hs 0 rfl
 have e1 : v 1 = b := satF hs 1 rfl
 have e2 : v 2 = c := satF hs 2 rfl
 have e3 : v 3 = d := satF hs 3 rfl
 have e4 : v 4 = n := satF hs 4 rfl
 have e5 : v 5 = b2i (decide (v 4 ≥ (-1099511627776 : Int))) := satF hs 5 rfl
 have e6 : v 6 = b2i (decide (v 4 ≤ (1099511627776 : Int))) := satF hs 6 rfl
 have e9 : v 9 = b2i (decide (v 2 ≤ (0 : Int))) := satF hs 9 rfl
 have e10 : v 10 = b2i (decide (v 3 ≥ (0 : Int))) := satF hs 10 rfl
 have e13 : v 13 = b2i (decide (v 2 < (0 : Int))) := satF hs 13 rfl
 have e23 : v 23 = b2i (decide (v 21 < (0 : Int))) := satF hs 23 rfl
 have e24 : v 24 = IntKind.i64.wrap ((0 : Int) - v 21) := satF hs 24 rfl
 have e26 : v 26 = if v 23 ≠ 0 then v 24 else v 21 := satF hs 26 rfl
 have e27 : v 27 = b2i (decide (v 4 < (0 : Int))) := satF hs 27 rfl
 have e28 : v 28 = IntKind.i64.wrap ((0 : Int) - v 4) := satF hs 28 rfl
 have e30 : v 30 = if v 27 ≠ 0 then v 28 else v 4 := satF hs 30 rfl
 have e31 : v 31 = IntKind.i64.wrap (Int.tdiv (v 26) (v 19)) := satF hs 31 rfl
 have e32 : v 32 = b2i (decide (v 31 ≥ (2 : Int))) := satF hs 32 rfl
 have e33 : v 33 = IntKind.i64.wrap (Int.tdiv (v 30) ((1048576 : Int))) := satF hs 33 rfl
 have e34 : v 34 = IntKind.i64.wrap (v 33 * v 31) := satF hs 34 rfl
 have e35 : v 35 = b2i (decide (v 34 > (4194304 : Int))) := satF hs 35 rfl
 have e36 : v 36 = if v 32 ≠ 0 then v 35 else (0 : Int) := satF hs 36 rfl
 have e37 : v 37 = b2i (decide (v 22 < (0 : Int))) := satF hs 37 rfl
 have e38 : v 38 = IntKind.i64.wrap ((0 : Int) - v 22) := satF hs 38 rfl
 have e40 : v 40 = if v 37 ≠ 0 then v 38 else v 22 := satF hs 40 rfl
 have e41 : v 41 = IntKind.i64.wrap (Int.tdiv (v 40) (v 19)) := satF hs 41 rfl
 have e42 : v 42 = b2i (decide (v 41 ≥ (2 : Int))) := satF hs 42 rfl
 have e43 : v 43 = IntKind.i64.wrap (v 33 * v 41) := satF hs 43 rfl
 have e44 : v 44 = b2i (decide (v 43 > (4194304 : Int))) := satF hs 44 rfl
 have e45 : v 45 = if v 42 ≠ 0 then v 44 else (0 : Int) := satF hs 45 rfl
 have e46 : v 46 = if v 36 ≠ 0 then (1 : Int) else v 45 := satF hs 46 rfl
 have e48 : v 48 = (semQo 62 [v 21, v 4, v 19]).getD 0 0 := satF hs 48 rfl
 have e49 : v 49 = (semQo 62 [v 21, v 4, v 20]).getD 0 0 := satF hs 49 rfl
 have e50 : v 50 = b2i (decide (v 49 < v 48)) := satF hs 50 rfl
 have e52 : v 52 = if v 50 ≠ 0 then v 49 else v 48 := satF hs 52 rfl
 have e53 : v 53 = (semQo 62 [v 22, v 4, v 19]).getD 0 0 := satF hs 53 rfl
 have e54 : v 54 = (semQo 62 [v 22, v 4, v 20]).getD 0 0 := satF hs 54 rfl
 have e55 : v 55 = b2i (decide (v 54 < v 53)) := satF hs 55 rfl
 have e57 : v 57 = if v 55 ≠ 0 then v 54 else v 53 := satF hs 57 rfl
 have e58 : v 58 = b2i (decide (v 57 < v 52)) := satF hs 58 rfl
 have e60 : v 60 = if v 58 ≠ 0 then v 57 else v 52 := satF hs 60 rfl
 have e61 : v 61 = (semQo 62 [v 21, v 28, v 19]).getD 0 0 := satF hs 61 rfl
 have e62 : v 62 = (semQo 62 [v 21, v 28, v 20]).getD 0 0 := satF hs 62 rfl
 have e63 : v 63 = b2i (decide (v 62 < v 61)) := satF hs 63 rfl
 have e65 : v 65 = if v 63 ≠ 0 then v 62 else v 61 := satF hs 65 rfl
 have e66 : v 66 = (semQo 62 [v 22, v 28, v 19]).getD 0 0 := satF hs 66 rfl
 have e67 : v 67 = (semQo 62 [v 22, v 28, v 20]).getD 0 0 := satF hs 67 rfl
 have e68 : v 68 = b2i (decide (v 67 < v 66)) := satF hs 68 rfl
 have e70 : v 70 = if v 68 ≠ 0 then v 67 else v 66 := satF hs 70 rfl
 have e71 : v 71 = b2i (decide (v 70 < v 65)) := satF hs 71 rfl
 have e73 : v 73 = if v 71 ≠ 0 then v 70 else v 65 := satF hs 73 rfl
 have e74 : v 74 = IntKind.i64.wrap ((0 : Int) - v 73) := satF hs 74 rfl
 have e75 : v 75 = b2i (decide (v 60 ≥ (-1099511627776 : Int))) := satF hs 75 rfl
 have e76 : v 76 = b2i (decide (v 60 ≤ (1099511627776 : Int))) := satF hs 76 rfl
 have e77 : v 77 = if v 75 ≠ 0 then v 76 else (0 : Int) := satF hs 77 rfl
 have e79 : v 79 = b2i (decide (v 74 ≥ (-1099511627776 : Int))) := satF hs 79 rfl
 have e80 : v 80 = b2i (decide (v 74 ≤ (1099511627776 : Int))) := satF hs 80 rfl
 have e81 : v 81 = if v 79 ≠ 0 then v 80 else (0 : Int) := satF hs 81 rfl
 have A5 : v 5 = 1 := by rw [e5, e4, decide_eq_true (show n ≥ (-1099511627776 : Int) by omega)]; rfl
 have A6 : v 6 = 1 := by rw [e6, e4, decide_eq_true (show n ≤ (1099511627776 : Int) by omega)]; rfl
 have A13 : v 13 = 0 := by rw [e13, e2, decide_eq_false (show ¬ c < 0 by omega)]; rfl
 by_cases hz : c ≤ 0
 · have A9 : v 9 = 1 := by rw [e9, e2, decide_eq_true hz]; rfl
   have A10 : v 10 = 1 := by rw [e10, e3, decide_eq_true (show d ≥ 0 by omega)]; rfl
   have z12 : v 12 = 0 := norm_val (X := cxQo [a, b, c, d, n]) (v := v) (l := nd_rQo) (extN_ok _) hs (k := 12) (r := .c 0) (ps := [(5, .c 1), (6, .c 1), (13, .c 0), (9, .c 1), (10, .c 1)]) (nz := []) (ps_cons A5 (ps_cons A6 (ps_cons A13 (ps_cons A9 (ps_cons A10 ps_nil))))) nz_nil (by kernel_rfl)
   have z98 : v 98 = 0 := norm_val (X := cxQo [a, b, c, d, n]) (v := v) (l := nd_rQo) (extN_ok _) hs (k := 98) (r := .c 0) (ps := [(5, .c 1), (6, .c 1), (13, .c 0), (9, .c 1), (10, .c 1)]) (nz := []) (ps_cons A5 (ps_cons A6 (ps_cons A13 (ps_cons A9 (ps_cons A10 ps_nil))))) nz_nil (by kernel_rfl)
   have z99 : v 99 = 0 := norm_val (X := cxQo [a, b, c, d, n]) (v := v) (l := nd_rQo) (extN_ok _) hs (k := 99) (r := .c 0) (ps := [(5, .c 1), (6, .c 1), (13, .c 0), (9, .c 1), (10, .c 1)]) (nz := []) (ps_cons A5 (ps_cons A6 (ps_cons A13 (ps_cons A9 (ps_cons A10 ps_nil))))) nz_nil (by kernel_rfl)
   have z100 : v 100 = 16 := norm_val (X := cxQo [a, b, c, d, n]) (v := v) (l := nd_rQo) (extN_ok _) hs (k := 100) (r := .c 16) (ps := [(5, .c 1), (6, .c 1), (13, .c 0), (9, .c 1), (10, .c 1)]) (nz := []) (ps_cons A5 (ps_cons A6 (ps_cons A13 (ps_cons A9 (ps_cons A10 ps_nil))))) nz_nil (by kernel_rfl)
   refine ⟨vcs_rev ?_, ?_⟩
   · exact vcs_cons (fun hp => absurd z12 (pt_true hp).1) (vcs_cons (fun hp => absurd z12 (pt_true hp).1) (vcs_cons (fun hp => absurd z12 (pt_true hp).1) (vcs_cons (fun hp => absurd z12 (pt_true hp).1) (vcs_cons (fun hp => absurd z12 (pt_true (pt_true hp).2).1) (vcs_cons (fun hp => absurd z12 (pt_true (pt_true hp).2).1) (vcs_cons (fun hp => absurd z12 (pt_true (pt_true hp).2).1) (vcs_cons (fun hp => absurd z12 (pt_true (pt_true hp).2).1) (vcs_cons (fun hp => absurd z12 (pt_true (pt_true hp).2).1) (vcs_cons (fun hp => absurd z12 (pt_true (pt_true hp).2).1) (vcs_cons (fun hp => absurd z12 (pt_true (pt_true hp).2).1) (vcs_cons (fun hp => absurd z12 (pt_true (pt_true hp).2).1) (vcs_nil))))))))))))
   · intro x hx0
     have hx' := valV_of (v := v) (by rfl) hx0
     rw [hx']
     show Value.tuple #[.int .i64 (v 98), .int .i64 (v 99), .int .i64 (v 100)] = _
     have V : qoV a b c d n = [0, 0, 16] := if_pos hz
     rw [z98, z99, z100, V]; rfl
 · have A9 : v 9 = 0 := by rw [e9, e2, decide_eq_false hz]; rfl
   have z19 : v 19 = v 2 := norm_eq3 (X := cxQo [a, b, c, d, n]) (v := v) (l := nd_rQo) (extN_ok _) hs (k := 19) (j := 2) (ps := [(5, .c 1), (6, .c 1), (13, .c 0), (9, .c 0)]) (ps_cons A5 (ps_cons A6 (ps_cons A13 (ps_cons A9 ps_nil)))) (by kernel_rfl)
   have z20 : v 20 = v 3 := norm_eq3 (X := cxQo [a, b, c, d, n]) (v := v) (l := nd_rQo) (extN_ok _) hs (k := 20) (j := 3) (ps := [(5, .c 1), (6, .c 1), (13, .c 0), (9, .c 0)]) (ps_cons A5 (ps_cons A6 (ps_cons A13 (ps_cons A9 ps_nil)))) (by kernel_rfl)
   have z21 : v 21 = v 0 := norm_eq3 (X := cxQo [a, b, c, d, n]) (v := v) (l := nd_rQo) (extN_ok _) hs (k := 21) (j := 0) (ps := [(5, .c 1), (6, .c 1), (13, .c 0), (9, .c 0)]) (ps_cons A5 (ps_cons A6 (ps_cons A13 (ps_cons A9 ps_nil)))) (by kernel_rfl)
   have z22 : v 22 = v 1 := norm_eq3 (X := cxQo [a, b, c, d, n]) (v := v) (l := nd_rQo) (extN_ok _) hs (k := 22) (j := 1) (ps := [(5, .c 1), (6, .c 1), (13, .c 0), (9, .c 0)]) (ps_cons A5 (ps_cons A6 (ps_cons A13 (ps_cons A9 ps_nil)))) (by kernel_rfl)
   have w19 : v 19 = c := z19.trans e2
   have w20 : v 20 = d := z20.trans e3
   have w21 : v 21 = a := z21.trans e0
   have w22 : v 22 = b := z22.trans e1
   have w28 : v 28 = -n := by rw [e28, e4, Go.IntWalk.i64_in _ (by omega)]; omega
   have P1 : EnP (v 21) (v 4) (v 19) := by rw [w21, e4, w19]; exact ⟨by omega, by omega, by omega⟩
   have P2 : EnP (v 21) (v 4) (v 20) := by rw [w21, e4, w20]; exact ⟨by omega, by omega, by omega⟩
   have P3 : EnP (v 22) (v 4) (v 19) := by rw [w22, e4, w19]; exact ⟨by omega, by omega, by omega⟩
   have P4 : EnP (v 22) (v 4) (v 20) := by rw [w22, e4, w20]; exact ⟨by omega, by omega, by omega⟩
   have P5 : EnP (v 21) (v 28) (v 19) := by rw [w21, w28, w19]; exact ⟨by omega, by omega, by omega⟩
   have P6 : EnP (v 21) (v 28) (v 20) := by rw [w21, w28, w20]; exact ⟨by omega, by omega, by omega⟩
   have P7 : EnP (v 22) (v 28) (v 19) := by rw [w22, w28, w19]; exact ⟨by omega, by omega, by omega⟩
   have P8 : EnP (v 22) (v 28) (v 20) := by rw [w22, w28, w20]; exact ⟨by omega, by omega, by omega⟩
   have R1 := qFl_rng (x := a) (n := n) (d := c) (by rw [← w21, ← e4, ← w19]; exact P1)
   have R2 := qFl_rng (x := a) (n := n) (d := d) (by rw [← w21, ← e4, ← w20]; exact P2)
   have R3 := qFl_rng (x := b) (n := n) (d := c) (by rw [← w22, ← e4, ← w19]; exact P3)
   have R4 := qFl_rng (x := b) (n := n) (d := d) (by rw [← w22, ← e4, ← w20]; exact P4)
   have f48 : v 48 = qFl a n c := by rw [e48, w21, e4, w19]; rfl
   have f49 : v 49 = qFl a n d := by rw [e49, w21, e4, w20]; rfl
   have f53 : v 53 = qFl b n c := by rw [e53, w22, e4, w19]; rfl
   have f54 : v 54 = qFl b n d := by rw [e54, w22, e4, w20]; rfl
   have f61 : v 61 = -qCe a n c := by rw [e61, w21, w28, w19]; exact qFl_neg _ _ _
   have f62 : v 62 = -qCe a n d := by rw [e62, w21, w28, w20]; exact qFl_neg _ _ _
   have f66 : v 66 = -qCe b n c := by rw [e66, w22, w28, w19]; exact qFl_neg _ _ _
   have f67 : v 67 = -qCe b n d := by rw [e67, w22, w28, w20]; exact qFl_neg _ _ _
   have L : v 60 = qoL a b c d n := by
    rw [e60, e58, b2i_dec2, e57, e55, b2i_dec2, e52, e50, b2i_dec2, f48, f49, f53, f54]
    unfold qoL
    generalize qFl a n c = x1
    generalize qFl a n d = x2
    generalize qFl b n c = x3
    generalize qFl b n d = x4
    (repeat' split) <;> omega
   have H0 : v 73 = -qoH a b c d n := by
    rw [e73, e71, b2i_dec2, e70, e68, b2i_dec2, e65, e63, b2i_dec2, f61, f62, f66, f67]
    unfold qoH
    generalize qCe a n c = x1
    generalize qCe a n d = x2
    generalize qCe b n c = x3
    generalize qCe b n d = x4
    (repeat' split) <;> omega
   have HR : -2305843009213693952 ≤ qoH a b c d n ∧ qoH a b c d n ≤ 2305843009213693952 := by unfold qoH; omega
   have H : v 74 = qoH a b c d n := by rw [e74, H0, Go.IntWalk.i64_in _ (by omega)]; omega
   have B1 : v 77 = b2i (factB (qoL a b c d n)) := by rw [← L]; exact fac_b e75 e76 e77
   have B2 : v 81 = b2i (factB (qoH a b c d n)) := by rw [← H]; exact fac_b e79 e80 e81
   have w26 : v 26 = if a < 0 then -a else a := by
    rw [e26, e23, b2i_dec2, e24, w21]
    split
    · rw [Go.IntWalk.i64_in _ (by omega)]; omega
    · rfl
   have w40 : v 40 = if b < 0 then -b else b := by
    rw [e40, e37, b2i_dec2, e38, w22]
    split
    · rw [Go.IntWalk.i64_in _ (by omega)]; omega
    · rfl
   have w30 : v 30 = n := by rw [e30, e27, b2i_dec2, e4, if_neg (by omega)]
   have n26 : 0 ≤ v 26 ∧ v 26 ≤ 2147483648 := by rw [w26]; split <;> omega
   have n40 : 0 ≤ v 40 ∧ v 40 ≤ 2147483648 := by rw [w40]; split <;> omega
   have q26 : 0 ≤ v 26 / c ∧ v 26 / c ≤ 2147483648 := ⟨Int.ediv_nonneg n26.1 (by omega), Int.le_trans (Int.ediv_le_self _ n26.1) n26.2⟩
   have q40 : 0 ≤ v 40 / c ∧ v 40 / c ≤ 2147483648 := ⟨Int.ediv_nonneg n40.1 (by omega), Int.le_trans (Int.ediv_le_self _ n40.1) n40.2⟩
   have w31 : v 31 = v 26 / c := by rw [e31, w19, tdiv_nn n26.1, Go.IntWalk.i64_in _ (by omega)]
   have w41 : v 41 = v 40 / c := by rw [e41, w19, tdiv_nn n40.1, Go.IntWalk.i64_in _ (by omega)]
   have w33 : v 33 = n / 1048576 := by rw [e33, w30, tdiv_nn n0, Go.IntWalk.i64_in _ (by omega)]
   have m33 : 0 ≤ n / 1048576 ∧ n / 1048576 ≤ 1024 := by omega
   have w34 : v 34 = n / 1048576 * (v 26 / c) := by
    have p1 := Int.mul_nonneg m33.1 q26.1
    have p2 := Int.mul_le_mul m33.2 q26.2 q26.1 (by omega)
    rw [e34, w33, w31, Go.IntWalk.i64_in _ (by omega)]
   have w43 : v 43 = n / 1048576 * (v 40 / c) := by
    have p1 := Int.mul_nonneg m33.1 q40.1
    have p2 := Int.mul_le_mul m33.2 q40.2 q40.1 (by omega)
    rw [e43, w33, w41, Go.IntWalk.i64_in _ (by omega)]
   have BIG1 : v 36 ≠ 0 → factB (qoL a b c d n) = true ∧ factB (qoH a b c d n) = true → False := by
    intro h36 ⟨k1, k2⟩
    have h35 : 4194304 < v 34 := by
     rw [e36] at h36
     by_cases g : v 32 ≠ 0
     · rw [if_pos g, e35, b2i_iff] at h36; simpa using h36
     · rw [if_neg g] at h36; exact absurd rfl h36
    rw [w34] at h35
    have bg := big_lem n26.1 n0 (show 0 < c by omega) rfl rfl h35
    have l1 : qoL a b c d n ≤ qFl a n c := by unfold qoL; omega
    have l2 : qCe a n c ≤ qoH a b c d n := by unfold qoH; omega
    unfold factB at k1 k2
    simp only [decide_eq_true_eq] at k1 k2
    rw [w26] at bg
    have le := qFlCe a n c (by omega)
    unfold qFl qCe at *
    by_cases s : a < 0
    · rw [if_pos s, Int.neg_mul] at bg; omega
    · rw [if_neg s] at bg; omega
   have BIG2 : v 45 ≠ 0 → factB (qoL a b c d n) = true ∧ factB (qoH a b c d n) = true → False := by
    intro h45 ⟨k1, k2⟩
    have h44 : 4194304 < v 43 := by
     rw [e45] at h45
     by_cases g : v 42 ≠ 0
     · rw [if_pos g, e44, b2i_iff] at h45; simpa using h45
     · rw [if_neg g] at h45; exact absurd rfl h45
    rw [w43] at h44
    have bg := big_lem n40.1 n0 (show 0 < c by omega) rfl rfl h44
    have l1 : qoL a b c d n ≤ qFl b n c := by unfold qoL; omega
    have l2 : qCe b n c ≤ qoH a b c d n := by unfold qoH; omega
    unfold factB at k1 k2
    simp only [decide_eq_true_eq] at k1 k2
    rw [w40] at bg
    have le := qFlCe b n c (by omega)
    unfold qFl qCe at *
    by_cases s : b < 0
    · rw [if_pos s, Int.neg_mul] at bg; omega
    · rw [if_neg s] at bg; omega
   refine ⟨vcs_rev ?_, ?_⟩
   · exact vcs_cons (fun _ => (show v 19 ≠ 0 by rw [w19]; omega)) (vcs_cons (fun _ => (show v 19 ≠ 0 by rw [w19]; omega)) (vcs_cons (fun _ => (show v 19 ≠ 0 by rw [w19]; omega)) (vcs_cons (fun _ => (show v 19 ≠ 0 by rw [w19]; omega)) (vcs_cons (fun _ => P1) (vcs_cons (fun _ => P2) (vcs_cons (fun _ => P3) (vcs_cons (fun _ => P4) (vcs_cons (fun _ => P5) (vcs_cons (fun _ => P6) (vcs_cons (fun _ => P7) (vcs_cons (fun _ => P8) (vcs_nil))))))))))))
   · intro x hx0
     have hx' := valV_of (v := v) (by rfl) hx0
     rw [hx']
     show Value.tuple #[.int .i64 (v 98), .int .i64 (v 99), .int .i64 (v 100)] = _
     by_cases hk : factB (qoL a b c d n) = true ∧ factB (qoH a b c d n) = true
     · have b1 : v 77 = 1 := by rw [B1, hk.1]; rfl
       have b2 : v 81 = 1 := by rw [B2, hk.2]; rfl
       have b3 : v 36 = 0 := Classical.byContradiction fun q => BIG1 q hk
       have b4 : v 45 = 0 := Classical.byContradiction fun q => BIG2 q hk
       have z98 : v 98 = v 60 := norm_eq3 (X := cxQo [a, b, c, d, n]) (v := v) (l := nd_rQo) (extN_ok _) hs (k := 98) (j := 60) (ps := [(5, .c 1), (6, .c 1), (13, .c 0), (9, .c 0), (36, .c 0), (45, .c 0), (77, .c 1), (81, .c 1)]) (ps_cons A5 (ps_cons A6 (ps_cons A13 (ps_cons A9 (ps_cons b3 (ps_cons b4 (ps_cons b1 (ps_cons b2 ps_nil)))))))) (by kernel_rfl)
       have z99 : v 99 = v 74 := norm_eq3 (X := cxQo [a, b, c, d, n]) (v := v) (l := nd_rQo) (extN_ok _) hs (k := 99) (j := 74) (ps := [(5, .c 1), (6, .c 1), (13, .c 0), (9, .c 0), (36, .c 0), (45, .c 0), (77, .c 1), (81, .c 1)]) (ps_cons A5 (ps_cons A6 (ps_cons A13 (ps_cons A9 (ps_cons b3 (ps_cons b4 (ps_cons b1 (ps_cons b2 ps_nil)))))))) (by kernel_rfl)
       have z100 : v 100 = 0 := norm_val (X := cxQo [a, b, c, d, n]) (v := v) (l := nd_rQo) (extN_ok _) hs (k := 100) (r := .c 0) (ps := [(5, .c 1), (6, .c 1), (13, .c 0), (9, .c 0), (36, .c 0), (45, .c 0), (77, .c 1), (81, .c 1)]) (nz := []) (ps_cons A5 (ps_cons A6 (ps_cons A13 (ps_cons A9 (ps_cons b3 (ps_cons b4 (ps_cons b1 (ps_cons b2 ps_nil)))))))) nz_nil (by kernel_rfl)
       have V : qoV a b c d n = [qoL a b c d n, qoH a b c d n, 0] := by
        unfold qoV
        rw [if_neg hz, if_pos hk]
       rw [z98, z99, z100, V, L, H]; rfl
     · have V : qoV a b c d n = [0, 0, 5] := by
        unfold qoV
        rw [if_neg hz, if_neg hk]
       rw [V]
       have B46 : ∃ q, v 46 = b2i q := by
        rw [e46, e36, e45, e35, e44]
        by_cases g1 : v 32 ≠ 0 <;> by_cases g2 : v 42 ≠ 0 <;> simp only [g1, g2, if_true, if_false, ne_eq, not_true_eq_false, not_false_eq_true]
        all_goals first
         | exact ⟨_, rfl⟩
         | exact ⟨false, rfl⟩
         | exact b2i_or2 _ _
         | exact b2i_or2 _ false
       obtain ⟨q, h46⟩ := B46
       cases q
       · have b5 : v 46 = 0 := h46
         cases h1 : factB (qoL a b c d n)
         · have b1 : v 77 = 0 := by rw [B1, h1]; rfl
           have z98 : v 98 = 0 := norm_val (X := cxQo [a, b, c, d, n]) (v := v) (l := nd_rQo) (extN_ok _) hs (k := 98) (r := .c 0) (ps := [(5, .c 1), (6, .c 1), (13, .c 0), (9, .c 0), (46, .c 0), (77, .c 0)]) (nz := []) (ps_cons A5 (ps_cons A6 (ps_cons A13 (ps_cons A9 (ps_cons b5 (ps_cons b1 ps_nil)))))) nz_nil (by kernel_rfl)
           have z99 : v 99 = 0 := norm_val (X := cxQo [a, b, c, d, n]) (v := v) (l := nd_rQo) (extN_ok _) hs (k := 99) (r := .c 0) (ps := [(5, .c 1), (6, .c 1), (13, .c 0), (9, .c 0), (46, .c 0), (77, .c 0)]) (nz := []) (ps_cons A5 (ps_cons A6 (ps_cons A13 (ps_cons A9 (ps_cons b5 (ps_cons b1 ps_nil)))))) nz_nil (by kernel_rfl)
           have z100 : v 100 = 5 := norm_val (X := cxQo [a, b, c, d, n]) (v := v) (l := nd_rQo) (extN_ok _) hs (k := 100) (r := .c 5) (ps := [(5, .c 1), (6, .c 1), (13, .c 0), (9, .c 0), (46, .c 0), (77, .c 0)]) (nz := []) (ps_cons A5 (ps_cons A6 (ps_cons A13 (ps_cons A9 (ps_cons b5 (ps_cons b1 ps_nil)))))) nz_nil (by kernel_rfl)
           rw [z98, z99, z100]; rfl
         · have h2 : factB (qoH a b c d n) = false := by
            cases h2 : factB (qoH a b c d n)
            · rfl
            · exact absurd ⟨h1, h2⟩ hk
           have b1 : v 77 = 1 := by rw [B1, h1]; rfl
           have b2 : v 81 = 0 := by rw [B2, h2]; rfl
           have z98 : v 98 = 0 := norm_val (X := cxQo [a, b, c, d, n]) (v := v) (l := nd_rQo) (extN_ok _) hs (k := 98) (r := .c 0) (ps := [(5, .c 1), (6, .c 1), (13, .c 0), (9, .c 0), (46, .c 0), (77, .c 1), (81, .c 0)]) (nz := []) (ps_cons A5 (ps_cons A6 (ps_cons A13 (ps_cons A9 (ps_cons b5 (ps_cons b1 (ps_cons b2 ps_nil))))))) nz_nil (by kernel_rfl)
           have z99 : v 99 = 0 := norm_val (X := cxQo [a, b, c, d, n]) (v := v) (l := nd_rQo) (extN_ok _) hs (k := 99) (r := .c 0) (ps := [(5, .c 1), (6, .c 1), (13, .c 0), (9, .c 0), (46, .c 0), (77, .c 1), (81, .c 0)]) (nz := []) (ps_cons A5 (ps_cons A6 (ps_cons A13 (ps_cons A9 (ps_cons b5 (ps_cons b1 (ps_cons b2 ps_nil))))))) nz_nil (by kernel_rfl)
           have z100 : v 100 = 5 := norm_val (X := cxQo [a, b, c, d, n]) (v := v) (l := nd_rQo) (extN_ok _) hs (k := 100) (r := .c 5) (ps := [(5, .c 1), (6, .c 1), (13, .c 0), (9, .c 0), (46, .c 0), (77, .c 1), (81, .c 0)]) (nz := []) (ps_cons A5 (ps_cons A6 (ps_cons A13 (ps_cons A9 (ps_cons b5 (ps_cons b1 (ps_cons b2 ps_nil))))))) nz_nil (by kernel_rfl)
           rw [z98, z99, z100]; rfl
       · have b5 : v 46 = 1 := h46
         have z98 : v 98 = 0 := norm_val (X := cxQo [a, b, c, d, n]) (v := v) (l := nd_rQo) (extN_ok _) hs (k := 98) (r := .c 0) (ps := [(5, .c 1), (6, .c 1), (13, .c 0), (9, .c 0), (46, .c 1)]) (nz := []) (ps_cons A5 (ps_cons A6 (ps_cons A13 (ps_cons A9 (ps_cons b5 ps_nil))))) nz_nil (by kernel_rfl)
         have z99 : v 99 = 0 := norm_val (X := cxQo [a, b, c, d, n]) (v := v) (l := nd_rQo) (extN_ok _) hs (k := 99) (r := .c 0) (ps := [(5, .c 1), (6, .c 1), (13, .c 0), (9, .c 0), (46, .c 1)]) (nz := []) (ps_cons A5 (ps_cons A6 (ps_cons A13 (ps_cons A9 (ps_cons b5 ps_nil))))) nz_nil (by kernel_rfl)
         have z100 : v 100 = 5 := norm_val (X := cxQo [a, b, c, d, n]) (v := v) (l := nd_rQo) (extN_ok _) hs (k := 100) (r := .c 5) (ps := [(5, .c 1), (6, .c 1), (13, .c 0), (9, .c 0), (46, .c 1)]) (nz := []) (ps_cons A5 (ps_cons A6 (ps_cons A13 (ps_cons A9 (ps_cons b5 ps_nil))))) nz_nil (by kernel_rfl)
         rw [z98, z99, z100]; rfl
end Go.Proofs.YtfffpodaabdpfaaGreat
