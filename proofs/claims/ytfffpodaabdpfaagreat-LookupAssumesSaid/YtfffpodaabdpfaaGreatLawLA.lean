/- The law LookupAssumes: Assumed returns the specified degrees, or the specified error. -/
import Derived.Test.YtfffpodaabdpfaaGreatLk
set_option linter.unusedVariables false
set_option linter.unusedSimpArgs false
namespace Go.Proofs.YtfffpodaabdpfaaGreat
open Go.RowKit Alm Sx
theorem flN {x y z u c r q : Int} {d : Int} (hd : 0 < d) (hb : -4000000000000 ≤ x ∧ x ≤ 4000000000000) (hy : y = IntKind.i64.wrap (x.tdiv d)) (hz : z = x.tmod d) (hc : c = b2i (decide (z < 0))) (hu : u = IntKind.i64.wrap (y - 1)) (hr : r = if c ≠ 0 then u else y) (hq : q = x / d) : r = q := by
 obtain ⟨f1, f2⟩ := tdiv_floor x d hd
 have b := tdiv_bd x d hd 4000000000000 hb.1 hb.2
 rw [Go.IntWalk.i64_in _ (by omega)] at hy
 rw [Go.IntWalk.i64_in _ (by omega)] at hu
 rw [hr, hc, hq]
 by_cases h : z < 0
 · rw [decide_eq_true h, if_pos (by decide), hu, hy, f1 (by omega)]
 · rw [decide_eq_false h, if_neg (by decide), hy, f2 (by omega)]
theorem wrN {x z u c r q : Int} {d : Int} (hd : 0 < d) (hd2 : d ≤ 21600000) (hz : z = x.tmod d) (hc : c = b2i (decide (z < 0))) (hu : u = IntKind.i64.wrap (z + d)) (hr : r = if c ≠ 0 then u else z) (hq : q = x % d) : r = q := by
 have e := Int.mul_tdiv_add_tmod x d
 obtain ⟨f1, f2⟩ := tdiv_floor x d hd
 have m := Int.mul_ediv_add_emod x d
 have b1 := Int.tmod_lt_of_pos x hd
 have b2 := Int.tmod_lt_of_pos (-x) hd
 rw [Int.neg_tmod] at b2
 rw [Go.IntWalk.i64_in _ (by omega)] at hu
 rw [hr, hc, hq]
 by_cases h : z < 0
 · rw [decide_eq_true h, if_pos (by decide), hu]
   have := f1 (by omega)
   rw [← this, Int.mul_sub] at m
   omega
 · rw [decide_eq_false h, if_neg (by decide)]
   have := f2 (by omega)
   rw [← this] at m
   omega
theorem latN {x y z p q r s lo hi : Int} (h1 : x = b2i (decide (lo ≤ hi))) (h2 : y = b2i (decide (lo ≥ (-1099511627776 : Int)))) (h3 : z = b2i (decide (lo ≤ (1099511627776 : Int)))) (h4 : p = b2i (decide (hi ≥ (-1099511627776 : Int)))) (h5 : q = b2i (decide (hi ≤ (1099511627776 : Int)))) (h6 : r = b2i (decide (lo ≥ (-5400000 : Int)))) (h7 : s = b2i (decide (hi ≤ (5400000 : Int)))) :
 (if (if (if (if x ≠ 0 then (if y ≠ 0 then z else 0) else 0) ≠ 0 then (if p ≠ 0 then q else 0) else 0) ≠ 0 then r else 0) ≠ 0 then s else 0) = b2i (decide (-5400000 ≤ lo ∧ lo ≤ hi ∧ hi ≤ 5400000)) ∧ (if (if r ≠ 0 then x else 0) ≠ 0 then s else 0) = b2i (decide (-5400000 ≤ lo ∧ lo ≤ hi ∧ hi ≤ 5400000)) := by
 rw [h1, h2, h3, h4, h5, h6, h7]
 simp only [bb2]
 exact ⟨congrArg b2i (decide_eq_decide.2 (by omega)), congrArg b2i (decide_eq_decide.2 (by omega))⟩
theorem two_of {x : Int} {p : Prop} [Decidable p] (h : x = b2i (decide p)) : (p ∧ x = 1) ∨ (¬ p ∧ x = 0) := by
 by_cases q : p
 · exact .inl ⟨q, by rw [h, decide_eq_true q]; rfl⟩
 · exact .inr ⟨q, by rw [h, decide_eq_false q]; rfl⟩
def spLA : List Sx.Spec := [sAwake32]
theorem spLA_ok (args : List Int) : ∀ s ∈ spLA, SpecOK Tryz.prog (cxF args) s := by
 intro s hs
 rcases List.mem_cons.1 hs with rfl | h
 · exact sAwake32_ok args
 · cases h
def nd_la : List Nd := [
 .arg 0,
 .arg 1,
 .arg 2,
 .arg 3,
 .app 20 0 [],
 .ite (.n 4) (.c 0) (.c 1),
 .ite (.n 5) (.c 0) (.c 1),
 .bin .leq .i64 (.n 0) (.n 1),
 .bin .geq .i64 (.n 0) (.c (-1099511627776)),
 .bin .leq .i64 (.n 0) (.c 1099511627776),
 .ite (.n 8) (.n 9) (.c 0),
 .ite (.n 7) (.n 10) (.c 0),
 .bin .geq .i64 (.n 1) (.c (-1099511627776)),
 .bin .leq .i64 (.n 1) (.c 1099511627776),
 .ite (.n 12) (.n 13) (.c 0),
 .ite (.n 11) (.n 14) (.c 0),
 .bin .geq .i64 (.n 0) (.c (-5400000)),
 .ite (.n 15) (.n 16) (.c 0),
 .bin .leq .i64 (.n 1) (.c 5400000),
 .ite (.n 17) (.n 18) (.c 0),
 .ite (.n 19) (.c 0) (.c 1),
 .bin .leq .i64 (.n 2) (.n 3),
 .bin .geq .i64 (.n 2) (.c (-1099511627776)),
 .bin .leq .i64 (.n 2) (.c 1099511627776),
 .ite (.n 22) (.n 23) (.c 0),
 .ite (.n 21) (.n 24) (.c 0),
 .bin .geq .i64 (.n 3) (.c (-1099511627776)),
 .bin .leq .i64 (.n 3) (.c 1099511627776),
 .ite (.n 26) (.n 27) (.c 0),
 .ite (.n 25) (.n 28) (.c 0),
 .ite (.n 29) (.c 0) (.c 1),
 .ite (.n 20) (.c 1) (.n 30),
 .ite (.n 31) (.c 0) (.c 1),
 .bin .add .i64 (.n 0) (.n 1),
 .bin .quo .i64 (.n 33) (.c 2),
 .bin .rem .i64 (.n 33) (.c 2),
 .bin .lss .i64 (.n 35) (.c 0),
 .bin .sub .i64 (.n 34) (.c 1),
 .ite (.n 36) (.c 0) (.c 1),
 .ite (.n 36) (.n 37) (.n 34),
 .bin .mul .i64 (.c 2) (.n 39),
 .bin .add .i64 (.n 40) (.c 60000),
 .bin .quo .i64 (.n 41) (.c 120000),
 .bin .rem .i64 (.n 41) (.c 120000),
 .bin .lss .i64 (.n 43) (.c 0),
 .bin .sub .i64 (.n 42) (.c 1),
 .ite (.n 44) (.c 0) (.c 1),
 .ite (.n 44) (.n 45) (.n 42),
 .bin .add .i64 (.n 2) (.n 3),
 .bin .quo .i64 (.n 48) (.c 2),
 .bin .rem .i64 (.n 48) (.c 2),
 .bin .lss .i64 (.n 50) (.c 0),
 .bin .sub .i64 (.n 49) (.c 1),
 .ite (.n 51) (.c 0) (.c 1),
 .ite (.n 51) (.n 52) (.n 49),
 .bin .mul .i64 (.c 2) (.n 54),
 .bin .add .i64 (.n 55) (.c 60000),
 .bin .quo .i64 (.n 56) (.c 120000),
 .bin .rem .i64 (.n 56) (.c 120000),
 .bin .lss .i64 (.n 58) (.c 0),
 .bin .sub .i64 (.n 57) (.c 1),
 .ite (.n 59) (.c 0) (.c 1),
 .ite (.n 59) (.n 60) (.n 57),
 .bin .mul .i64 (.n 62) (.c 60000),
 .bin .rem .i64 (.n 63) (.c 21600000),
 .bin .lss .i64 (.n 64) (.c 0),
 .bin .add .i64 (.n 64) (.c 21600000),
 .ite (.n 65) (.c 0) (.c 1),
 .ite (.n 65) (.n 66) (.n 64),
 .bin .quo .i64 (.n 68) (.c 60000),
 .ite (.n 31) (.c 0) (.n 47),
 .ite (.n 31) (.c 0) (.n 69),
 .ite (.n 16) (.n 7) (.c 0),
 .ite (.n 72) (.n 18) (.c 0),
 .ite (.n 73) (.c 0) (.c 1),
 .ite (.n 21) (.n 22) (.c 0),
 .ite (.n 75) (.n 27) (.c 0),
 .ite (.n 76) (.c 0) (.c 1),
 .ite (.n 74) (.c 1) (.n 77),
 .ite (.n 78) (.c 0) (.c 1),
 .bin .add .i64 (.n 54) (.c 30000),
 .bin .quo .i64 (.n 80) (.c 60000),
 .bin .rem .i64 (.n 80) (.c 60000),
 .bin .lss .i64 (.n 82) (.c 0),
 .bin .sub .i64 (.n 81) (.c 1),
 .ite (.n 83) (.c 0) (.c 1),
 .ite (.n 83) (.n 84) (.n 81),
 .bin .rem .i64 (.n 86) (.c 360),
 .bin .lss .i64 (.n 87) (.c 0),
 .bin .add .i64 (.n 87) (.c 360),
 .ite (.n 88) (.c 0) (.c 1),
 .ite (.n 88) (.n 89) (.n 87),
 .bin .add .i64 (.n 39) (.c 30000),
 .bin .quo .i64 (.n 92) (.c 60000),
 .bin .rem .i64 (.n 92) (.c 60000),
 .bin .lss .i64 (.n 94) (.c 0),
 .bin .sub .i64 (.n 93) (.c 1),
 .ite (.n 95) (.c 0) (.c 1),
 .ite (.n 95) (.n 96) (.n 93),
 .ite (.n 78) (.c 0) (.n 98),
 .ite (.n 78) (.c 0) (.n 91),
 .bin .eql .i64 (.n 70) (.n 99),
 .bin .eql .i64 (.n 71) (.n 100),
 .ite (.n 101) (.n 102) (.c 0),
 .bin .eql .i64 (.n 31) (.n 78),
 .ite (.n 103) (.n 104) (.c 0),
 .ite (.n 5) (.c 0) (.n 105)]
def vc_la : List Vc := [
 ⟨[], .pre 20 []⟩]
theorem wh_la : whole Tryz.prog spLA 20 40 12 [(true, [some .i64, some .i64]), (true, [some .i64, some .i64])] = some (.p (.c (.bool (.n 106))), ⟨nd_la.reverse, vc_la.reverse⟩) := by kernel_rfl
theorem wf_la : wfN nd_la.reverse = true := by kernel_rfl
set_option maxRecDepth 100000 in
theorem c_lawLA (a0 a1 a2 a3 : Int) (w : World)  : Calls Tryz.prog 12 #[.agg #[.int .i64 a0, .int .i64 a1], .agg #[.int .i64 a2, .int .i64 a3]] w fun e w' => e = .returned (.bool true) ∧ Below w.heap.size w w' := by
 refine Sx.calls (X := cxF [a0, a1, a2, a3]) hmix (spLA_ok _) wh_la wf_la (fun v hs => ?_) w
 have e7 : v 7 = b2i (decide (v 0 ≤ v 1)) := satF hs 7 rfl
 have e8 : v 8 = b2i (decide (v 0 ≥ (-1099511627776 : Int))) := satF hs 8 rfl
 have e9 : v 9 = b2i (decide (v 0 ≤ (1099511627776 : Int))) := satF hs 9 rfl
 have e10 : v 10 = if v 8 ≠ 0 then v 9 else (0 : Int) := satF hs 10 rfl
 have e11 : v 11 = if v 7 ≠ 0 then v 10 else (0 : Int) := satF hs 11 rfl
 have e12 : v 12 = b2i (decide (v 1 ≥ (-1099511627776 : Int))) := satF hs 12 rfl
 have e13 : v 13 = b2i (decide (v 1 ≤ (1099511627776 : Int))) := satF hs 13 rfl
 have e14 : v 14 = if v 12 ≠ 0 then v 13 else (0 : Int) := satF hs 14 rfl
 have e15 : v 15 = if v 11 ≠ 0 then v 14 else (0 : Int) := satF hs 15 rfl
 have e16 : v 16 = b2i (decide (v 0 ≥ (-5400000 : Int))) := satF hs 16 rfl
 have e17 : v 17 = if v 15 ≠ 0 then v 16 else (0 : Int) := satF hs 17 rfl
 have e18 : v 18 = b2i (decide (v 1 ≤ (5400000 : Int))) := satF hs 18 rfl
 have e19 : v 19 = if v 17 ≠ 0 then v 18 else (0 : Int) := satF hs 19 rfl
 have e21 : v 21 = b2i (decide (v 2 ≤ v 3)) := satF hs 21 rfl
 have e22 : v 22 = b2i (decide (v 2 ≥ (-1099511627776 : Int))) := satF hs 22 rfl
 have e23 : v 23 = b2i (decide (v 2 ≤ (1099511627776 : Int))) := satF hs 23 rfl
 have e24 : v 24 = if v 22 ≠ 0 then v 23 else (0 : Int) := satF hs 24 rfl
 have e25 : v 25 = if v 21 ≠ 0 then v 24 else (0 : Int) := satF hs 25 rfl
 have e26 : v 26 = b2i (decide (v 3 ≥ (-1099511627776 : Int))) := satF hs 26 rfl
 have e27 : v 27 = b2i (decide (v 3 ≤ (1099511627776 : Int))) := satF hs 27 rfl
 have e28 : v 28 = if v 26 ≠ 0 then v 27 else (0 : Int) := satF hs 28 rfl
 have e29 : v 29 = if v 25 ≠ 0 then v 28 else (0 : Int) := satF hs 29 rfl
 have e72 : v 72 = if v 16 ≠ 0 then v 7 else (0 : Int) := satF hs 72 rfl
 have e73 : v 73 = if v 72 ≠ 0 then v 18 else (0 : Int) := satF hs 73 rfl
 have e75 : v 75 = if v 21 ≠ 0 then v 22 else (0 : Int) := satF hs 75 rfl
 have e76 : v 76 = if v 75 ≠ 0 then v 27 else (0 : Int) := satF hs 76 rfl
 have L : v 19 = b2i (decide (-5400000 ≤ v 0 ∧ v 0 ≤ v 1 ∧ v 1 ≤ 5400000)) ∧ v 73 = b2i (decide (-5400000 ≤ v 0 ∧ v 0 ≤ v 1 ∧ v 1 ≤ 5400000)) := by
  have := latN e7 e8 e9 e12 e13 e16 e18
  rw [e19, e17, e15, e11, e10, e14, e73, e72]
  exact this
 have M : v 29 = b2i (decide (arcV (v 2) (v 3) = true)) ∧ v 76 = b2i (decide (arcV (v 2) (v 3) = true)) := by
  have e : b2i (decide (arcV (v 2) (v 3) = true)) = b2i (arcV (v 2) (v 3)) := by cases arcV (v 2) (v 3) <;> rfl
  rw [e]
  constructor
  · rw [e29, e25, e21, e24, e22, e23, e28, e26, e27]; exact arc_prog _ _
  · rw [e76, e75, e21, e22, e27]; exact arc_ref _ _
 clear e7 e8 e9 e10 e11 e12 e13 e14 e15 e16 e17 e18 e19 e21 e22 e23 e24 e25 e26 e27 e28 e29 e72 e73 e75 e76
 refine ⟨vcs_rev (vcs_cons (fun _ => trivial) vcs_nil), ?_⟩
 intro x hx
 have hx' : x = .bool (decide (v 106 ≠ 0)) := hx
 suffices hr : v 106 = 1 by rw [hx', hr]; rfl
 rcases two_of L.1 with ⟨g1, u1⟩ | ⟨g1, u1⟩
 rotate_left
 · have w1 : v 73 = 0 := by rw [L.2, decide_eq_false g1]; rfl
   exact norm_val (X := cxF [a0, a1, a2, a3]) (v := v) (l := nd_la) (extF_ok _) hs (k := 106) (r := .c 1) (ps := [(19, .c 0), (73, .c 0)]) (nz := []) (ps_cons u1 (ps_cons w1 ps_nil)) nz_nil (by kernel_rfl)
 have w1 : v 73 = 1 := by rw [L.2, decide_eq_true g1]; rfl
 rcases two_of M.1 with ⟨g2, u2⟩ | ⟨g2, u2⟩
 rotate_left
 · have w2 : v 76 = 0 := by rw [M.2, decide_eq_false g2]; rfl
   exact norm_val (X := cxF [a0, a1, a2, a3]) (v := v) (l := nd_la) (extF_ok _) hs (k := 106) (r := .c 1) (ps := [(19, .c 1), (29, .c 0), (73, .c 1), (76, .c 0)]) (nz := []) (ps_cons u1 (ps_cons u2 (ps_cons w1 (ps_cons w2 ps_nil)))) nz_nil (by kernel_rfl)
 have w2 : v 76 = 1 := by rw [M.2, decide_eq_true g2]; rfl
 have c2 := (arcV_iff _ _).1 g2
 clear L M
 have w33 : v 33 = v 0 + v 1 := by rw [show v 33 = IntKind.i64.wrap (v 0 + v 1) from (satF hs 33 rfl), Go.IntWalk.i64_in _ (by omega)]
 have w39 : v 39 = v 33 / 2 := flN (x := v 33) (y := v 34) (z := v 35) (c := v 36) (u := v 37) (d := 2) (by decide) (by omega) (satF hs 34 rfl) (satF hs 35 rfl) (satF hs 36 rfl) (satF hs 37 rfl) (satF hs 39 rfl) (by rfl)
 have w40 : v 40 = 2 * v 39 := by rw [show v 40 = IntKind.i64.wrap ((2 : Int) * v 39) from (satF hs 40 rfl), Go.IntWalk.i64_in _ (by omega)]
 have w41 : v 41 = v 40 + 60000 := by rw [show v 41 = IntKind.i64.wrap (v 40 + (60000 : Int)) from (satF hs 41 rfl), Go.IntWalk.i64_in _ (by omega)]
 have w47 : v 47 = v 41 / 120000 := flN (x := v 41) (y := v 42) (z := v 43) (c := v 44) (u := v 45) (d := 120000) (by decide) (by omega) (satF hs 42 rfl) (satF hs 43 rfl) (satF hs 44 rfl) (satF hs 45 rfl) (satF hs 47 rfl) (by rfl)
 have w48 : v 48 = v 2 + v 3 := by rw [show v 48 = IntKind.i64.wrap (v 2 + v 3) from (satF hs 48 rfl), Go.IntWalk.i64_in _ (by omega)]
 have w54 : v 54 = v 48 / 2 := flN (x := v 48) (y := v 49) (z := v 50) (c := v 51) (u := v 52) (d := 2) (by decide) (by omega) (satF hs 49 rfl) (satF hs 50 rfl) (satF hs 51 rfl) (satF hs 52 rfl) (satF hs 54 rfl) (by rfl)
 have w55 : v 55 = 2 * v 54 := by rw [show v 55 = IntKind.i64.wrap ((2 : Int) * v 54) from (satF hs 55 rfl), Go.IntWalk.i64_in _ (by omega)]
 have w56 : v 56 = v 55 + 60000 := by rw [show v 56 = IntKind.i64.wrap (v 55 + (60000 : Int)) from (satF hs 56 rfl), Go.IntWalk.i64_in _ (by omega)]
 have w62 : v 62 = v 56 / 120000 := flN (x := v 56) (y := v 57) (z := v 58) (c := v 59) (u := v 60) (d := 120000) (by decide) (by omega) (satF hs 57 rfl) (satF hs 58 rfl) (satF hs 59 rfl) (satF hs 60 rfl) (satF hs 62 rfl) (by rfl)
 have w63 : v 63 = v 62 * 60000 := by rw [show v 63 = IntKind.i64.wrap (v 62 * (60000 : Int)) from (satF hs 63 rfl), Go.IntWalk.i64_in _ (by omega)]
 have w68 : v 68 = v 63 % 21600000 := wrN (x := v 63) (z := v 64) (c := v 65) (u := v 66) (d := 21600000) (by decide) (by decide) (satF hs 64 rfl) (satF hs 65 rfl) (satF hs 66 rfl) (satF hs 68 rfl) rfl
 have w69 : v 69 = v 68 / 60000 := by rw [show v 69 = IntKind.i64.wrap (Int.tdiv (v 68) (60000 : Int)) from (satF hs 69 rfl), Int.tdiv_eq_ediv_of_nonneg (by omega), Go.IntWalk.i64_in _ (by omega)]
 have w80 : v 80 = v 54 + 30000 := by rw [show v 80 = IntKind.i64.wrap (v 54 + (30000 : Int)) from (satF hs 80 rfl), Go.IntWalk.i64_in _ (by omega)]
 have w86 : v 86 = v 80 / 60000 := flN (x := v 80) (y := v 81) (z := v 82) (c := v 83) (u := v 84) (d := 60000) (by decide) (by omega) (satF hs 81 rfl) (satF hs 82 rfl) (satF hs 83 rfl) (satF hs 84 rfl) (satF hs 86 rfl) (by rfl)
 have w91 : v 91 = v 86 % 360 := wrN (x := v 86) (z := v 87) (c := v 88) (u := v 89) (d := 360) (by decide) (by decide) (satF hs 87 rfl) (satF hs 88 rfl) (satF hs 89 rfl) (satF hs 91 rfl) rfl
 have w92 : v 92 = v 39 + 30000 := by rw [show v 92 = IntKind.i64.wrap (v 39 + (30000 : Int)) from (satF hs 92 rfl), Go.IntWalk.i64_in _ (by omega)]
 have w98 : v 98 = v 92 / 60000 := flN (x := v 92) (y := v 93) (z := v 94) (c := v 95) (u := v 96) (d := 60000) (by decide) (by omega) (satF hs 93 rfl) (satF hs 94 rfl) (satF hs 95 rfl) (satF hs 96 rfl) (satF hs 98 rfl) (by rfl)
 have s98 : v 98 = v 47 := by omega
 have s91 : v 91 = v 69 := by omega
 have z70 : v 70 = v 47 := norm_eq2 (X := cxF [a0, a1, a2, a3]) (v := v) (l := nd_la) (extF_ok _) hs (k := 70) (j := 47) (ps := [(19, .c 1), (29, .c 1), (73, .c 1), (76, .c 1)]) (ps_cons u1 (ps_cons u2 (ps_cons w1 (ps_cons w2 ps_nil)))) (by kernel_rfl)
 have z99 : v 99 = v 98 := norm_eq2 (X := cxF [a0, a1, a2, a3]) (v := v) (l := nd_la) (extF_ok _) hs (k := 99) (j := 98) (ps := [(19, .c 1), (29, .c 1), (73, .c 1), (76, .c 1)]) (ps_cons u1 (ps_cons u2 (ps_cons w1 (ps_cons w2 ps_nil)))) (by kernel_rfl)
 have z71 : v 71 = v 69 := norm_eq2 (X := cxF [a0, a1, a2, a3]) (v := v) (l := nd_la) (extF_ok _) hs (k := 71) (j := 69) (ps := [(19, .c 1), (29, .c 1), (73, .c 1), (76, .c 1)]) (ps_cons u1 (ps_cons u2 (ps_cons w1 (ps_cons w2 ps_nil)))) (by kernel_rfl)
 have z100 : v 100 = v 91 := norm_eq2 (X := cxF [a0, a1, a2, a3]) (v := v) (l := nd_la) (extF_ok _) hs (k := 100) (j := 91) (ps := [(19, .c 1), (29, .c 1), (73, .c 1), (76, .c 1)]) (ps_cons u1 (ps_cons u2 (ps_cons w1 (ps_cons w2 ps_nil)))) (by kernel_rfl)
 have n101 : v 101 = 1 := by rw [show v 101 = b2i (v 70 == v 99) from (satF hs 101 rfl), z70, z99, s98]; simp [b2i]
 have n102 : v 102 = 1 := by rw [show v 102 = b2i (v 71 == v 100) from (satF hs 102 rfl), z71, z100, s91]; simp [b2i]
 exact norm_val (X := cxF [a0, a1, a2, a3]) (v := v) (l := nd_la) (extF_ok _) hs (k := 106) (r := .c 1) (ps := [(19, .c 1), (29, .c 1), (73, .c 1), (76, .c 1), (101, .c 1), (102, .c 1)]) (nz := []) (ps_cons u1 (ps_cons u2 (ps_cons w1 (ps_cons w2 (ps_cons n101 (ps_cons n102 ps_nil)))))) nz_nil (by kernel_rfl)
end Go.Proofs.YtfffpodaabdpfaaGreat
