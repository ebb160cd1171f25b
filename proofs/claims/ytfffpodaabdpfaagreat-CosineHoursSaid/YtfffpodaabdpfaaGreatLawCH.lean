/- The law CosineHours: HourAngle returns what is specified. -/
import Derived.Test.YtfffpodaabdpfaaGreatCosX
set_option linter.unusedVariables false
set_option linter.unusedSimpArgs false
namespace Alm
theorem mn4_nn {a b c d : Int} (h1 : 0 ≤ a) (h2 : a ≤ b) (h3 : 0 ≤ c) (h4 : c ≤ d) : 0 ≤ min (min (min (a * c) (a * d)) (b * c)) (b * d) := by
 have m1 := Int.mul_nonneg h1 h3
 have m2 := Int.mul_nonneg h1 (show 0 ≤ d by omega)
 have m3 := Int.mul_nonneg (show 0 ≤ b by omega) h3
 have m4 := Int.mul_nonneg (show 0 ≤ b by omega) (show 0 ≤ d by omega)
 generalize a * c = x1 at *
 generalize a * d = x2 at *
 generalize b * c = x3 at *
 generalize b * d = x4 at *
 omega
end Alm
namespace Go.Proofs.YtfffpodaabdpfaaGreat
open Go.RowKit Alm Sx
theorem bLo_nn (n : Int) (h : 0 ≤ n ∧ n ≤ 10800000) : 0 ≤ bLo n := by
 have b := foldQ_bd n
 have s := sinV_bd _ b.1 b.2
 unfold bLo south
 rw [if_neg (by unfold wrapTurn; simp; omega)]
 exact s.1
theorem cos_nn (lo hi : Int) (h : -5400000 ≤ lo ∧ lo ≤ hi ∧ hi ≤ 5400000) : 0 ≤ enLo (lo + 5400000) (hi + 5400000) := by
 have a := bLo_nn (lo + 5400000) (by omega)
 have b := bLo_nn (hi + 5400000) (by omega)
 unfold enLo
 rw [if_neg (by unfold meetsB wrapTurn; simp; omega)]
 omega
theorem uM_nn {p q : IV} (hp : U p) (hq : U q) (h1 : 0 ≤ p.1) (h2 : 0 ≤ q.1) : 0 ≤ (uM p q).1 := by
 rw [(U_M hp hq).1]
 show 0 ≤ mulL p.1 p.2 q.1 q.2
 unfold mulL mn4
 have := mn4_nn h1 hp.2.1 h2 hq.2.1
 omega
theorem qoV_le (a b c d n : Int) : (qoV a b c d n).getD 0 0 ≤ (qoV a b c d n).getD 1 0 ∧ ((qoV a b c d n).getD 2 0 = 0 ∨ (qoV a b c d n).getD 2 0 = 5 ∨ (qoV a b c d n).getD 2 0 = 16) := by
 unfold qoV
 split
 · exact ⟨Int.le_refl _, .inr (.inr rfl)⟩
 · split
   · refine ⟨?_, .inl rfl⟩
     have := qFlCe a n c (by omega)
     show qoL a b c d n ≤ qoH a b c d n
     unfold qoL qoH
     omega
   · exact ⟨Int.le_refl _, .inr (.inl rfl)⟩
theorem lat_p {x y z p q r s t u lo hi : Int} (h1 : x = b2i (decide (lo ≤ hi))) (h2 : y = b2i (decide (lo ≥ (-1099511627776 : Int)))) (h3 : z = b2i (decide (lo ≤ (1099511627776 : Int)))) (h4 : p = b2i (decide (hi ≥ (-1099511627776 : Int)))) (h5 : q = b2i (decide (hi ≤ (1099511627776 : Int)))) (h6 : r = b2i (decide (lo ≥ (-5400000 : Int)))) (h7 : s = b2i (decide (hi ≤ (5400000 : Int)))) :
 (if (if (if (if x ≠ 0 then (if y ≠ 0 then z else 0) else 0) ≠ 0 then (if p ≠ 0 then q else 0) else 0) ≠ 0 then r else 0) ≠ 0 then s else 0) = b2i (decide (-5400000 ≤ lo ∧ lo ≤ hi ∧ hi ≤ 5400000)) ∧ (if (if x ≠ 0 then r else 0) ≠ 0 then s else 0) = b2i (decide (-5400000 ≤ lo ∧ lo ≤ hi ∧ hi ≤ 5400000)) := by
 rw [h1, h2, h3, h4, h5, h6, h7]
 simp only [bb2]
 exact ⟨congrArg b2i (decide_eq_decide.2 (by omega)), congrArg b2i (decide_eq_decide.2 (by omega))⟩
def spCH : List Sx.Spec := sAwake25 :: spF
theorem spCH_ok (args : List Int) : ∀ s ∈ spCH, SpecOK Tryz.prog (cxF args) s := by
 intro s hs
 rcases List.mem_cons.1 hs with rfl | h
 · exact sAwake25_ok args
 · exact spF_ok args s h
theorem two_of {x : Int} {p : Prop} [Decidable p] (h : x = b2i (decide p)) : (p ∧ x = 1) ∨ (¬ p ∧ x = 0) := by
 by_cases q : p
 · exact .inl ⟨q, by rw [h, decide_eq_true q]; rfl⟩
 · exact .inr ⟨q, by rw [h, decide_eq_false q]; rfl⟩
def nd_ch : List Nd := [
 .arg 0,
 .arg 1,
 .arg 2,
 .arg 3,
 .arg 4,
 .arg 5,
 .app 20 0 [],
 .ite (.n 6) (.c 0) (.c 1),
 .ite (.n 7) (.c 0) (.c 1),
 .bin .leq .i64 (.n 0) (.n 1),
 .bin .geq .i64 (.n 0) (.c (-1099511627776)),
 .bin .leq .i64 (.n 0) (.c 1099511627776),
 .ite (.n 10) (.n 11) (.c 0),
 .ite (.n 9) (.n 12) (.c 0),
 .bin .geq .i64 (.n 1) (.c (-1099511627776)),
 .bin .leq .i64 (.n 1) (.c 1099511627776),
 .ite (.n 14) (.n 15) (.c 0),
 .ite (.n 13) (.n 16) (.c 0),
 .bin .geq .i64 (.n 0) (.c (-5400000)),
 .ite (.n 17) (.n 18) (.c 0),
 .bin .leq .i64 (.n 1) (.c 5400000),
 .ite (.n 19) (.n 20) (.c 0),
 .ite (.n 21) (.c 0) (.c 1),
 .bin .leq .i64 (.n 2) (.n 3),
 .bin .geq .i64 (.n 2) (.c (-1099511627776)),
 .bin .leq .i64 (.n 2) (.c 1099511627776),
 .ite (.n 24) (.n 25) (.c 0),
 .ite (.n 23) (.n 26) (.c 0),
 .bin .geq .i64 (.n 3) (.c (-1099511627776)),
 .bin .leq .i64 (.n 3) (.c 1099511627776),
 .ite (.n 28) (.n 29) (.c 0),
 .ite (.n 27) (.n 30) (.c 0),
 .bin .geq .i64 (.n 2) (.c (-5400000)),
 .ite (.n 31) (.n 32) (.c 0),
 .bin .leq .i64 (.n 3) (.c 5400000),
 .ite (.n 33) (.n 34) (.c 0),
 .ite (.n 35) (.c 0) (.c 1),
 .ite (.n 22) (.c 1) (.n 36),
 .bin .leq .i64 (.n 4) (.n 5),
 .bin .geq .i64 (.n 4) (.c (-1099511627776)),
 .bin .leq .i64 (.n 4) (.c 1099511627776),
 .ite (.n 39) (.n 40) (.c 0),
 .ite (.n 38) (.n 41) (.c 0),
 .bin .geq .i64 (.n 5) (.c (-1099511627776)),
 .bin .leq .i64 (.n 5) (.c 1099511627776),
 .ite (.n 43) (.n 44) (.c 0),
 .ite (.n 42) (.n 45) (.c 0),
 .bin .geq .i64 (.n 4) (.c (-5400000)),
 .ite (.n 46) (.n 47) (.c 0),
 .bin .leq .i64 (.n 5) (.c 5400000),
 .ite (.n 48) (.n 49) (.c 0),
 .ite (.n 50) (.c 0) (.c 1),
 .ite (.n 37) (.c 1) (.n 51),
 .ite (.n 52) (.c 0) (.c 1),
 .app 5 0 [.n 4, .n 5],
 .app 5 1 [.n 4, .n 5],
 .app 5 2 [.n 4, .n 5],
 .app 5 0 [.n 0, .n 1],
 .app 5 1 [.n 0, .n 1],
 .app 5 2 [.n 0, .n 1],
 .bin .eql .i64 (.n 56) (.c 0),
 .ite (.n 60) (.c 0) (.c 1),
 .ite (.n 60) (.n 59) (.n 56),
 .app 5 0 [.n 2, .n 3],
 .app 5 1 [.n 2, .n 3],
 .app 5 2 [.n 2, .n 3],
 .bin .eql .i64 (.n 62) (.c 0),
 .ite (.n 66) (.c 0) (.c 1),
 .ite (.n 66) (.n 65) (.n 62),
 .app 0 0 [.n 57, .n 58, .n 63, .n 64],
 .app 0 1 [.n 57, .n 58, .n 63, .n 64],
 .app 0 2 [.n 57, .n 58, .n 63, .n 64],
 .bin .eql .i64 (.n 68) (.c 0),
 .ite (.n 72) (.c 0) (.c 1),
 .ite (.n 72) (.n 71) (.n 68),
 .app 2 0 [.n 54, .n 55, .n 69, .n 70],
 .app 2 1 [.n 54, .n 55, .n 69, .n 70],
 .app 2 2 [.n 54, .n 55, .n 69, .n 70],
 .bin .eql .i64 (.n 74) (.c 0),
 .ite (.n 78) (.c 0) (.c 1),
 .ite (.n 78) (.n 77) (.n 74),
 .app 6 0 [.n 0, .n 1],
 .app 6 1 [.n 0, .n 1],
 .app 6 2 [.n 0, .n 1],
 .bin .eql .i64 (.n 80) (.c 0),
 .ite (.n 84) (.c 0) (.c 1),
 .ite (.n 84) (.n 83) (.n 80),
 .app 6 0 [.n 2, .n 3],
 .app 6 1 [.n 2, .n 3],
 .app 6 2 [.n 2, .n 3],
 .bin .eql .i64 (.n 86) (.c 0),
 .ite (.n 90) (.c 0) (.c 1),
 .ite (.n 90) (.n 89) (.n 86),
 .app 0 0 [.n 81, .n 82, .n 87, .n 88],
 .app 0 1 [.n 81, .n 82, .n 87, .n 88],
 .app 0 2 [.n 81, .n 82, .n 87, .n 88],
 .bin .eql .i64 (.n 92) (.c 0),
 .ite (.n 96) (.c 0) (.c 1),
 .ite (.n 96) (.n 95) (.n 92),
 .bin .neq .i64 (.n 98) (.c 0),
 .ite (.n 99) (.c 0) (.c 1),
 .app 12 0 [.n 75, .n 76, .n 93, .n 94, .c 1073741824],
 .app 12 1 [.n 75, .n 76, .n 93, .n 94, .c 1073741824],
 .app 12 2 [.n 75, .n 76, .n 93, .n 94, .c 1073741824],
 .bin .eql .i64 (.n 103) (.c 16),
 .bin .eql .i64 (.n 103) (.c 5),
 .bin .neq .i64 (.n 103) (.c 0),
 .bin .gtr .i64 (.n 101) (.c 1073741824),
 .bin .lss .i64 (.n 102) (.c (-1073741824)),
 .ite (.n 107) (.c 1) (.n 108),
 .ite (.n 109) (.c 0) (.c 1),
 .ite (.n 106) (.c 0) (.c 1),
 .ite (.n 111) (.n 110) (.c 0),
 .ite (.n 111) (.n 109) (.c 0),
 .ite (.n 106) (.c 1) (.n 113),
 .ite (.n 106) (.n 103) (.c 12),
 .ite (.n 105) (.c 0) (.c 1),
 .ite (.n 116) (.n 112) (.c 0),
 .ite (.n 116) (.n 114) (.c 0),
 .ite (.n 105) (.c 1) (.n 118),
 .ite (.n 105) (.c 24) (.n 115),
 .ite (.n 104) (.c 0) (.c 1),
 .ite (.n 121) (.n 117) (.c 0),
 .ite (.n 121) (.n 119) (.c 0),
 .ite (.n 104) (.c 1) (.n 123),
 .ite (.n 104) (.c 21) (.n 120),
 .mx (.n 101) (.c (-1073741824)),
 .mn (.n 102) (.c 1073741824),
 .app 46 0 [.n 126, .n 127],
 .app 46 1 [.n 126, .n 127],
 .app 46 2 [.n 126, .n 127],
 .ite (.n 124) (.c 1) (.n 122),
 .ite (.n 124) (.n 125) (.n 130),
 .ite (.n 124) (.c 0) (.n 128),
 .ite (.n 124) (.c 0) (.n 129),
 .ite (.n 100) (.n 131) (.c 0),
 .ite (.n 99) (.c 1) (.n 135),
 .ite (.n 99) (.n 98) (.n 132),
 .ite (.n 99) (.c 0) (.n 133),
 .ite (.n 99) (.c 0) (.n 134),
 .ite (.n 53) (.n 136) (.c 0),
 .ite (.n 52) (.c 1) (.n 140),
 .ite (.n 52) (.c 1) (.n 137),
 .ite (.n 52) (.c 0) (.n 138),
 .ite (.n 52) (.c 0) (.n 139),
 .ite (.n 9) (.n 18) (.c 0),
 .ite (.n 145) (.n 20) (.c 0),
 .ite (.n 146) (.c 0) (.c 1),
 .ite (.n 23) (.n 32) (.c 0),
 .ite (.n 148) (.n 34) (.c 0),
 .ite (.n 149) (.c 0) (.c 1),
 .ite (.n 147) (.c 1) (.n 150),
 .ite (.n 38) (.n 47) (.c 0),
 .ite (.n 152) (.n 49) (.c 0),
 .ite (.n 153) (.c 0) (.c 1),
 .ite (.n 151) (.c 1) (.n 154),
 .ite (.n 155) (.c 0) (.c 1),
 .ite (.n 108) (.c 1) (.n 107),
 .ite (.n 157) (.c 0) (.c 1),
 .bin .lss .i64 (.n 101) (.c (-1073741824)),
 .ite (.n 159) (.c 0) (.c 1),
 .ite (.n 159) (.c (-1073741824)) (.n 101),
 .bin .gtr .i64 (.n 102) (.c 1073741824),
 .ite (.n 162) (.c 0) (.c 1),
 .ite (.n 162) (.c 1073741824) (.n 102),
 .app 46 0 [.n 161, .n 164],
 .app 46 1 [.n 161, .n 164],
 .app 46 2 [.n 161, .n 164],
 .ite (.n 157) (.c 12) (.c 0),
 .ite (.n 157) (.n 101) (.n 161),
 .ite (.n 157) (.n 102) (.n 164),
 .ite (.n 157) (.c 0) (.n 165),
 .ite (.n 157) (.c 0) (.n 166),
 .ite (.n 106) (.c 24) (.n 168),
 .ite (.n 106) (.n 101) (.n 169),
 .ite (.n 106) (.n 102) (.n 170),
 .ite (.n 106) (.c 0) (.n 171),
 .ite (.n 106) (.c 0) (.n 172),
 .ite (.n 104) (.c 21) (.n 173),
 .ite (.n 104) (.n 101) (.n 174),
 .ite (.n 104) (.n 102) (.n 175),
 .ite (.n 104) (.c 0) (.n 176),
 .ite (.n 104) (.c 0) (.n 177),
 .ite (.n 155) (.c 1) (.n 178),
 .ite (.n 155) (.c 0) (.n 181),
 .ite (.n 155) (.c 0) (.n 182),
 .bin .eql .i64 (.n 143) (.n 184),
 .bin .eql .i64 (.n 144) (.n 185),
 .ite (.n 186) (.n 187) (.c 0),
 .bin .eql .i64 (.n 142) (.n 183),
 .ite (.n 188) (.n 189) (.c 0),
 .ite (.n 7) (.c 0) (.n 190)]
def vc_ch : List Vc := [
 ⟨[], .pre 20 []⟩,
 ⟨[(.n 53, true), (.n 8, true)], .pre 5 [.n 4, .n 5]⟩,
 ⟨[(.n 53, true), (.n 8, true)], .pre 5 [.n 0, .n 1]⟩,
 ⟨[(.n 53, true), (.n 8, true)], .pre 5 [.n 2, .n 3]⟩,
 ⟨[(.n 53, true), (.n 8, true)], .pre 0 [.n 57, .n 58, .n 63, .n 64]⟩,
 ⟨[(.n 53, true), (.n 8, true)], .pre 2 [.n 54, .n 55, .n 69, .n 70]⟩,
 ⟨[(.n 53, true), (.n 8, true)], .pre 6 [.n 0, .n 1]⟩,
 ⟨[(.n 53, true), (.n 8, true)], .pre 6 [.n 2, .n 3]⟩,
 ⟨[(.n 53, true), (.n 8, true)], .pre 0 [.n 81, .n 82, .n 87, .n 88]⟩,
 ⟨[(.n 100, true), (.n 53, true), (.n 8, true)], .pre 12 [.n 75, .n 76, .n 93, .n 94, .c 1073741824]⟩,
 ⟨[(.n 122, true), (.n 100, true), (.n 53, true), (.n 8, true)], .pre 46 [.n 126, .n 127]⟩,
 ⟨[(.n 156, true), (.n 8, true)], .pre 5 [.n 4, .n 5]⟩,
 ⟨[(.n 156, true), (.n 8, true)], .pre 5 [.n 0, .n 1]⟩,
 ⟨[(.n 156, true), (.n 8, true)], .pre 5 [.n 2, .n 3]⟩,
 ⟨[(.n 156, true), (.n 8, true)], .pre 0 [.n 57, .n 58, .n 63, .n 64]⟩,
 ⟨[(.n 156, true), (.n 8, true)], .pre 2 [.n 54, .n 55, .n 69, .n 70]⟩,
 ⟨[(.n 156, true), (.n 8, true)], .pre 6 [.n 0, .n 1]⟩,
 ⟨[(.n 156, true), (.n 8, true)], .pre 6 [.n 2, .n 3]⟩,
 ⟨[(.n 156, true), (.n 8, true)], .pre 0 [.n 81, .n 82, .n 87, .n 88]⟩,
 ⟨[(.n 156, true), (.n 8, true)], .pre 12 [.n 75, .n 76, .n 93, .n 94, .c 1073741824]⟩,
 ⟨[(.n 158, true), (.n 111, true), (.n 121, true), (.n 156, true), (.n 8, true)], .pre 46 [.n 161, .n 164]⟩]
theorem wh_ch : whole Tryz.prog spCH 20 40 6 [(true, [some .i64, some .i64]), (true, [some .i64, some .i64]), (true, [some .i64, some .i64])] = some (.p (.c (.bool (.n 191))), ⟨nd_ch.reverse, vc_ch.reverse⟩) := by kernel_rfl
theorem wf_ch : wfN nd_ch.reverse = true := by kernel_rfl
set_option maxRecDepth 100000 in
set_option maxHeartbeats 4000000 in
theorem c_lawCH (a0 a1 a2 a3 a4 a5 : Int) (w : World)  : Calls Tryz.prog 6 #[.agg #[.int .i64 a0, .int .i64 a1], .agg #[.int .i64 a2, .int .i64 a3], .agg #[.int .i64 a4, .int .i64 a5]] w fun e w' => e = .returned (.bool true) ∧ Below w.heap.size w w' := by
 refine Sx.calls (X := cxF [a0, a1, a2, a3, a4, a5]) hmix (spCH_ok _) wh_ch wf_ch (fun v hs => ?_) w
 have e0 : v 0 = a0 := satF hs 0 rfl
 have e1 : v 1 = a1 := satF hs 1 rfl
 have e2 : v 2 = a2 := satF hs 2 rfl
 have e3 : v 3 = a3 := satF hs 3 rfl
 have e4 : v 4 = a4 := satF hs 4 rfl
 have e5 : v 5 = a5 := satF hs 5 rfl
 have e9 : v 9 = b2i (decide (v 0 ≤ v 1)) := satF hs 9 rfl
 have e10 : v 10 = b2i (decide (v 0 ≥ (-1099511627776 : Int))) := satF hs 10 rfl
 have e11 : v 11 = b2i (decide (v 0 ≤ (1099511627776 : Int))) := satF hs 11 rfl
 have e12 : v 12 = if v 10 ≠ 0 then v 11 else (0 : Int) := satF hs 12 rfl
 have e13 : v 13 = if v 9 ≠ 0 then v 12 else (0 : Int) := satF hs 13 rfl
 have e14 : v 14 = b2i (decide (v 1 ≥ (-1099511627776 : Int))) := satF hs 14 rfl
 have e15 : v 15 = b2i (decide (v 1 ≤ (1099511627776 : Int))) := satF hs 15 rfl
 have e16 : v 16 = if v 14 ≠ 0 then v 15 else (0 : Int) := satF hs 16 rfl
 have e17 : v 17 = if v 13 ≠ 0 then v 16 else (0 : Int) := satF hs 17 rfl
 have e18 : v 18 = b2i (decide (v 0 ≥ (-5400000 : Int))) := satF hs 18 rfl
 have e19 : v 19 = if v 17 ≠ 0 then v 18 else (0 : Int) := satF hs 19 rfl
 have e20 : v 20 = b2i (decide (v 1 ≤ (5400000 : Int))) := satF hs 20 rfl
 have e21 : v 21 = if v 19 ≠ 0 then v 20 else (0 : Int) := satF hs 21 rfl
 have e23 : v 23 = b2i (decide (v 2 ≤ v 3)) := satF hs 23 rfl
 have e24 : v 24 = b2i (decide (v 2 ≥ (-1099511627776 : Int))) := satF hs 24 rfl
 have e25 : v 25 = b2i (decide (v 2 ≤ (1099511627776 : Int))) := satF hs 25 rfl
 have e26 : v 26 = if v 24 ≠ 0 then v 25 else (0 : Int) := satF hs 26 rfl
 have e27 : v 27 = if v 23 ≠ 0 then v 26 else (0 : Int) := satF hs 27 rfl
 have e28 : v 28 = b2i (decide (v 3 ≥ (-1099511627776 : Int))) := satF hs 28 rfl
 have e29 : v 29 = b2i (decide (v 3 ≤ (1099511627776 : Int))) := satF hs 29 rfl
 have e30 : v 30 = if v 28 ≠ 0 then v 29 else (0 : Int) := satF hs 30 rfl
 have e31 : v 31 = if v 27 ≠ 0 then v 30 else (0 : Int) := satF hs 31 rfl
 have e32 : v 32 = b2i (decide (v 2 ≥ (-5400000 : Int))) := satF hs 32 rfl
 have e33 : v 33 = if v 31 ≠ 0 then v 32 else (0 : Int) := satF hs 33 rfl
 have e34 : v 34 = b2i (decide (v 3 ≤ (5400000 : Int))) := satF hs 34 rfl
 have e35 : v 35 = if v 33 ≠ 0 then v 34 else (0 : Int) := satF hs 35 rfl
 have e38 : v 38 = b2i (decide (v 4 ≤ v 5)) := satF hs 38 rfl
 have e39 : v 39 = b2i (decide (v 4 ≥ (-1099511627776 : Int))) := satF hs 39 rfl
 have e40 : v 40 = b2i (decide (v 4 ≤ (1099511627776 : Int))) := satF hs 40 rfl
 have e41 : v 41 = if v 39 ≠ 0 then v 40 else (0 : Int) := satF hs 41 rfl
 have e42 : v 42 = if v 38 ≠ 0 then v 41 else (0 : Int) := satF hs 42 rfl
 have e43 : v 43 = b2i (decide (v 5 ≥ (-1099511627776 : Int))) := satF hs 43 rfl
 have e44 : v 44 = b2i (decide (v 5 ≤ (1099511627776 : Int))) := satF hs 44 rfl
 have e45 : v 45 = if v 43 ≠ 0 then v 44 else (0 : Int) := satF hs 45 rfl
 have e46 : v 46 = if v 42 ≠ 0 then v 45 else (0 : Int) := satF hs 46 rfl
 have e47 : v 47 = b2i (decide (v 4 ≥ (-5400000 : Int))) := satF hs 47 rfl
 have e48 : v 48 = if v 46 ≠ 0 then v 47 else (0 : Int) := satF hs 48 rfl
 have e49 : v 49 = b2i (decide (v 5 ≤ (5400000 : Int))) := satF hs 49 rfl
 have e50 : v 50 = if v 48 ≠ 0 then v 49 else (0 : Int) := satF hs 50 rfl
 have e145 : v 145 = if v 9 ≠ 0 then v 18 else (0 : Int) := satF hs 145 rfl
 have e146 : v 146 = if v 145 ≠ 0 then v 20 else (0 : Int) := satF hs 146 rfl
 have e148 : v 148 = if v 23 ≠ 0 then v 32 else (0 : Int) := satF hs 148 rfl
 have e149 : v 149 = if v 148 ≠ 0 then v 34 else (0 : Int) := satF hs 149 rfl
 have e152 : v 152 = if v 38 ≠ 0 then v 47 else (0 : Int) := satF hs 152 rfl
 have e153 : v 153 = if v 152 ≠ 0 then v 49 else (0 : Int) := satF hs 153 rfl
 have L0 : v 21 = b2i (decide (-5400000 ≤ v 0 ∧ v 0 ≤ v 1 ∧ v 1 ≤ 5400000)) ∧ v 146 = b2i (decide (-5400000 ≤ v 0 ∧ v 0 ≤ v 1 ∧ v 1 ≤ 5400000)) := by
  have := lat_p (r := v 18) (s := v 20) (t := 0) (u := 0) e9 e10 e11 e14 e15 e18 e20
  rw [e21, e19, e17, e13, e12, e16, e146, e145]
  exact this
 have L2 : v 35 = b2i (decide (-5400000 ≤ v 2 ∧ v 2 ≤ v 3 ∧ v 3 ≤ 5400000)) ∧ v 149 = b2i (decide (-5400000 ≤ v 2 ∧ v 2 ≤ v 3 ∧ v 3 ≤ 5400000)) := by
  have := lat_p (r := v 32) (s := v 34) (t := 0) (u := 0) e23 e24 e25 e28 e29 e32 e34
  rw [e35, e33, e31, e27, e26, e30, e149, e148]
  exact this
 have L4 : v 50 = b2i (decide (-5400000 ≤ v 4 ∧ v 4 ≤ v 5 ∧ v 5 ≤ 5400000)) ∧ v 153 = b2i (decide (-5400000 ≤ v 4 ∧ v 4 ≤ v 5 ∧ v 5 ≤ 5400000)) := by
  have := lat_p (r := v 47) (s := v 49) (t := 0) (u := 0) e38 e39 e40 e43 e44 e47 e49
  rw [e50, e48, e46, e42, e41, e45, e153, e152]
  exact this
 rcases two_of L0.1 with ⟨g0, u0⟩ | ⟨g0, u0⟩
 rotate_left
 · have w0 : v 146 = 0 := by rw [L0.2, decide_eq_false g0]; rfl
   have z53 : v 53 = 0 := norm_val (X := cxF [a0, a1, a2, a3, a4, a5]) (v := v) (l := nd_ch) (extF_ok _) hs (k := 53) (r := .c 0) (ps := [(21, .c 0), (146, .c 0)]) (nz := []) (ps_cons u0 (ps_cons w0 ps_nil)) nz_nil (by kernel_rfl)
   have z156 : v 156 = 0 := norm_val (X := cxF [a0, a1, a2, a3, a4, a5]) (v := v) (l := nd_ch) (extF_ok _) hs (k := 156) (r := .c 0) (ps := [(21, .c 0), (146, .c 0)]) (nz := []) (ps_cons u0 (ps_cons w0 ps_nil)) nz_nil (by kernel_rfl)
   refine ⟨vcs_rev ?_, ?_⟩
   · exact vcs_cons (fun _ => trivial) (vcs_cons (fun hp => absurd z53 (pt_true hp).1) (vcs_cons (fun hp => absurd z53 (pt_true hp).1) (vcs_cons (fun hp => absurd z53 (pt_true hp).1) (vcs_cons (fun hp => absurd z53 (pt_true hp).1) (vcs_cons (fun hp => absurd z53 (pt_true hp).1) (vcs_cons (fun hp => absurd z53 (pt_true hp).1) (vcs_cons (fun hp => absurd z53 (pt_true hp).1) (vcs_cons (fun hp => absurd z53 (pt_true hp).1) (vcs_cons (fun hp => absurd z53 (pt_true (pt_true hp).2).1) (vcs_cons (fun hp => absurd z53 (pt_true (pt_true (pt_true hp).2).2).1) (vcs_cons (fun hp => absurd z156 (pt_true hp).1) (vcs_cons (fun hp => absurd z156 (pt_true hp).1) (vcs_cons (fun hp => absurd z156 (pt_true hp).1) (vcs_cons (fun hp => absurd z156 (pt_true hp).1) (vcs_cons (fun hp => absurd z156 (pt_true hp).1) (vcs_cons (fun hp => absurd z156 (pt_true hp).1) (vcs_cons (fun hp => absurd z156 (pt_true hp).1) (vcs_cons (fun hp => absurd z156 (pt_true hp).1) (vcs_cons (fun hp => absurd z156 (pt_true hp).1) (vcs_cons (fun hp => absurd z156 (pt_true (pt_true (pt_true (pt_true hp).2).2).2).1) (vcs_nil)))))))))))))))))))))
   · intro x hx
     have hx' : x = .bool (decide (v 191 ≠ 0)) := hx
     have hr : v 191 = 1 := norm_val (X := cxF [a0, a1, a2, a3, a4, a5]) (v := v) (l := nd_ch) (extF_ok _) hs (k := 191) (r := .c 1) (ps := [(21, .c 0), (146, .c 0)]) (nz := []) (ps_cons u0 (ps_cons w0 ps_nil)) nz_nil (by kernel_rfl)
     rw [hx', hr]; rfl
 have w0 : v 146 = 1 := by rw [L0.2, decide_eq_true g0]; rfl
 rcases two_of L2.1 with ⟨g2, u2⟩ | ⟨g2, u2⟩
 rotate_left
 · have w2 : v 149 = 0 := by rw [L2.2, decide_eq_false g2]; rfl
   have z53 : v 53 = 0 := norm_val (X := cxF [a0, a1, a2, a3, a4, a5]) (v := v) (l := nd_ch) (extF_ok _) hs (k := 53) (r := .c 0) (ps := [(21, .c 1), (146, .c 1), (35, .c 0), (149, .c 0)]) (nz := []) (ps_cons u0 (ps_cons w0 (ps_cons u2 (ps_cons w2 ps_nil)))) nz_nil (by kernel_rfl)
   have z156 : v 156 = 0 := norm_val (X := cxF [a0, a1, a2, a3, a4, a5]) (v := v) (l := nd_ch) (extF_ok _) hs (k := 156) (r := .c 0) (ps := [(21, .c 1), (146, .c 1), (35, .c 0), (149, .c 0)]) (nz := []) (ps_cons u0 (ps_cons w0 (ps_cons u2 (ps_cons w2 ps_nil)))) nz_nil (by kernel_rfl)
   refine ⟨vcs_rev ?_, ?_⟩
   · exact vcs_cons (fun _ => trivial) (vcs_cons (fun hp => absurd z53 (pt_true hp).1) (vcs_cons (fun hp => absurd z53 (pt_true hp).1) (vcs_cons (fun hp => absurd z53 (pt_true hp).1) (vcs_cons (fun hp => absurd z53 (pt_true hp).1) (vcs_cons (fun hp => absurd z53 (pt_true hp).1) (vcs_cons (fun hp => absurd z53 (pt_true hp).1) (vcs_cons (fun hp => absurd z53 (pt_true hp).1) (vcs_cons (fun hp => absurd z53 (pt_true hp).1) (vcs_cons (fun hp => absurd z53 (pt_true (pt_true hp).2).1) (vcs_cons (fun hp => absurd z53 (pt_true (pt_true (pt_true hp).2).2).1) (vcs_cons (fun hp => absurd z156 (pt_true hp).1) (vcs_cons (fun hp => absurd z156 (pt_true hp).1) (vcs_cons (fun hp => absurd z156 (pt_true hp).1) (vcs_cons (fun hp => absurd z156 (pt_true hp).1) (vcs_cons (fun hp => absurd z156 (pt_true hp).1) (vcs_cons (fun hp => absurd z156 (pt_true hp).1) (vcs_cons (fun hp => absurd z156 (pt_true hp).1) (vcs_cons (fun hp => absurd z156 (pt_true hp).1) (vcs_cons (fun hp => absurd z156 (pt_true hp).1) (vcs_cons (fun hp => absurd z156 (pt_true (pt_true (pt_true (pt_true hp).2).2).2).1) (vcs_nil)))))))))))))))))))))
   · intro x hx
     have hx' : x = .bool (decide (v 191 ≠ 0)) := hx
     have hr : v 191 = 1 := norm_val (X := cxF [a0, a1, a2, a3, a4, a5]) (v := v) (l := nd_ch) (extF_ok _) hs (k := 191) (r := .c 1) (ps := [(21, .c 1), (146, .c 1), (35, .c 0), (149, .c 0)]) (nz := []) (ps_cons u0 (ps_cons w0 (ps_cons u2 (ps_cons w2 ps_nil)))) nz_nil (by kernel_rfl)
     rw [hx', hr]; rfl
 have w2 : v 149 = 1 := by rw [L2.2, decide_eq_true g2]; rfl
 rcases two_of L4.1 with ⟨g4, u4⟩ | ⟨g4, u4⟩
 rotate_left
 · have w4 : v 153 = 0 := by rw [L4.2, decide_eq_false g4]; rfl
   have z53 : v 53 = 0 := norm_val (X := cxF [a0, a1, a2, a3, a4, a5]) (v := v) (l := nd_ch) (extF_ok _) hs (k := 53) (r := .c 0) (ps := [(21, .c 1), (146, .c 1), (35, .c 1), (149, .c 1), (50, .c 0), (153, .c 0)]) (nz := []) (ps_cons u0 (ps_cons w0 (ps_cons u2 (ps_cons w2 (ps_cons u4 (ps_cons w4 ps_nil)))))) nz_nil (by kernel_rfl)
   have z156 : v 156 = 0 := norm_val (X := cxF [a0, a1, a2, a3, a4, a5]) (v := v) (l := nd_ch) (extF_ok _) hs (k := 156) (r := .c 0) (ps := [(21, .c 1), (146, .c 1), (35, .c 1), (149, .c 1), (50, .c 0), (153, .c 0)]) (nz := []) (ps_cons u0 (ps_cons w0 (ps_cons u2 (ps_cons w2 (ps_cons u4 (ps_cons w4 ps_nil)))))) nz_nil (by kernel_rfl)
   refine ⟨vcs_rev ?_, ?_⟩
   · exact vcs_cons (fun _ => trivial) (vcs_cons (fun hp => absurd z53 (pt_true hp).1) (vcs_cons (fun hp => absurd z53 (pt_true hp).1) (vcs_cons (fun hp => absurd z53 (pt_true hp).1) (vcs_cons (fun hp => absurd z53 (pt_true hp).1) (vcs_cons (fun hp => absurd z53 (pt_true hp).1) (vcs_cons (fun hp => absurd z53 (pt_true hp).1) (vcs_cons (fun hp => absurd z53 (pt_true hp).1) (vcs_cons (fun hp => absurd z53 (pt_true hp).1) (vcs_cons (fun hp => absurd z53 (pt_true (pt_true hp).2).1) (vcs_cons (fun hp => absurd z53 (pt_true (pt_true (pt_true hp).2).2).1) (vcs_cons (fun hp => absurd z156 (pt_true hp).1) (vcs_cons (fun hp => absurd z156 (pt_true hp).1) (vcs_cons (fun hp => absurd z156 (pt_true hp).1) (vcs_cons (fun hp => absurd z156 (pt_true hp).1) (vcs_cons (fun hp => absurd z156 (pt_true hp).1) (vcs_cons (fun hp => absurd z156 (pt_true hp).1) (vcs_cons (fun hp => absurd z156 (pt_true hp).1) (vcs_cons (fun hp => absurd z156 (pt_true hp).1) (vcs_cons (fun hp => absurd z156 (pt_true hp).1) (vcs_cons (fun hp => absurd z156 (pt_true (pt_true (pt_true (pt_true hp).2).2).2).1) (vcs_nil)))))))))))))))))))))
   · intro x hx
     have hx' : x = .bool (decide (v 191 ≠ 0)) := hx
     have hr : v 191 = 1 := norm_val (X := cxF [a0, a1, a2, a3, a4, a5]) (v := v) (l := nd_ch) (extF_ok _) hs (k := 191) (r := .c 1) (ps := [(21, .c 1), (146, .c 1), (35, .c 1), (149, .c 1), (50, .c 0), (153, .c 0)]) (nz := []) (ps_cons u0 (ps_cons w0 (ps_cons u2 (ps_cons w2 (ps_cons u4 (ps_cons w4 ps_nil)))))) nz_nil (by kernel_rfl)
     rw [hx', hr]; rfl
 have w4 : v 153 = 1 := by rw [L4.2, decide_eq_true g4]; rfl
 have e54 : v 54 = (semE 5 [v 4, v 5]).getD 0 0 := satF hs 54 rfl
 have e55 : v 55 = (semE 5 [v 4, v 5]).getD 1 0 := satF hs 55 rfl
 have P54 : ((v 54, v 55) : IV) = uS a4 a5 := by rw [e54, e55, e4, e5]; rfl
 have U54 : U (v 54, v 55) := by rw [P54]; exact U_S _ _
 have e57 : v 57 = (semE 5 [v 0, v 1]).getD 0 0 := satF hs 57 rfl
 have e58 : v 58 = (semE 5 [v 0, v 1]).getD 1 0 := satF hs 58 rfl
 have P57 : ((v 57, v 58) : IV) = uS a0 a1 := by rw [e57, e58, e0, e1]; rfl
 have U57 : U (v 57, v 58) := by rw [P57]; exact U_S _ _
 have e63 : v 63 = (semE 5 [v 2, v 3]).getD 0 0 := satF hs 63 rfl
 have e64 : v 64 = (semE 5 [v 2, v 3]).getD 1 0 := satF hs 64 rfl
 have P63 : ((v 63, v 64) : IV) = uS a2 a3 := by rw [e63, e64, e2, e3]; rfl
 have U63 : U (v 63, v 64) := by rw [P63]; exact U_S _ _
 have e81 : v 81 = (semE 6 [v 0, v 1]).getD 0 0 := satF hs 81 rfl
 have e82 : v 82 = (semE 6 [v 0, v 1]).getD 1 0 := satF hs 82 rfl
 have P81 : ((v 81, v 82) : IV) = uC a0 a1 := by rw [e81, e82, e0, e1]; rfl
 have U81 : U (v 81, v 82) := by rw [P81]; exact U_C _ _
 have e87 : v 87 = (semE 6 [v 2, v 3]).getD 0 0 := satF hs 87 rfl
 have e88 : v 88 = (semE 6 [v 2, v 3]).getD 1 0 := satF hs 88 rfl
 have P87 : ((v 87, v 88) : IV) = uC a2 a3 := by rw [e87, e88, e2, e3]; rfl
 have U87 : U (v 87, v 88) := by rw [P87]; exact U_C _ _
 have e69 : v 69 = (semE 0 [v 57, v 58, v 63, v 64]).getD 0 0 := satF hs 69 rfl
 have e70 : v 70 = (semE 0 [v 57, v 58, v 63, v 64]).getD 1 0 := satF hs 70 rfl
 have P69 : ((v 69, v 70) : IV) = uM (v 57, v 58) (v 63, v 64) := by rw [e69, e70]; rfl
 have U69 : U (v 69, v 70) := by rw [P69]; exact (U_M U57 U63).2.2
 have e71 : v 71 = (semE 0 [v 57, v 58, v 63, v 64]).getD 2 0 := satF hs 71 rfl
 have E71 : v 71 = 0 := e71.trans (U_M U57 U63).2.1
 have e75 : v 75 = (semE 2 [v 54, v 55, v 69, v 70]).getD 0 0 := satF hs 75 rfl
 have e76 : v 76 = (semE 2 [v 54, v 55, v 69, v 70]).getD 1 0 := satF hs 76 rfl
 have P75 : ((v 75, v 76) : IV) = uD (v 54, v 55) (v 69, v 70) := by rw [e75, e76]; rfl
 have F75 : fxV (v 75) (v 76) = true := by have := (U_D U54 U69).2.2; rw [← P75] at this; exact this
 have e77 : v 77 = (semE 2 [v 54, v 55, v 69, v 70]).getD 2 0 := satF hs 77 rfl
 have E77 : v 77 = 0 := e77.trans (U_D U54 U69).2.1
 have e93 : v 93 = (semE 0 [v 81, v 82, v 87, v 88]).getD 0 0 := satF hs 93 rfl
 have e94 : v 94 = (semE 0 [v 81, v 82, v 87, v 88]).getD 1 0 := satF hs 94 rfl
 have P93 : ((v 93, v 94) : IV) = uM (v 81, v 82) (v 87, v 88) := by rw [e93, e94]; rfl
 have U93 : U (v 93, v 94) := by rw [P93]; exact (U_M U81 U87).2.2
 have e95 : v 95 = (semE 0 [v 81, v 82, v 87, v 88]).getD 2 0 := satF hs 95 rfl
 have E95 : v 95 = 0 := e95.trans (U_M U81 U87).2.1
 have e101 : v 101 = (semF 12 [v 75, v 76, v 93, v 94, (1073741824 : Int)]).getD 0 0 := satF hs 101 rfl
 have e102 : v 102 = (semF 12 [v 75, v 76, v 93, v 94, (1073741824 : Int)]).getD 1 0 := satF hs 102 rfl
 have e103 : v 103 = (semF 12 [v 75, v 76, v 93, v 94, (1073741824 : Int)]).getD 2 0 := satF hs 103 rfl
 have e107 : v 107 = b2i (decide (v 101 > (1073741824 : Int))) := satF hs 107 rfl
 have e108 : v 108 = b2i (decide (v 102 < (-1073741824 : Int))) := satF hs 108 rfl
 have e109 : v 109 = if v 107 ≠ 0 then (1 : Int) else v 108 := satF hs 109 rfl
 have e110 : v 110 = if v 109 ≠ 0 then (0 : Int) else (1 : Int) := satF hs 110 rfl
 have e111 : v 111 = if v 106 ≠ 0 then (0 : Int) else (1 : Int) := satF hs 111 rfl
 have e112 : v 112 = if v 111 ≠ 0 then v 110 else (0 : Int) := satF hs 112 rfl
 have e116 : v 116 = if v 105 ≠ 0 then (0 : Int) else (1 : Int) := satF hs 116 rfl
 have e117 : v 117 = if v 116 ≠ 0 then v 112 else (0 : Int) := satF hs 117 rfl
 have e121 : v 121 = if v 104 ≠ 0 then (0 : Int) else (1 : Int) := satF hs 121 rfl
 have e122 : v 122 = if v 121 ≠ 0 then v 117 else (0 : Int) := satF hs 122 rfl
 have e126 : v 126 = if (-1073741824 : Int) > v 101 then (-1073741824 : Int) else v 101 := satF hs 126 rfl
 have e127 : v 127 = if (1073741824 : Int) < v 102 then (1073741824 : Int) else v 102 := satF hs 127 rfl
 have e157 : v 157 = if v 108 ≠ 0 then (1 : Int) else v 107 := satF hs 157 rfl
 have e158 : v 158 = if v 157 ≠ 0 then (0 : Int) else (1 : Int) := satF hs 158 rfl
 have e159 : v 159 = b2i (decide (v 101 < (-1073741824 : Int))) := satF hs 159 rfl
 have e161 : v 161 = if v 159 ≠ 0 then (-1073741824 : Int) else v 101 := satF hs 161 rfl
 have e162 : v 162 = b2i (decide (v 102 > (1073741824 : Int))) := satF hs 162 rfl
 have e164 : v 164 = if v 162 ≠ 0 then (1073741824 : Int) else v 102 := satF hs 164 rfl
 have N81 : 0 ≤ v 81 := by
  rw [show v 81 = (uC a0 a1).1 from congrArg Prod.fst P81]
  exact cos_nn a0 a1 (by rw [e0, e1] at g0; exact g0)
 have N87 : 0 ≤ v 87 := by
  rw [show v 87 = (uC a2 a3).1 from congrArg Prod.fst P87]
  exact cos_nn a2 a3 (by rw [e2, e3] at g2; exact g2)
 have N93 : 0 ≤ v 93 := by
  rw [show v 93 = (uM (v 81, v 82) (v 87, v 88)).1 from congrArg Prod.fst P93]
  exact uM_nn U81 U87 N81 N87
 have Q12 : qoP (v 75) (v 76) (v 93) (v 94) 1073741824 := ⟨F75, U_fx U93, N93, by omega, by omega⟩
 have QL := qoV_le (v 75) (v 76) (v 93) (v 94) 1073741824
 have q1 : v 101 = (qoV (v 75) (v 76) (v 93) (v 94) 1073741824).getD 0 0 := e101
 have q2 : v 102 = (qoV (v 75) (v 76) (v 93) (v 94) 1073741824).getD 1 0 := e102
 have q3 : v 103 = (qoV (v 75) (v 76) (v 93) (v 94) 1073741824).getD 2 0 := e103
 rw [← q1, ← q2, ← q3] at QL
 have P46 : v 107 = 0 → v 108 = 0 → (fxV (v 126) (v 127) = true ∧ v 126 ≤ 1073741824 ∧ -1073741824 ≤ v 127) := by
  rw [e107, e108, fxV_iff, e126, e127]
  intro h1 h2
  have h1' : ¬ v 101 > 1073741824 := fun q => by rw [decide_eq_true q] at h1; exact absurd h1 (by decide)
  have h2' : ¬ v 102 < -1073741824 := fun q => by rw [decide_eq_true q] at h2; exact absurd h2 (by decide)
  omega
 have S161 : v 161 = v 126 := by
  rw [e161, e126, e159, b2i_dec2]
 have S164 : v 164 = v 127 := by
  rw [e164, e127, e162, b2i_dec2]
 have C122 : v 122 ≠ 0 → v 107 = 0 ∧ v 108 = 0 := by
  rw [e122, e117, e112, e110, e109]
  intro h
  by_cases k1 : v 107 = 0 <;> by_cases k2 : v 108 = 0
  · exact ⟨k1, k2⟩
  all_goals exact absurd h (by simp [k1, k2])
 have C158 : v 158 ≠ 0 → v 107 = 0 ∧ v 108 = 0 := by
  rw [e158, e157]
  intro h
  by_cases k1 : v 107 = 0 <;> by_cases k2 : v 108 = 0
  · exact ⟨k1, k2⟩
  all_goals exact absurd h (by simp [k1, k2])
 have A0 : arcV (v 0) (v 1) = true := (arcV_iff _ _).2 (by omega)
 have A2 : arcV (v 2) (v 3) = true := (arcV_iff _ _).2 (by omega)
 have A4 : arcV (v 4) (v 5) = true := (arcV_iff _ _).2 (by omega)
 refine ⟨vcs_rev ?_, ?_⟩
 · exact vcs_cons (fun _ => trivial) (vcs_cons (fun _ => A4) (vcs_cons (fun _ => A0) (vcs_cons (fun _ => A2) (vcs_cons (fun _ => ⟨U_fx U57, U_fx U63⟩) (vcs_cons (fun _ => ⟨U_fx U54, U_fx U69⟩) (vcs_cons (fun _ => A0) (vcs_cons (fun _ => A2) (vcs_cons (fun _ => ⟨U_fx U81, U_fx U87⟩) (vcs_cons (fun _ => Q12) (vcs_cons (fun hp => P46 (C122 (pt_true hp).1).1 (C122 (pt_true hp).1).2) (vcs_cons (fun _ => A4) (vcs_cons (fun _ => A0) (vcs_cons (fun _ => A2) (vcs_cons (fun _ => ⟨U_fx U57, U_fx U63⟩) (vcs_cons (fun _ => ⟨U_fx U54, U_fx U69⟩) (vcs_cons (fun _ => A0) (vcs_cons (fun _ => A2) (vcs_cons (fun _ => ⟨U_fx U81, U_fx U87⟩) (vcs_cons (fun _ => Q12) (vcs_cons (fun hp => (show fxV (v 161) (v 164) = true ∧ v 161 ≤ 1073741824 ∧ -1073741824 ≤ v 164 by rw [S161, S164]; exact P46 (C158 (pt_true hp).1).1 (C158 (pt_true hp).1).2)) (vcs_nil)))))))))))))))))))))
 · intro x hx
   have hx' : x = .bool (decide (v 191 ≠ 0)) := hx
   suffices hr : v 191 = 1 by rw [hx', hr]; rfl
   rcases QL.2 with z | z | z
   · rcases two_of e107 with ⟨_, k1⟩ | ⟨_, k1⟩ <;> rcases two_of e108 with ⟨_, k2⟩ | ⟨_, k2⟩
     · exact norm_val (X := cxF [a0, a1, a2, a3, a4, a5]) (v := v) (l := nd_ch) (extF_ok _) hs (k := 191) (r := .c 1) (ps := [(21, .c 1), (146, .c 1), (35, .c 1), (149, .c 1), (50, .c 1), (153, .c 1), (71, .c 0), (77, .c 0), (95, .c 0), (103, .c 0), (107, .c 1), (108, .c 1), (161, .n 126), (164, .n 127)]) (nz := []) (ps_cons u0 (ps_cons w0 (ps_cons u2 (ps_cons w2 (ps_cons u4 (ps_cons w4 (ps_cons E71 (ps_cons E77 (ps_cons E95 (ps_cons z (ps_cons k1 (ps_cons k2 (ps_cons S161 (ps_cons S164 ps_nil)))))))))))))) nz_nil (by kernel_rfl)
     · exact norm_val (X := cxF [a0, a1, a2, a3, a4, a5]) (v := v) (l := nd_ch) (extF_ok _) hs (k := 191) (r := .c 1) (ps := [(21, .c 1), (146, .c 1), (35, .c 1), (149, .c 1), (50, .c 1), (153, .c 1), (71, .c 0), (77, .c 0), (95, .c 0), (103, .c 0), (107, .c 1), (108, .c 0), (161, .n 126), (164, .n 127)]) (nz := []) (ps_cons u0 (ps_cons w0 (ps_cons u2 (ps_cons w2 (ps_cons u4 (ps_cons w4 (ps_cons E71 (ps_cons E77 (ps_cons E95 (ps_cons z (ps_cons k1 (ps_cons k2 (ps_cons S161 (ps_cons S164 ps_nil)))))))))))))) nz_nil (by kernel_rfl)
     · exact norm_val (X := cxF [a0, a1, a2, a3, a4, a5]) (v := v) (l := nd_ch) (extF_ok _) hs (k := 191) (r := .c 1) (ps := [(21, .c 1), (146, .c 1), (35, .c 1), (149, .c 1), (50, .c 1), (153, .c 1), (71, .c 0), (77, .c 0), (95, .c 0), (103, .c 0), (107, .c 0), (108, .c 1), (161, .n 126), (164, .n 127)]) (nz := []) (ps_cons u0 (ps_cons w0 (ps_cons u2 (ps_cons w2 (ps_cons u4 (ps_cons w4 (ps_cons E71 (ps_cons E77 (ps_cons E95 (ps_cons z (ps_cons k1 (ps_cons k2 (ps_cons S161 (ps_cons S164 ps_nil)))))))))))))) nz_nil (by kernel_rfl)
     · exact norm_val (X := cxF [a0, a1, a2, a3, a4, a5]) (v := v) (l := nd_ch) (extF_ok _) hs (k := 191) (r := .c 1) (ps := [(21, .c 1), (146, .c 1), (35, .c 1), (149, .c 1), (50, .c 1), (153, .c 1), (71, .c 0), (77, .c 0), (95, .c 0), (103, .c 0), (107, .c 0), (108, .c 0), (161, .n 126), (164, .n 127)]) (nz := []) (ps_cons u0 (ps_cons w0 (ps_cons u2 (ps_cons w2 (ps_cons u4 (ps_cons w4 (ps_cons E71 (ps_cons E77 (ps_cons E95 (ps_cons z (ps_cons k1 (ps_cons k2 (ps_cons S161 (ps_cons S164 ps_nil)))))))))))))) nz_nil (by kernel_rfl)
   · exact norm_val (X := cxF [a0, a1, a2, a3, a4, a5]) (v := v) (l := nd_ch) (extF_ok _) hs (k := 191) (r := .c 1) (ps := [(21, .c 1), (146, .c 1), (35, .c 1), (149, .c 1), (50, .c 1), (153, .c 1), (71, .c 0), (77, .c 0), (95, .c 0), (103, .c 5), (161, .n 126), (164, .n 127)]) (nz := []) (ps_cons u0 (ps_cons w0 (ps_cons u2 (ps_cons w2 (ps_cons u4 (ps_cons w4 (ps_cons E71 (ps_cons E77 (ps_cons E95 (ps_cons z (ps_cons S161 (ps_cons S164 ps_nil)))))))))))) nz_nil (by kernel_rfl)
   · exact norm_val (X := cxF [a0, a1, a2, a3, a4, a5]) (v := v) (l := nd_ch) (extF_ok _) hs (k := 191) (r := .c 1) (ps := [(21, .c 1), (146, .c 1), (35, .c 1), (149, .c 1), (50, .c 1), (153, .c 1), (71, .c 0), (77, .c 0), (95, .c 0), (103, .c 16), (161, .n 126), (164, .n 127)]) (nz := []) (ps_cons u0 (ps_cons w0 (ps_cons u2 (ps_cons w2 (ps_cons u4 (ps_cons w4 (ps_cons E71 (ps_cons E77 (ps_cons E95 (ps_cons z (ps_cons S161 (ps_cons S164 ps_nil)))))))))))) nz_nil (by kernel_rfl)
end Go.Proofs.YtfffpodaabdpfaaGreat
