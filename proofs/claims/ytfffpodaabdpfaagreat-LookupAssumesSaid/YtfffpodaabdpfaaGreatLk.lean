/- The parts of lookup, each by the nodes of its own run; the example of layer 32. -/
import Derived.Test.YtfffpodaabdpfaaGreatCosXP
import Derived.Test.YtfffpodaabdpfaaGreatSemN
set_option linter.unusedVariables false
set_option linter.unusedSimpArgs false
namespace Go.Proofs.YtfffpodaabdpfaaGreat
open Go.RowKit Alm Sx
theorem len6 {xs : List Int} (h : xs.length = 6) : ∃ a b c d e f, xs = [a, b, c, d, e, f] := by
 match xs, h with
 | [a, b, c, d, e, f], _ => exact ⟨a, b, c, d, e, f, rfl⟩
theorem len5 {xs : List Int} (h : xs.length = 5) : ∃ a b c d e, xs = [a, b, c, d, e] := by
 match xs, h with
 | [a, b, c, d, e], _ => exact ⟨a, b, c, d, e, rfl⟩
theorem len12 {xs : List Int} (h : xs.length = 12) : ∃ a b c d e f g i j k l m, xs = [a, b, c, d, e, f, g, i, j, k, l, m] := by
 match xs, h with
 | [a, b, c, d, e, f, g, i, j, k, l, m], _ => exact ⟨a, b, c, d, e, f, g, i, j, k, l, m, rfl⟩
theorem len10 {xs : List Int} (h : xs.length = 10) : ∃ a b c d e f g i j k, xs = [a, b, c, d, e, f, g, i, j, k] := by
 match xs, h with
 | [a, b, c, d, e, f, g, i, j, k], _ => exact ⟨a, b, c, d, e, f, g, i, j, k, rfl⟩
def nd_pSo : List Nd := [
 .arg 0,
 .arg 1,
 .arg 2,
 .arg 3,
 .arg 4,
 .arg 5,
 .app 52 0 [.n 0, .n 1, .n 2, .n 3, .n 4, .n 5],
 .ite (.n 6) (.c 0) (.c 1),
 .ite (.n 7) (.c 0) (.c 1),
 .app 50 0 [.n 0, .n 1, .n 2, .n 3, .n 4, .n 5],
 .app 50 1 [.n 0, .n 1, .n 2, .n 3, .n 4, .n 5],
 .app 50 2 [.n 0, .n 1, .n 2, .n 3, .n 4, .n 5],
 .ite (.n 7) (.c 1) (.n 11),
 .ite (.n 7) (.c 0) (.n 9),
 .ite (.n 7) (.c 0) (.n 10),
 .bin .neq .i64 (.n 12) (.c 0),
 .ite (.n 15) (.c 0) (.c 1),
 .app 51 0 [.n 0, .n 1, .n 2, .n 3, .n 4, .n 5],
 .app 51 1 [.n 0, .n 1, .n 2, .n 3, .n 4, .n 5],
 .app 51 2 [.n 0, .n 1, .n 2, .n 3, .n 4, .n 5],
 .ite (.n 7) (.c 1) (.n 19),
 .ite (.n 7) (.c 0) (.n 17),
 .ite (.n 7) (.c 0) (.n 18),
 .bin .neq .i64 (.n 20) (.c 0),
 .ite (.n 23) (.c 0) (.c 1),
 .ite (.n 23) (.n 20) (.c 0),
 .ite (.n 23) (.c 0) (.n 13),
 .ite (.n 23) (.c 0) (.n 14),
 .ite (.n 23) (.c 0) (.n 21),
 .ite (.n 23) (.c 0) (.n 22),
 .ite (.n 15) (.n 12) (.n 25),
 .ite (.n 15) (.n 12) (.n 20),
 .ite (.n 15) (.c 0) (.n 26),
 .ite (.n 15) (.c 0) (.n 27),
 .ite (.n 15) (.c 0) (.n 28),
 .ite (.n 15) (.c 0) (.n 29)]
def vc_pSo : List Vc := [
 ⟨[], .pre 52 [.n 0, .n 1, .n 2, .n 3, .n 4, .n 5]⟩,
 ⟨[(.n 8, true)], .pre 50 [.n 0, .n 1, .n 2, .n 3, .n 4, .n 5]⟩,
 ⟨[(.n 16, true)], .pre 52 [.n 0, .n 1, .n 2, .n 3, .n 4, .n 5]⟩,
 ⟨[(.n 8, true), (.n 16, true)], .pre 51 [.n 0, .n 1, .n 2, .n 3, .n 4, .n 5]⟩]
theorem wh_pSo : whole Tryz.prog spFP 20 40 31 [(true, [some .i64, some .i64, some .i64, some .i64, some .i64, some .i64])] = some (.tup [.agg [.int .i64 (.n 32), .int .i64 (.n 33), .int .i64 (.n 34), .int .i64 (.n 35)], .c (.int .i64 (.n 30))], ⟨nd_pSo.reverse, vc_pSo.reverse⟩) := by kernel_rfl
theorem wf_pSo : wfN nd_pSo.reverse = true := by kernel_rfl
def epSo (xs : List Int) : List Int := evalN (cxF xs) nd_pSo.reverse
def qpSo (xs : List Int) : Bool := Nat.beq xs.length 6 && vcsB preFb (lkN (epSo xs)) vc_pSo.reverse
def rpSo (xs : List Int) : List Int := match epSo xs with
 | l => [lkN l 32, lkN l 33, lkN l 34, lkN l 35, lkN l 30]
set_option maxRecDepth 100000 in
theorem c_pSo (x0 x1 x2 x3 x4 x5 : Int) (w : World) (h : qpSo [x0, x1, x2, x3, x4, x5] = true) : Calls Tryz.prog 31 #[.agg #[.int .i64 x0, .int .i64 x1, .int .i64 x2, .int .i64 x3, .int .i64 x4, .int .i64 x5]] w fun e w' => e = .returned (.tuple #[.agg #[.int .i64 (lkN (epSo [x0, x1, x2, x3, x4, x5]) 32), .int .i64 (lkN (epSo [x0, x1, x2, x3, x4, x5]) 33), .int .i64 (lkN (epSo [x0, x1, x2, x3, x4, x5]) 34), .int .i64 (lkN (epSo [x0, x1, x2, x3, x4, x5]) 35)], .int .i64 (lkN (epSo [x0, x1, x2, x3, x4, x5]) 30)]) ∧ Below w.heap.size w w' := by
 unfold qpSo at h
 rw [Bool.and_eq_true] at h
 exact calls_ev (X := cxF [x0, x1, x2, x3, x4, x5]) hmix (spFP_ok _) wh_pSo wf_pSo (fun x hx => valV_of (by rfl) hx) (pre := preFb) (preFb_ok _) h.2 w
theorem spF_k (k : Nat → Bool) (h : ∀ f, f ≤ 12 ∨ f = 36 ∨ f = 46 ∨ (50 ≤ f ∧ f ≤ 52) → k f = false) : ∀ s ∈ spFP, k s.id = false := by
 intro s hs
 apply h
 simp only [spFP, spProg, spP0, spPn, List.mem_append, List.mem_cons, List.not_mem_nil, or_false] at hs
 rcases hs with (h | h) | h
 · rcases h with rfl | rfl | rfl | rfl | rfl | rfl | rfl | rfl | rfl <;> decide
 · rcases h with rfl | rfl | rfl <;> decide
 · rcases h with rfl | rfl | rfl | rfl | rfl <;> decide
theorem kH_old (f : Nat) (h : f ≤ 12 ∨ f = 36 ∨ f = 46 ∨ (50 ≤ f ∧ f ≤ 52)) : (f == 53) = false := by
 simp; omega
def kH (f : Nat) : Bool := f == 53
def semH : Nat → List Int → List Int
 | 53, xs => rpSo xs
 | _, _ => []
def preH : Nat → List Int → Prop
 | 53, xs => qpSo xs = true
 | _, _ => False
def cxH (args : List Int) : Cx := (cxF args).plus kH semH preH
def preHb : Nat → List Int → Bool
 | 53, xs => qpSo xs
 | f, xs => !kH f && preFb f xs
theorem preHb_ok (args : List Int) (f : Nat) (xs : List Int) (h : preHb f xs = true) : (cxH args).pre f xs := by
 show if kH f = true then preH f xs else (cxF args).pre f xs
 unfold preHb at h
 split at h
 · exact h
 · simp only [Bool.and_eq_true, Bool.not_eq_true'] at h
   rw [if_neg (by rw [h.1]; decide)]
   exact preFb_ok args _ _ h.2
def spSo : Sx.Spec := ⟨31, 53, [(true, [some .i64, some .i64, some .i64, some .i64, some .i64, some .i64])], [(true, [some .i64, some .i64, some .i64, some .i64]), (false, [some .i64])]⟩
def spH : List Sx.Spec := spFP ++ [spSo]
set_option maxRecDepth 100000 in
set_option maxHeartbeats 4000000 in
theorem spH_ok (args : List Int) : ∀ s ∈ spH, SpecOK Tryz.prog (cxH args) s := by
 intro s hs
 rcases List.mem_append.1 hs with h | h
 · exact plus_old (spF_k kH kH_old s h) (spFP_ok args s h)
 · simp only [List.mem_cons, List.not_mem_nil, or_false] at h
   rcases h with rfl
   · refine plus_new rfl (ours _ _ _ Tryz.func31 rfl (by kernel_rfl)) fun xs hp w => ?_
     have hq : qpSo xs = true := hp
     have hl : xs.length = 6 := by
      unfold qpSo at hq
      rw [Bool.and_eq_true] at hq
      exact Nat.eq_of_beq_eq_true hq.1
     obtain ⟨x0, x1, x2, x3, x4, x5, rfl⟩ := len6 hl
     exact c_pSo x0 x1 x2 x3 x4 x5 w hq
def nd_pWr : List Nd := [
 .arg 0,
 .arg 1,
 .arg 2,
 .arg 3,
 .arg 4,
 .app 5 0 [.n 0, .n 1],
 .app 5 1 [.n 0, .n 1],
 .app 5 2 [.n 0, .n 1],
 .app 6 0 [.n 0, .n 1],
 .app 6 1 [.n 0, .n 1],
 .app 6 2 [.n 0, .n 1],
 .bin .mul .i64 (.n 4) (.c 60000),
 .bin .add .i64 (.n 11) (.c 0),
 .bin .add .i64 (.n 12) (.c 30000),
 .app 53 0 [.n 0, .n 1, .n 2, .n 3, .n 12, .n 13],
 .app 53 1 [.n 0, .n 1, .n 2, .n 3, .n 12, .n 13],
 .app 53 2 [.n 0, .n 1, .n 2, .n 3, .n 12, .n 13],
 .app 53 3 [.n 0, .n 1, .n 2, .n 3, .n 12, .n 13],
 .app 53 4 [.n 0, .n 1, .n 2, .n 3, .n 12, .n 13],
 .bin .neq .i64 (.n 18) (.c 0),
 .ite (.n 19) (.c 0) (.c 1),
 .app 5 0 [.n 16, .n 17],
 .app 5 1 [.n 16, .n 17],
 .app 5 2 [.n 16, .n 17],
 .app 6 0 [.n 16, .n 17],
 .app 6 1 [.n 16, .n 17],
 .app 6 2 [.n 16, .n 17],
 .app 5 0 [.n 14, .n 15],
 .app 5 1 [.n 14, .n 15],
 .app 5 2 [.n 14, .n 15],
 .app 6 0 [.n 14, .n 15],
 .app 6 1 [.n 14, .n 15],
 .app 6 2 [.n 14, .n 15],
 .app 0 0 [.n 8, .n 9, .n 21, .n 22],
 .app 0 1 [.n 8, .n 9, .n 21, .n 22],
 .app 0 2 [.n 8, .n 9, .n 21, .n 22],
 .app 0 0 [.n 5, .n 6, .n 30, .n 31],
 .app 0 1 [.n 5, .n 6, .n 30, .n 31],
 .app 0 2 [.n 5, .n 6, .n 30, .n 31],
 .app 0 0 [.n 8, .n 9, .n 27, .n 28],
 .app 0 1 [.n 8, .n 9, .n 27, .n 28],
 .app 0 2 [.n 8, .n 9, .n 27, .n 28],
 .app 0 0 [.n 39, .n 40, .n 24, .n 25],
 .app 0 1 [.n 39, .n 40, .n 24, .n 25],
 .app 0 2 [.n 39, .n 40, .n 24, .n 25],
 .app 2 0 [.n 36, .n 37, .n 42, .n 43],
 .app 2 1 [.n 36, .n 37, .n 42, .n 43],
 .app 2 2 [.n 36, .n 37, .n 42, .n 43],
 .app 12 0 [.n 45, .n 46, .n 30, .n 31, .c 60000],
 .app 12 1 [.n 45, .n 46, .n 30, .n 31, .c 60000],
 .app 12 2 [.n 45, .n 46, .n 30, .n 31, .c 60000],
 .bin .neq .i64 (.n 50) (.c 0),
 .ite (.n 51) (.c 0) (.c 1),
 .ite (.n 20) (.n 52) (.c 0),
 .ite (.n 20) (.n 51) (.c 0),
 .ite (.n 53) (.c 1) (.n 54),
 .ite (.n 53) (.c 0) (.c 1),
 .ite (.n 53) (.n 48) (.c 0),
 .ite (.n 53) (.n 49) (.c 0),
 .bin .add .i64 (.n 11) (.c 30000),
 .bin .add .i64 (.n 59) (.c 30000),
 .app 53 0 [.n 0, .n 1, .n 2, .n 3, .n 59, .n 60],
 .app 53 1 [.n 0, .n 1, .n 2, .n 3, .n 59, .n 60],
 .app 53 2 [.n 0, .n 1, .n 2, .n 3, .n 59, .n 60],
 .app 53 3 [.n 0, .n 1, .n 2, .n 3, .n 59, .n 60],
 .app 53 4 [.n 0, .n 1, .n 2, .n 3, .n 59, .n 60],
 .bin .neq .i64 (.n 65) (.c 0),
 .ite (.n 66) (.c 0) (.c 1),
 .app 5 0 [.n 63, .n 64],
 .app 5 1 [.n 63, .n 64],
 .app 5 2 [.n 63, .n 64],
 .app 6 0 [.n 63, .n 64],
 .app 6 1 [.n 63, .n 64],
 .app 6 2 [.n 63, .n 64],
 .app 5 0 [.n 61, .n 62],
 .app 5 1 [.n 61, .n 62],
 .app 5 2 [.n 61, .n 62],
 .app 6 0 [.n 61, .n 62],
 .app 6 1 [.n 61, .n 62],
 .app 6 2 [.n 61, .n 62],
 .app 0 0 [.n 8, .n 9, .n 68, .n 69],
 .app 0 1 [.n 8, .n 9, .n 68, .n 69],
 .app 0 2 [.n 8, .n 9, .n 68, .n 69],
 .mn (.n 33) (.n 80),
 .mx (.n 34) (.n 81),
 .app 0 0 [.n 5, .n 6, .n 77, .n 78],
 .app 0 1 [.n 5, .n 6, .n 77, .n 78],
 .app 0 2 [.n 5, .n 6, .n 77, .n 78],
 .app 0 0 [.n 8, .n 9, .n 74, .n 75],
 .app 0 1 [.n 8, .n 9, .n 74, .n 75],
 .app 0 2 [.n 8, .n 9, .n 74, .n 75],
 .app 0 0 [.n 88, .n 89, .n 71, .n 72],
 .app 0 1 [.n 88, .n 89, .n 71, .n 72],
 .app 0 2 [.n 88, .n 89, .n 71, .n 72],
 .app 2 0 [.n 85, .n 86, .n 91, .n 92],
 .app 2 1 [.n 85, .n 86, .n 91, .n 92],
 .app 2 2 [.n 85, .n 86, .n 91, .n 92],
 .app 12 0 [.n 94, .n 95, .n 77, .n 78, .c 60000],
 .app 12 1 [.n 94, .n 95, .n 77, .n 78, .c 60000],
 .app 12 2 [.n 94, .n 95, .n 77, .n 78, .c 60000],
 .bin .neq .i64 (.n 99) (.c 0),
 .ite (.n 100) (.c 0) (.c 1),
 .ite (.n 56) (.n 97) (.n 57),
 .ite (.n 56) (.n 98) (.n 58),
 .ite (.n 56) (.c 1) (.n 53),
 .mn (.n 102) (.n 97),
 .mx (.n 103) (.n 98),
 .ite (.n 67) (.n 101) (.c 0),
 .ite (.n 67) (.n 100) (.c 0),
 .ite (.n 107) (.c 1) (.n 108),
 .ite (.n 107) (.n 56) (.c 1),
 .ite (.n 107) (.n 105) (.n 57),
 .ite (.n 107) (.n 106) (.n 58),
 .ite (.n 107) (.n 104) (.n 53),
 .ite (.n 55) (.n 66) (.c 0),
 .ite (.n 55) (.n 109) (.c 0),
 .ite (.n 19) (.c 1) (.n 114),
 .ite (.n 19) (.n 18) (.n 65),
 .ite (.n 19) (.c 0) (.n 56),
 .ite (.n 19) (.n 12) (.n 59),
 .ite (.n 19) (.c 0) (.c 30000),
 .ite (.n 19) (.n 14) (.n 61),
 .ite (.n 19) (.n 15) (.n 62),
 .ite (.n 19) (.n 16) (.n 63),
 .ite (.n 19) (.n 17) (.n 64),
 .ite (.n 19) (.n 13) (.n 60),
 .ite (.n 19) (.n 19) (.n 66),
 .ite (.n 19) (.c 0) (.n 57),
 .ite (.n 19) (.c 0) (.n 58),
 .ite (.n 19) (.c 0) (.n 53),
 .ite (.n 19) (.c 0) (.n 33),
 .ite (.n 19) (.c 0) (.n 34),
 .bin .sub .i64 (.n 84) (.n 83),
 .bin .mul .i64 (.n 132) (.c 60000),
 .bin .sub .i64 (.c 0) (.n 133),
 .bin .quo .i64 (.n 134) (.c 4294967296),
 .bin .rem .i64 (.n 134) (.c 4294967296),
 .bin .lss .i64 (.n 136) (.c 0),
 .bin .sub .i64 (.n 135) (.c 1),
 .ite (.n 137) (.c 0) (.c 1),
 .ite (.n 137) (.n 138) (.n 135),
 .bin .sub .i64 (.c 0) (.n 140),
 .bin .sub .i64 (.n 112) (.n 111),
 .bin .sub .i64 (.c 0) (.n 142),
 .bin .quo .i64 (.n 143) (.c 4),
 .bin .rem .i64 (.n 143) (.c 4),
 .bin .lss .i64 (.n 145) (.c 0),
 .bin .sub .i64 (.n 144) (.c 1),
 .ite (.n 146) (.c 0) (.c 1),
 .ite (.n 146) (.n 147) (.n 144),
 .bin .sub .i64 (.c 0) (.n 149),
 .bin .gtr .i64 (.n 150) (.c 10800000),
 .ite (.n 110) (.c 1) (.n 151),
 .ite (.n 152) (.c 0) (.c 1),
 .ite (.n 152) (.c 10800000) (.n 150),
 .ite (.n 116) (.c 1) (.n 115),
 .ite (.n 116) (.n 117) (.c 0),
 .ite (.n 116) (.n 118) (.n 110),
 .ite (.n 116) (.n 20) (.c 1),
 .ite (.n 116) (.n 119) (.n 97),
 .ite (.n 116) (.n 117) (.n 99),
 .ite (.n 116) (.n 20) (.c 2),
 .ite (.n 116) (.n 120) (.c 30000),
 .ite (.n 116) (.n 119) (.n 59),
 .ite (.n 116) (.n 121) (.n 61),
 .ite (.n 116) (.n 122) (.n 62),
 .ite (.n 116) (.n 123) (.n 63),
 .ite (.n 116) (.n 124) (.n 64),
 .ite (.n 116) (.n 117) (.n 65),
 .ite (.n 116) (.n 125) (.n 60),
 .ite (.n 116) (.n 126) (.n 66),
 .ite (.n 116) (.n 127) (.n 111),
 .ite (.n 116) (.n 128) (.n 112),
 .ite (.n 116) (.n 129) (.n 113),
 .ite (.n 116) (.n 130) (.n 83),
 .ite (.n 116) (.n 131) (.n 84),
 .ite (.n 116) (.c 0) (.n 141),
 .ite (.n 116) (.c 0) (.n 154)]
def vc_pWr : List Vc := [
 ⟨[], .pre 5 [.n 0, .n 1]⟩,
 ⟨[], .pre 6 [.n 0, .n 1]⟩,
 ⟨[], .pre 53 [.n 0, .n 1, .n 2, .n 3, .n 12, .n 13]⟩,
 ⟨[(.n 20, true)], .pre 5 [.n 16, .n 17]⟩,
 ⟨[(.n 20, true)], .pre 6 [.n 16, .n 17]⟩,
 ⟨[(.n 20, true)], .pre 5 [.n 14, .n 15]⟩,
 ⟨[(.n 20, true)], .pre 6 [.n 14, .n 15]⟩,
 ⟨[(.n 20, true)], .pre 0 [.n 8, .n 9, .n 21, .n 22]⟩,
 ⟨[(.n 20, true)], .pre 0 [.n 5, .n 6, .n 30, .n 31]⟩,
 ⟨[(.n 20, true)], .pre 0 [.n 8, .n 9, .n 27, .n 28]⟩,
 ⟨[(.n 20, true)], .pre 0 [.n 39, .n 40, .n 24, .n 25]⟩,
 ⟨[(.n 20, true)], .pre 2 [.n 36, .n 37, .n 42, .n 43]⟩,
 ⟨[(.n 20, true)], .pre 12 [.n 45, .n 46, .n 30, .n 31, .c 60000]⟩,
 ⟨[(.n 55, true)], .pre 53 [.n 0, .n 1, .n 2, .n 3, .n 59, .n 60]⟩,
 ⟨[(.n 67, true), (.n 55, true)], .pre 5 [.n 63, .n 64]⟩,
 ⟨[(.n 67, true), (.n 55, true)], .pre 6 [.n 63, .n 64]⟩,
 ⟨[(.n 67, true), (.n 55, true)], .pre 5 [.n 61, .n 62]⟩,
 ⟨[(.n 67, true), (.n 55, true)], .pre 6 [.n 61, .n 62]⟩,
 ⟨[(.n 67, true), (.n 55, true)], .pre 0 [.n 8, .n 9, .n 68, .n 69]⟩,
 ⟨[(.n 67, true), (.n 55, true)], .pre 0 [.n 5, .n 6, .n 77, .n 78]⟩,
 ⟨[(.n 67, true), (.n 55, true)], .pre 0 [.n 8, .n 9, .n 74, .n 75]⟩,
 ⟨[(.n 67, true), (.n 55, true)], .pre 0 [.n 88, .n 89, .n 71, .n 72]⟩,
 ⟨[(.n 67, true), (.n 55, true)], .pre 2 [.n 85, .n 86, .n 91, .n 92]⟩,
 ⟨[(.n 67, true), (.n 55, true)], .pre 12 [.n 94, .n 95, .n 77, .n 78, .c 60000]⟩]
theorem wh_pWr : whole Tryz.prog spH 20 40 184 [(true, [some .i64, some .i64]), (true, [some .i64, some .i64]), (false, [some .i64])] = some (.tup [.agg [.int .i64 (.n 176), .int .i64 (.n 177)], .c (.int .i64 (.n 156))], ⟨nd_pWr.reverse, vc_pWr.reverse⟩) := by kernel_rfl
theorem wf_pWr : wfN nd_pWr.reverse = true := by kernel_rfl
def epWr (xs : List Int) : List Int := evalN (cxH xs) nd_pWr.reverse
def qpWr (xs : List Int) : Bool := Nat.beq xs.length 5 && vcsB preHb (lkN (epWr xs)) vc_pWr.reverse
def rpWr (xs : List Int) : List Int := match epWr xs with
 | l => [lkN l 176, lkN l 177, lkN l 156]
set_option maxRecDepth 100000 in
theorem c_pWr (x0 x1 x2 x3 x4 : Int) (w : World) (h : qpWr [x0, x1, x2, x3, x4] = true) : Calls Tryz.prog 184 #[.agg #[.int .i64 x0, .int .i64 x1], .agg #[.int .i64 x2, .int .i64 x3], .int .i64 x4] w fun e w' => e = .returned (.tuple #[.agg #[.int .i64 (lkN (epWr [x0, x1, x2, x3, x4]) 176), .int .i64 (lkN (epWr [x0, x1, x2, x3, x4]) 177)], .int .i64 (lkN (epWr [x0, x1, x2, x3, x4]) 156)]) ∧ Below w.heap.size w w' := by
 unfold qpWr at h
 rw [Bool.and_eq_true] at h
 exact calls_ev (X := cxH [x0, x1, x2, x3, x4]) hmix (spH_ok _) wh_pWr wf_pWr (fun x hx => valV_of (by rfl) hx) (pre := preHb) (preHb_ok _) h.2 w
def nd_pHr : List Nd := [
 .arg 0,
 .arg 1,
 .arg 2,
 .arg 3,
 .arg 4,
 .arg 5,
 .arg 6,
 .arg 7,
 .arg 8,
 .arg 9,
 .arg 10,
 .arg 11,
 .bin .sub .i64 (.c 60000) (.n 10),
 .bin .mul .i64 (.n 0) (.n 12),
 .bin .mul .i64 (.n 4) (.n 10),
 .bin .add .i64 (.n 13) (.n 14),
 .bin .quo .i64 (.n 15) (.c 60000),
 .bin .rem .i64 (.n 15) (.c 60000),
 .bin .lss .i64 (.n 17) (.c 0),
 .bin .sub .i64 (.n 16) (.c 1),
 .ite (.n 18) (.c 0) (.c 1),
 .ite (.n 18) (.n 19) (.n 16),
 .bin .mul .i64 (.n 1) (.n 12),
 .bin .mul .i64 (.n 5) (.n 10),
 .bin .add .i64 (.n 22) (.n 23),
 .bin .sub .i64 (.c 0) (.n 24),
 .bin .quo .i64 (.n 25) (.c 60000),
 .bin .rem .i64 (.n 25) (.c 60000),
 .bin .lss .i64 (.n 27) (.c 0),
 .bin .sub .i64 (.n 26) (.c 1),
 .ite (.n 28) (.c 0) (.c 1),
 .ite (.n 28) (.n 29) (.n 26),
 .bin .sub .i64 (.c 0) (.n 31),
 .bin .sub .i64 (.c 60000) (.n 11),
 .bin .mul .i64 (.n 0) (.n 33),
 .bin .mul .i64 (.n 4) (.n 11),
 .bin .add .i64 (.n 34) (.n 35),
 .bin .quo .i64 (.n 36) (.c 60000),
 .bin .rem .i64 (.n 36) (.c 60000),
 .bin .lss .i64 (.n 38) (.c 0),
 .bin .sub .i64 (.n 37) (.c 1),
 .ite (.n 39) (.c 0) (.c 1),
 .ite (.n 39) (.n 40) (.n 37),
 .bin .mul .i64 (.n 1) (.n 33),
 .bin .mul .i64 (.n 5) (.n 11),
 .bin .add .i64 (.n 43) (.n 44),
 .bin .sub .i64 (.c 0) (.n 45),
 .bin .quo .i64 (.n 46) (.c 60000),
 .bin .rem .i64 (.n 46) (.c 60000),
 .bin .lss .i64 (.n 48) (.c 0),
 .bin .sub .i64 (.n 47) (.c 1),
 .ite (.n 49) (.c 0) (.c 1),
 .ite (.n 49) (.n 50) (.n 47),
 .bin .sub .i64 (.c 0) (.n 52),
 .mn (.n 21) (.n 42),
 .bin .sub .i64 (.n 54) (.n 8),
 .mx (.n 32) (.n 53),
 .bin .add .i64 (.n 56) (.n 8),
 .bin .sub .i64 (.n 3) (.n 2),
 .bin .geq .i64 (.n 58) (.c 21600000),
 .ite (.n 59) (.c 0) (.c 1),
 .bin .sub .i64 (.n 7) (.n 6),
 .bin .geq .i64 (.n 61) (.c 21600000),
 .ite (.n 62) (.c 0) (.c 1),
 .ite (.n 60) (.n 63) (.c 0),
 .bin .sub .i64 (.n 6) (.n 2),
 .bin .rem .i64 (.n 65) (.c 21600000),
 .bin .lss .i64 (.n 66) (.c 0),
 .bin .add .i64 (.n 66) (.c 21600000),
 .ite (.n 67) (.c 0) (.c 1),
 .ite (.n 67) (.n 68) (.n 66),
 .bin .geq .i64 (.n 70) (.c 10800000),
 .bin .sub .i64 (.n 70) (.c 21600000),
 .ite (.n 71) (.c 0) (.c 1),
 .ite (.n 71) (.n 72) (.n 70),
 .bin .add .i64 (.n 2) (.n 74),
 .bin .add .i64 (.n 75) (.n 7),
 .bin .sub .i64 (.n 76) (.n 6),
 .bin .mul .i64 (.n 2) (.n 12),
 .bin .mul .i64 (.n 75) (.n 10),
 .bin .add .i64 (.n 78) (.n 79),
 .bin .quo .i64 (.n 80) (.c 60000),
 .bin .rem .i64 (.n 80) (.c 60000),
 .bin .lss .i64 (.n 82) (.c 0),
 .bin .sub .i64 (.n 81) (.c 1),
 .ite (.n 83) (.c 0) (.c 1),
 .ite (.n 83) (.n 84) (.n 81),
 .bin .mul .i64 (.n 3) (.n 12),
 .bin .mul .i64 (.n 77) (.n 10),
 .bin .add .i64 (.n 87) (.n 88),
 .bin .sub .i64 (.c 0) (.n 89),
 .bin .quo .i64 (.n 90) (.c 60000),
 .bin .rem .i64 (.n 90) (.c 60000),
 .bin .lss .i64 (.n 92) (.c 0),
 .bin .sub .i64 (.n 91) (.c 1),
 .ite (.n 93) (.c 0) (.c 1),
 .ite (.n 93) (.n 94) (.n 91),
 .bin .sub .i64 (.c 0) (.n 96),
 .bin .mul .i64 (.n 2) (.n 33),
 .bin .mul .i64 (.n 75) (.n 11),
 .bin .add .i64 (.n 98) (.n 99),
 .bin .quo .i64 (.n 100) (.c 60000),
 .bin .rem .i64 (.n 100) (.c 60000),
 .bin .lss .i64 (.n 102) (.c 0),
 .bin .sub .i64 (.n 101) (.c 1),
 .ite (.n 103) (.c 0) (.c 1),
 .ite (.n 103) (.n 104) (.n 101),
 .bin .mul .i64 (.n 3) (.n 33),
 .bin .mul .i64 (.n 77) (.n 11),
 .bin .add .i64 (.n 107) (.n 108),
 .bin .sub .i64 (.c 0) (.n 109),
 .bin .quo .i64 (.n 110) (.c 60000),
 .bin .rem .i64 (.n 110) (.c 60000),
 .bin .lss .i64 (.n 112) (.c 0),
 .bin .sub .i64 (.n 111) (.c 1),
 .ite (.n 113) (.c 0) (.c 1),
 .ite (.n 113) (.n 114) (.n 111),
 .bin .sub .i64 (.c 0) (.n 116),
 .mn (.n 86) (.n 106),
 .bin .sub .i64 (.n 118) (.n 9),
 .mx (.n 97) (.n 117),
 .bin .add .i64 (.n 120) (.n 9),
 .bin .sub .i64 (.n 121) (.n 119),
 .bin .geq .i64 (.n 122) (.c 21600000),
 .ite (.n 123) (.c 0) (.c 1),
 .bin .rem .i64 (.n 119) (.c 21600000),
 .bin .lss .i64 (.n 125) (.c 0),
 .bin .add .i64 (.n 125) (.c 21600000),
 .ite (.n 126) (.c 0) (.c 1),
 .ite (.n 126) (.n 127) (.n 125),
 .bin .add .i64 (.n 129) (.n 121),
 .bin .sub .i64 (.n 130) (.n 119),
 .ite (.n 123) (.c 0) (.n 129),
 .ite (.n 123) (.c 21600000) (.n 131),
 .ite (.n 64) (.c 0) (.c 1),
 .ite (.n 64) (.n 132) (.c 0),
 .ite (.n 64) (.n 133) (.c 21600000)]
def vc_pHr : List Vc := [
 ]
theorem wh_pHr : whole Tryz.prog spH 20 40 185 [(true, [some .i64, some .i64, some .i64, some .i64]), (true, [some .i64, some .i64, some .i64, some .i64]), (true, [some .i64, some .i64]), (true, [some .i64, some .i64])] = some (.p (.agg [.int .i64 (.n 55), .int .i64 (.n 57), .int .i64 (.n 135), .int .i64 (.n 136)]), ⟨nd_pHr.reverse, vc_pHr.reverse⟩) := by kernel_rfl
theorem wf_pHr : wfN nd_pHr.reverse = true := by kernel_rfl
def epHr (xs : List Int) : List Int := evalN (cxH xs) nd_pHr.reverse
def qpHr (xs : List Int) : Bool := Nat.beq xs.length 12 && vcsB preHb (lkN (epHr xs)) vc_pHr.reverse
def rpHr (xs : List Int) : List Int := match epHr xs with
 | l => [lkN l 55, lkN l 57, lkN l 135, lkN l 136]
set_option maxRecDepth 100000 in
theorem c_pHr (x0 x1 x2 x3 x4 x5 x6 x7 x8 x9 x10 x11 : Int) (w : World) (h : qpHr [x0, x1, x2, x3, x4, x5, x6, x7, x8, x9, x10, x11] = true) : Calls Tryz.prog 185 #[.agg #[.int .i64 x0, .int .i64 x1, .int .i64 x2, .int .i64 x3], .agg #[.int .i64 x4, .int .i64 x5, .int .i64 x6, .int .i64 x7], .agg #[.int .i64 x8, .int .i64 x9], .agg #[.int .i64 x10, .int .i64 x11]] w fun e w' => e = .returned (.agg #[.int .i64 (lkN (epHr [x0, x1, x2, x3, x4, x5, x6, x7, x8, x9, x10, x11]) 55), .int .i64 (lkN (epHr [x0, x1, x2, x3, x4, x5, x6, x7, x8, x9, x10, x11]) 57), .int .i64 (lkN (epHr [x0, x1, x2, x3, x4, x5, x6, x7, x8, x9, x10, x11]) 135), .int .i64 (lkN (epHr [x0, x1, x2, x3, x4, x5, x6, x7, x8, x9, x10, x11]) 136)]) ∧ Below w.heap.size w w' := by
 unfold qpHr at h
 rw [Bool.and_eq_true] at h
 exact calls_ev (X := cxH [x0, x1, x2, x3, x4, x5, x6, x7, x8, x9, x10, x11]) hmix (spH_ok _) wh_pHr wf_pHr (fun x hx => valV_of (by rfl) hx) (pre := preHb) (preHb_ok _) h.2 w
def nd_pDc : List Nd := [
 .arg 0,
 .arg 1,
 .arg 2,
 .arg 3,
 .arg 4,
 .arg 5,
 .arg 6,
 .arg 7,
 .arg 8,
 .arg 9,
 .bin .sub .i64 (.c 0) (.n 0),
 .bin .sub .i64 (.c 0) (.n 4),
 .mx (.n 1) (.n 10),
 .mx (.n 12) (.n 5),
 .mx (.n 13) (.n 11),
 .bin .add .i64 (.n 14) (.c 60000),
 .bin .gtr .i64 (.n 15) (.c 5100000),
 .ite (.n 16) (.c 0) (.c 1),
 .app 5 0 [.n 15, .n 15],
 .app 5 1 [.n 15, .n 15],
 .app 5 2 [.n 15, .n 15],
 .app 6 0 [.n 15, .n 15],
 .app 6 1 [.n 15, .n 15],
 .app 6 2 [.n 15, .n 15],
 .app 12 0 [.n 18, .n 19, .n 21, .n 22, .c 131],
 .app 12 1 [.n 18, .n 19, .n 21, .n 22, .c 131],
 .app 12 2 [.n 18, .n 19, .n 21, .n 22, .c 131],
 .bin .neq .i64 (.n 26) (.c 0),
 .ite (.n 27) (.c 0) (.c 1),
 .bin .sub .i64 (.c 60000) (.n 8),
 .bin .mul .i64 (.n 0) (.n 29),
 .bin .mul .i64 (.n 4) (.n 8),
 .bin .add .i64 (.n 30) (.n 31),
 .bin .quo .i64 (.n 32) (.c 60000),
 .bin .rem .i64 (.n 32) (.c 60000),
 .bin .lss .i64 (.n 34) (.c 0),
 .bin .sub .i64 (.n 33) (.c 1),
 .ite (.n 35) (.c 0) (.c 1),
 .ite (.n 35) (.n 36) (.n 33),
 .bin .mul .i64 (.n 1) (.n 29),
 .bin .mul .i64 (.n 5) (.n 8),
 .bin .add .i64 (.n 39) (.n 40),
 .bin .sub .i64 (.c 0) (.n 41),
 .bin .quo .i64 (.n 42) (.c 60000),
 .bin .rem .i64 (.n 42) (.c 60000),
 .bin .lss .i64 (.n 44) (.c 0),
 .bin .sub .i64 (.n 43) (.c 1),
 .ite (.n 45) (.c 0) (.c 1),
 .ite (.n 45) (.n 46) (.n 43),
 .bin .sub .i64 (.c 0) (.n 48),
 .bin .sub .i64 (.c 60000) (.n 9),
 .bin .mul .i64 (.n 0) (.n 50),
 .bin .mul .i64 (.n 4) (.n 9),
 .bin .add .i64 (.n 51) (.n 52),
 .bin .quo .i64 (.n 53) (.c 60000),
 .bin .rem .i64 (.n 53) (.c 60000),
 .bin .lss .i64 (.n 55) (.c 0),
 .bin .sub .i64 (.n 54) (.c 1),
 .ite (.n 56) (.c 0) (.c 1),
 .ite (.n 56) (.n 57) (.n 54),
 .bin .mul .i64 (.n 1) (.n 50),
 .bin .mul .i64 (.n 5) (.n 9),
 .bin .add .i64 (.n 60) (.n 61),
 .bin .sub .i64 (.c 0) (.n 62),
 .bin .quo .i64 (.n 63) (.c 60000),
 .bin .rem .i64 (.n 63) (.c 60000),
 .bin .lss .i64 (.n 65) (.c 0),
 .bin .sub .i64 (.n 64) (.c 1),
 .ite (.n 66) (.c 0) (.c 1),
 .ite (.n 66) (.n 67) (.n 64),
 .bin .sub .i64 (.c 0) (.n 69),
 .mn (.n 38) (.n 59),
 .bin .sub .i64 (.n 71) (.n 25),
 .mx (.n 49) (.n 70),
 .bin .add .i64 (.n 73) (.n 25),
 .bin .sub .i64 (.n 3) (.n 2),
 .bin .geq .i64 (.n 75) (.c 21600000),
 .bin .sub .i64 (.n 7) (.n 6),
 .bin .geq .i64 (.n 77) (.c 21600000),
 .ite (.n 76) (.c 1) (.n 78),
 .ite (.n 79) (.c 0) (.c 1),
 .bin .sub .i64 (.n 6) (.n 2),
 .bin .rem .i64 (.n 81) (.c 21600000),
 .bin .lss .i64 (.n 82) (.c 0),
 .bin .add .i64 (.n 82) (.c 21600000),
 .ite (.n 83) (.c 0) (.c 1),
 .ite (.n 83) (.n 84) (.n 82),
 .bin .add .i64 (.n 86) (.n 7),
 .bin .sub .i64 (.n 87) (.n 6),
 .mx (.n 75) (.n 88),
 .bin .sub .i64 (.n 2) (.n 6),
 .bin .rem .i64 (.n 90) (.c 21600000),
 .bin .lss .i64 (.n 91) (.c 0),
 .bin .add .i64 (.n 91) (.c 21600000),
 .ite (.n 92) (.c 0) (.c 1),
 .ite (.n 92) (.n 93) (.n 91),
 .bin .add .i64 (.n 95) (.n 3),
 .bin .sub .i64 (.n 96) (.n 2),
 .mx (.n 77) (.n 97),
 .bin .lss .i64 (.n 98) (.n 89),
 .ite (.n 99) (.c 0) (.c 1),
 .ite (.n 99) (.n 6) (.n 2),
 .ite (.n 99) (.n 98) (.n 89),
 .bin .lss .i64 (.n 102) (.c 10800000),
 .bin .add .i64 (.n 101) (.n 102),
 .bin .sub .i64 (.n 104) (.n 101),
 .bin .geq .i64 (.n 105) (.c 21600000),
 .ite (.n 106) (.c 0) (.c 1),
 .bin .rem .i64 (.n 101) (.c 21600000),
 .bin .lss .i64 (.n 108) (.c 0),
 .bin .add .i64 (.n 108) (.c 21600000),
 .ite (.n 109) (.c 0) (.c 1),
 .ite (.n 109) (.n 110) (.n 108),
 .bin .add .i64 (.n 112) (.n 104),
 .bin .sub .i64 (.n 113) (.n 101),
 .ite (.n 106) (.c 0) (.n 112),
 .ite (.n 106) (.c 21600000) (.n 114),
 .ite (.n 103) (.c 0) (.c 1),
 .ite (.n 103) (.n 115) (.c 0),
 .ite (.n 103) (.n 116) (.c 21600000),
 .ite (.n 79) (.c 0) (.n 118),
 .ite (.n 79) (.c 21600000) (.n 119),
 .ite (.n 27) (.n 26) (.c 0),
 .ite (.n 27) (.c 0) (.n 72),
 .ite (.n 27) (.c 0) (.n 74),
 .ite (.n 27) (.c 0) (.n 120),
 .ite (.n 27) (.c 0) (.n 121),
 .ite (.n 16) (.c 24) (.n 122),
 .ite (.n 16) (.c 0) (.n 123),
 .ite (.n 16) (.c 0) (.n 124),
 .ite (.n 16) (.c 0) (.n 125),
 .ite (.n 16) (.c 0) (.n 126)]
def vc_pDc : List Vc := [
 ⟨[(.n 17, true)], .pre 5 [.n 15, .n 15]⟩,
 ⟨[(.n 17, true)], .pre 6 [.n 15, .n 15]⟩,
 ⟨[(.n 17, true)], .pre 12 [.n 18, .n 19, .n 21, .n 22, .c 131]⟩]
theorem wh_pDc : whole Tryz.prog spH 20 40 186 [(true, [some .i64, some .i64, some .i64, some .i64]), (true, [some .i64, some .i64, some .i64, some .i64]), (true, [some .i64, some .i64])] = some (.tup [.agg [.int .i64 (.n 128), .int .i64 (.n 129), .int .i64 (.n 130), .int .i64 (.n 131)], .c (.int .i64 (.n 127))], ⟨nd_pDc.reverse, vc_pDc.reverse⟩) := by kernel_rfl
theorem wf_pDc : wfN nd_pDc.reverse = true := by kernel_rfl
def epDc (xs : List Int) : List Int := evalN (cxH xs) nd_pDc.reverse
def qpDc (xs : List Int) : Bool := Nat.beq xs.length 10 && vcsB preHb (lkN (epDc xs)) vc_pDc.reverse
def rpDc (xs : List Int) : List Int := match epDc xs with
 | l => [lkN l 128, lkN l 129, lkN l 130, lkN l 131, lkN l 127]
set_option maxRecDepth 100000 in
theorem c_pDc (x0 x1 x2 x3 x4 x5 x6 x7 x8 x9 : Int) (w : World) (h : qpDc [x0, x1, x2, x3, x4, x5, x6, x7, x8, x9] = true) : Calls Tryz.prog 186 #[.agg #[.int .i64 x0, .int .i64 x1, .int .i64 x2, .int .i64 x3], .agg #[.int .i64 x4, .int .i64 x5, .int .i64 x6, .int .i64 x7], .agg #[.int .i64 x8, .int .i64 x9]] w fun e w' => e = .returned (.tuple #[.agg #[.int .i64 (lkN (epDc [x0, x1, x2, x3, x4, x5, x6, x7, x8, x9]) 128), .int .i64 (lkN (epDc [x0, x1, x2, x3, x4, x5, x6, x7, x8, x9]) 129), .int .i64 (lkN (epDc [x0, x1, x2, x3, x4, x5, x6, x7, x8, x9]) 130), .int .i64 (lkN (epDc [x0, x1, x2, x3, x4, x5, x6, x7, x8, x9]) 131)], .int .i64 (lkN (epDc [x0, x1, x2, x3, x4, x5, x6, x7, x8, x9]) 127)]) ∧ Below w.heap.size w w' := by
 unfold qpDc at h
 rw [Bool.and_eq_true] at h
 exact calls_ev (X := cxH [x0, x1, x2, x3, x4, x5, x6, x7, x8, x9]) hmix (spH_ok _) wh_pDc wf_pDc (fun x hx => valV_of (by rfl) hx) (pre := preHb) (preHb_ok _) h.2 w
theorem spH_k : ∀ s ∈ spH, (s.id == 64 || s.id == 65 || s.id == 66) = false := by
 intro s hs
 rcases List.mem_append.1 hs with h | h
 · exact spF_k (fun f => f == 64 || f == 65 || f == 66) (fun f h => by simp; omega) s h
 · simp only [List.mem_cons, List.not_mem_nil, or_false] at h
   rcases h with rfl
   rfl
def kK (f : Nat) : Bool := f == 64 || f == 65 || f == 66
def semK : Nat → List Int → List Int
 | 64, xs => rpWr xs
 | 65, xs => rpHr xs
 | 66, xs => rpDc xs
 | _, _ => []
def preK : Nat → List Int → Prop
 | 64, xs => qpWr xs = true
 | 65, xs => qpHr xs = true
 | 66, xs => qpDc xs = true
 | _, _ => False
def cxK (args : List Int) : Cx := (cxH args).plus kK semK preK
def preKb : Nat → List Int → Bool
 | 64, xs => qpWr xs
 | 65, xs => qpHr xs
 | 66, xs => qpDc xs
 | f, xs => !kK f && preHb f xs
theorem preKb_ok (args : List Int) (f : Nat) (xs : List Int) (h : preKb f xs = true) : (cxK args).pre f xs := by
 show if kK f = true then preK f xs else (cxH args).pre f xs
 unfold preKb at h
 split at h
 · exact h
 · exact h
 · exact h
 · simp only [Bool.and_eq_true, Bool.not_eq_true'] at h
   rw [if_neg (by rw [h.1]; decide)]
   exact preHb_ok args _ _ h.2
def spWr : Sx.Spec := ⟨184, 64, [(true, [some .i64, some .i64]), (true, [some .i64, some .i64]), (false, [some .i64])], [(true, [some .i64, some .i64]), (false, [some .i64])]⟩
def spHr : Sx.Spec := ⟨185, 65, [(true, [some .i64, some .i64, some .i64, some .i64]), (true, [some .i64, some .i64, some .i64, some .i64]), (true, [some .i64, some .i64]), (true, [some .i64, some .i64])], [(true, [some .i64, some .i64, some .i64, some .i64])]⟩
def spDc : Sx.Spec := ⟨186, 66, [(true, [some .i64, some .i64, some .i64, some .i64]), (true, [some .i64, some .i64, some .i64, some .i64]), (true, [some .i64, some .i64])], [(true, [some .i64, some .i64, some .i64, some .i64]), (false, [some .i64])]⟩
def spK : List Sx.Spec := spH ++ [spWr, spHr, spDc]
set_option maxRecDepth 100000 in
set_option maxHeartbeats 4000000 in
theorem spK_ok (args : List Int) : ∀ s ∈ spK, SpecOK Tryz.prog (cxK args) s := by
 intro s hs
 rcases List.mem_append.1 hs with h | h
 · exact plus_old (spH_k s h) (spH_ok args s h)
 · simp only [List.mem_cons, List.not_mem_nil, or_false] at h
   rcases h with rfl | rfl | rfl
   · refine plus_new rfl (ours _ _ _ Tryz.func184 rfl (by kernel_rfl)) fun xs hp w => ?_
     have hq : qpWr xs = true := hp
     have hl : xs.length = 5 := by
      unfold qpWr at hq
      rw [Bool.and_eq_true] at hq
      exact Nat.eq_of_beq_eq_true hq.1
     obtain ⟨x0, x1, x2, x3, x4, rfl⟩ := len5 hl
     exact c_pWr x0 x1 x2 x3 x4 w hq
   · refine plus_new rfl (ours _ _ _ Tryz.func185 rfl (by kernel_rfl)) fun xs hp w => ?_
     have hq : qpHr xs = true := hp
     have hl : xs.length = 12 := by
      unfold qpHr at hq
      rw [Bool.and_eq_true] at hq
      exact Nat.eq_of_beq_eq_true hq.1
     obtain ⟨x0, x1, x2, x3, x4, x5, x6, x7, x8, x9, x10, x11, rfl⟩ := len12 hl
     exact c_pHr x0 x1 x2 x3 x4 x5 x6 x7 x8 x9 x10 x11 w hq
   · refine plus_new rfl (ours _ _ _ Tryz.func186 rfl (by kernel_rfl)) fun xs hp w => ?_
     have hq : qpDc xs = true := hp
     have hl : xs.length = 10 := by
      unfold qpDc at hq
      rw [Bool.and_eq_true] at hq
      exact Nat.eq_of_beq_eq_true hq.1
     obtain ⟨x0, x1, x2, x3, x4, x5, x6, x7, x8, x9, rfl⟩ := len10 hl
     exact c_pDc x0 x1 x2 x3 x4 x5 x6 x7 x8 x9 w hq
def nd_aw32 : List Nd := [
 .app 52 0 [.c 0, .c 0, .c 0, .c 0, .c 3600000, .c 3600000],
 .ite (.n 0) (.c 0) (.c 1),
 .ite (.n 1) (.c 0) (.c 1),
 .app 53 0 [.c 0, .c 0, .c 0, .c 0, .c 3600000, .c 3600000],
 .app 53 1 [.c 0, .c 0, .c 0, .c 0, .c 3600000, .c 3600000],
 .app 53 2 [.c 0, .c 0, .c 0, .c 0, .c 3600000, .c 3600000],
 .app 53 3 [.c 0, .c 0, .c 0, .c 0, .c 3600000, .c 3600000],
 .app 53 4 [.c 0, .c 0, .c 0, .c 0, .c 3600000, .c 3600000],
 .bin .neq .i64 (.n 7) (.c 0),
 .ite (.n 8) (.c 0) (.c 1),
 .app 53 0 [.c 0, .c 0, .c 0, .c 0, .c 3660000, .c 3660000],
 .app 53 1 [.c 0, .c 0, .c 0, .c 0, .c 3660000, .c 3660000],
 .app 53 2 [.c 0, .c 0, .c 0, .c 0, .c 3660000, .c 3660000],
 .app 53 3 [.c 0, .c 0, .c 0, .c 0, .c 3660000, .c 3660000],
 .app 53 4 [.c 0, .c 0, .c 0, .c 0, .c 3660000, .c 3660000],
 .bin .neq .i64 (.n 14) (.c 0),
 .ite (.n 15) (.c 0) (.c 1),
 .ite (.n 9) (.n 15) (.c 0),
 .ite (.n 9) (.n 16) (.c 0),
 .ite (.n 8) (.c 1) (.n 17),
 .ite (.n 8) (.n 7) (.n 14),
 .ite (.n 8) (.n 3) (.n 10),
 .ite (.n 8) (.n 4) (.n 11),
 .ite (.n 8) (.n 5) (.n 12),
 .ite (.n 8) (.n 6) (.n 13),
 .ite (.n 8) (.c 60) (.c 61),
 .ite (.n 8) (.c 3600000) (.c 3660000),
 .ite (.n 8) (.n 8) (.n 15),
 .ite (.n 8) (.c 0) (.n 3),
 .ite (.n 8) (.c 0) (.n 4),
 .ite (.n 8) (.c 0) (.n 5),
 .ite (.n 8) (.c 0) (.n 6),
 .app 64 0 [.c 0, .c 0, .c 0, .c 0, .c 60],
 .app 64 1 [.c 0, .c 0, .c 0, .c 0, .c 60],
 .app 64 2 [.c 0, .c 0, .c 0, .c 0, .c 60],
 .bin .neq .i64 (.n 34) (.c 0),
 .ite (.n 35) (.c 0) (.c 1),
 .app 65 0 [.n 3, .n 4, .n 5, .n 6, .n 10, .n 11, .n 12, .n 13, .n 32, .n 33, .c 0, .c 0],
 .app 65 1 [.n 3, .n 4, .n 5, .n 6, .n 10, .n 11, .n 12, .n 13, .n 32, .n 33, .c 0, .c 0],
 .app 65 2 [.n 3, .n 4, .n 5, .n 6, .n 10, .n 11, .n 12, .n 13, .n 32, .n 33, .c 0, .c 0],
 .app 65 3 [.n 3, .n 4, .n 5, .n 6, .n 10, .n 11, .n 12, .n 13, .n 32, .n 33, .c 0, .c 0],
 .ite (.n 18) (.n 36) (.c 0),
 .ite (.n 18) (.n 35) (.c 0),
 .ite (.n 19) (.c 1) (.n 42),
 .ite (.n 19) (.n 20) (.n 34),
 .ite (.n 19) (.n 9) (.c 1),
 .ite (.n 19) (.n 20) (.n 14),
 .ite (.n 19) (.n 9) (.c 2),
 .ite (.n 19) (.n 21) (.n 10),
 .ite (.n 19) (.n 22) (.n 11),
 .ite (.n 19) (.n 23) (.n 12),
 .ite (.n 19) (.n 24) (.n 13),
 .ite (.n 19) (.n 25) (.c 61),
 .ite (.n 19) (.n 26) (.c 3660000),
 .ite (.n 19) (.n 27) (.n 15),
 .ite (.n 19) (.n 28) (.n 3),
 .ite (.n 19) (.n 29) (.n 4),
 .ite (.n 19) (.n 30) (.n 5),
 .ite (.n 19) (.n 31) (.n 6),
 .ite (.n 19) (.c 0) (.n 10),
 .ite (.n 19) (.c 0) (.n 11),
 .ite (.n 19) (.c 0) (.n 12),
 .ite (.n 19) (.c 0) (.n 13),
 .app 53 0 [.c 0, .c 0, .c 60000, .c 60000, .c 3600000, .c 3600000],
 .app 53 1 [.c 0, .c 0, .c 60000, .c 60000, .c 3600000, .c 3600000],
 .app 53 2 [.c 0, .c 0, .c 60000, .c 60000, .c 3600000, .c 3600000],
 .app 53 3 [.c 0, .c 0, .c 60000, .c 60000, .c 3600000, .c 3600000],
 .app 53 4 [.c 0, .c 0, .c 60000, .c 60000, .c 3600000, .c 3600000],
 .bin .neq .i64 (.n 67) (.c 0),
 .ite (.n 68) (.c 0) (.c 1),
 .app 53 0 [.c 0, .c 0, .c 60000, .c 60000, .c 3660000, .c 3660000],
 .app 53 1 [.c 0, .c 0, .c 60000, .c 60000, .c 3660000, .c 3660000],
 .app 53 2 [.c 0, .c 0, .c 60000, .c 60000, .c 3660000, .c 3660000],
 .app 53 3 [.c 0, .c 0, .c 60000, .c 60000, .c 3660000, .c 3660000],
 .app 53 4 [.c 0, .c 0, .c 60000, .c 60000, .c 3660000, .c 3660000],
 .bin .neq .i64 (.n 74) (.c 0),
 .ite (.n 75) (.c 0) (.c 1),
 .ite (.n 69) (.n 75) (.c 0),
 .ite (.n 69) (.n 76) (.c 0),
 .ite (.n 68) (.c 1) (.n 77),
 .ite (.n 68) (.n 67) (.n 74),
 .ite (.n 68) (.n 63) (.n 70),
 .ite (.n 68) (.n 64) (.n 71),
 .ite (.n 68) (.n 65) (.n 72),
 .ite (.n 68) (.n 66) (.n 73),
 .ite (.n 68) (.c 60) (.c 61),
 .ite (.n 68) (.c 3600000) (.c 3660000),
 .ite (.n 68) (.n 68) (.n 75),
 .ite (.n 68) (.n 10) (.n 63),
 .ite (.n 68) (.n 11) (.n 64),
 .ite (.n 68) (.n 12) (.n 65),
 .ite (.n 68) (.n 13) (.n 66),
 .ite (.n 68) (.c 2) (.c 1),
 .ite (.n 68) (.c 0) (.n 63),
 .ite (.n 68) (.c 0) (.n 64),
 .ite (.n 68) (.c 0) (.n 65),
 .ite (.n 68) (.c 0) (.n 66),
 .app 64 0 [.c 0, .c 0, .c 60000, .c 60000, .c 60],
 .app 64 1 [.c 0, .c 0, .c 60000, .c 60000, .c 60],
 .app 64 2 [.c 0, .c 0, .c 60000, .c 60000, .c 60],
 .bin .neq .i64 (.n 99) (.c 0),
 .ite (.n 100) (.c 0) (.c 1),
 .app 65 0 [.n 63, .n 64, .n 65, .n 66, .n 70, .n 71, .n 72, .n 73, .n 97, .n 98, .c 0, .c 0],
 .app 65 1 [.n 63, .n 64, .n 65, .n 66, .n 70, .n 71, .n 72, .n 73, .n 97, .n 98, .c 0, .c 0],
 .app 65 2 [.n 63, .n 64, .n 65, .n 66, .n 70, .n 71, .n 72, .n 73, .n 97, .n 98, .c 0, .c 0],
 .app 65 3 [.n 63, .n 64, .n 65, .n 66, .n 70, .n 71, .n 72, .n 73, .n 97, .n 98, .c 0, .c 0],
 .ite (.n 78) (.n 101) (.c 0),
 .ite (.n 78) (.n 100) (.c 0),
 .ite (.n 79) (.c 1) (.n 107),
 .ite (.n 79) (.n 80) (.n 99),
 .ite (.n 79) (.n 69) (.c 1),
 .ite (.n 79) (.n 80) (.n 74),
 .ite (.n 79) (.n 34) (.n 99),
 .ite (.n 79) (.n 69) (.c 2),
 .ite (.n 79) (.n 81) (.n 70),
 .ite (.n 79) (.n 82) (.n 71),
 .ite (.n 79) (.n 83) (.n 72),
 .ite (.n 79) (.n 84) (.n 73),
 .ite (.n 79) (.n 85) (.c 61),
 .ite (.n 79) (.n 86) (.c 3660000),
 .ite (.n 79) (.n 87) (.n 75),
 .ite (.n 79) (.n 68) (.c 1),
 .ite (.n 79) (.n 88) (.n 70),
 .ite (.n 79) (.n 89) (.n 71),
 .ite (.n 79) (.n 90) (.n 72),
 .ite (.n 79) (.n 91) (.n 73),
 .ite (.n 79) (.n 92) (.c 2),
 .ite (.n 79) (.n 32) (.n 97),
 .ite (.n 79) (.n 33) (.n 98),
 .ite (.n 79) (.c 0) (.c 60000),
 .ite (.n 79) (.n 35) (.n 100),
 .ite (.n 79) (.n 93) (.n 63),
 .ite (.n 79) (.n 94) (.n 64),
 .ite (.n 79) (.n 95) (.n 65),
 .ite (.n 79) (.n 96) (.n 66),
 .ite (.n 79) (.c 0) (.n 70),
 .ite (.n 79) (.c 0) (.n 71),
 .ite (.n 79) (.c 0) (.n 72),
 .ite (.n 79) (.c 0) (.n 73),
 .ite (.n 41) (.n 108) (.c 0),
 .ite (.n 41) (.n 106) (.c 0),
 .ite (.n 43) (.c 1) (.n 139),
 .ite (.n 43) (.n 44) (.n 109),
 .ite (.n 43) (.c 0) (.c 1),
 .ite (.n 43) (.n 45) (.n 110),
 .ite (.n 43) (.n 46) (.n 111),
 .ite (.n 43) (.c 0) (.c 60000),
 .ite (.n 43) (.n 47) (.n 113),
 .ite (.n 43) (.n 19) (.n 79),
 .ite (.n 43) (.n 48) (.n 114),
 .ite (.n 43) (.n 49) (.n 115),
 .ite (.n 43) (.n 50) (.n 116),
 .ite (.n 43) (.n 51) (.n 117),
 .ite (.n 43) (.n 52) (.n 118),
 .ite (.n 43) (.n 53) (.n 119),
 .ite (.n 43) (.n 54) (.n 120),
 .ite (.n 43) (.n 55) (.n 3),
 .ite (.n 43) (.n 56) (.n 4),
 .ite (.n 43) (.n 57) (.n 5),
 .ite (.n 43) (.n 58) (.n 6),
 .ite (.n 43) (.n 59) (.n 10),
 .ite (.n 43) (.n 60) (.n 11),
 .ite (.n 43) (.n 61) (.n 12),
 .ite (.n 43) (.n 62) (.n 13),
 .ite (.n 43) (.c 0) (.n 37),
 .ite (.n 43) (.c 0) (.n 38),
 .ite (.n 43) (.c 0) (.n 39),
 .ite (.n 43) (.c 0) (.n 40),
 .app 66 0 [.n 37, .n 38, .n 39, .n 40, .n 102, .n 103, .n 104, .n 105, .c 0, .c 0],
 .app 66 1 [.n 37, .n 38, .n 39, .n 40, .n 102, .n 103, .n 104, .n 105, .c 0, .c 0],
 .app 66 2 [.n 37, .n 38, .n 39, .n 40, .n 102, .n 103, .n 104, .n 105, .c 0, .c 0],
 .app 66 3 [.n 37, .n 38, .n 39, .n 40, .n 102, .n 103, .n 104, .n 105, .c 0, .c 0],
 .app 66 4 [.n 37, .n 38, .n 39, .n 40, .n 102, .n 103, .n 104, .n 105, .c 0, .c 0],
 .bin .neq .i64 (.n 172) (.c 0),
 .ite (.n 173) (.c 0) (.c 1),
 .ite (.n 173) (.n 172) (.c 0),
 .ite (.n 173) (.c 0) (.n 168),
 .ite (.n 173) (.c 0) (.n 169),
 .ite (.n 173) (.c 0) (.n 170),
 .ite (.n 173) (.c 0) (.n 171),
 .ite (.n 141) (.c 1) (.n 140),
 .ite (.n 141) (.n 142) (.n 175),
 .ite (.n 141) (.n 143) (.c 1),
 .ite (.n 141) (.n 144) (.c 1),
 .ite (.n 141) (.n 145) (.n 74),
 .ite (.n 141) (.n 143) (.c 2),
 .ite (.n 141) (.n 146) (.c 60000),
 .ite (.n 141) (.n 147) (.c 2),
 .ite (.n 141) (.n 148) (.c 0),
 .ite (.n 141) (.n 149) (.n 70),
 .ite (.n 141) (.n 150) (.n 71),
 .ite (.n 141) (.n 151) (.n 72),
 .ite (.n 141) (.n 152) (.n 73),
 .ite (.n 141) (.n 153) (.c 61),
 .ite (.n 141) (.n 154) (.c 3660000),
 .ite (.n 141) (.n 155) (.n 75),
 .ite (.n 141) (.n 156) (.n 3),
 .ite (.n 141) (.n 157) (.n 4),
 .ite (.n 141) (.n 158) (.n 5),
 .ite (.n 141) (.n 159) (.n 6),
 .ite (.n 141) (.n 160) (.n 10),
 .ite (.n 141) (.n 161) (.n 11),
 .ite (.n 141) (.n 162) (.n 12),
 .ite (.n 141) (.n 163) (.n 13),
 .ite (.n 141) (.n 164) (.n 37),
 .ite (.n 141) (.n 165) (.n 38),
 .ite (.n 141) (.n 166) (.n 39),
 .ite (.n 141) (.n 167) (.n 40),
 .ite (.n 141) (.c 0) (.n 102),
 .ite (.n 141) (.c 0) (.n 103),
 .ite (.n 141) (.c 0) (.n 104),
 .ite (.n 141) (.c 0) (.n 105),
 .ite (.n 141) (.c 0) (.n 176),
 .ite (.n 141) (.c 0) (.n 177),
 .ite (.n 141) (.c 0) (.n 178),
 .ite (.n 141) (.c 0) (.n 179),
 .ite (.n 2) (.n 180) (.c 0),
 .ite (.n 1) (.c 1) (.n 216),
 .ite (.n 1) (.c 1) (.n 181),
 .ite (.n 1) (.c 0) (.n 212),
 .ite (.n 1) (.c 0) (.n 213),
 .ite (.n 1) (.c 0) (.n 214),
 .ite (.n 1) (.c 0) (.n 215),
 .bin .eql .i64 (.n 218) (.c 0),
 .bin .leq .i64 (.n 219) (.c 1800000),
 .ite (.n 223) (.n 224) (.c 0),
 .bin .leq .i64 (.c 1800000) (.n 220),
 .ite (.n 225) (.n 226) (.c 0),
 .bin .sub .i64 (.n 220) (.n 219),
 .bin .lss .i64 (.n 228) (.c 2000),
 .ite (.n 227) (.n 229) (.c 0),
 .bin .leq .i64 (.n 221) (.c 16200000),
 .ite (.n 230) (.n 231) (.c 0),
 .bin .leq .i64 (.c 16200000) (.n 222),
 .ite (.n 232) (.n 233) (.c 0)]
def vc_aw32 : List Vc := [
 ⟨[], .pre 52 [.c 0, .c 0, .c 0, .c 0, .c 3600000, .c 3600000]⟩,
 ⟨[(.n 2, true)], .pre 53 [.c 0, .c 0, .c 0, .c 0, .c 3600000, .c 3600000]⟩,
 ⟨[(.n 9, true), (.n 2, true)], .pre 53 [.c 0, .c 0, .c 0, .c 0, .c 3660000, .c 3660000]⟩,
 ⟨[(.n 18, true), (.n 2, true)], .pre 64 [.c 0, .c 0, .c 0, .c 0, .c 60]⟩,
 ⟨[(.n 36, true), (.n 18, true), (.n 2, true)], .pre 65 [.n 3, .n 4, .n 5, .n 6, .n 10, .n 11, .n 12, .n 13, .n 32, .n 33, .c 0, .c 0]⟩,
 ⟨[(.n 41, true), (.n 2, true)], .pre 53 [.c 0, .c 0, .c 60000, .c 60000, .c 3600000, .c 3600000]⟩,
 ⟨[(.n 69, true), (.n 41, true), (.n 2, true)], .pre 53 [.c 0, .c 0, .c 60000, .c 60000, .c 3660000, .c 3660000]⟩,
 ⟨[(.n 78, true), (.n 41, true), (.n 2, true)], .pre 64 [.c 0, .c 0, .c 60000, .c 60000, .c 60]⟩,
 ⟨[(.n 101, true), (.n 78, true), (.n 41, true), (.n 2, true)], .pre 65 [.n 63, .n 64, .n 65, .n 66, .n 70, .n 71, .n 72, .n 73, .n 97, .n 98, .c 0, .c 0]⟩,
 ⟨[(.n 140, true), (.n 2, true)], .pre 66 [.n 37, .n 38, .n 39, .n 40, .n 102, .n 103, .n 104, .n 105, .c 0, .c 0]⟩]
theorem wh_aw32 : whole Tryz.prog spK 20 40 60 [] = some (.p (.c (.bool (.n 234))), ⟨nd_aw32.reverse, vc_aw32.reverse⟩) := by kernel_rfl
theorem wf_aw32 : wfN nd_aw32.reverse = true := by kernel_rfl
set_option maxRecDepth 100000 in
theorem c_awake32 (w : World) : Calls Tryz.prog 60 #[] w fun e w' => e = .returned (.bool true) ∧ Below w.heap.size w w' := by
 refine Sx.calls (X := cxK []) hmix (spK_ok _) wh_aw32 wf_aw32 (fun v hs => ?_) w
 have h := evOK_ok (X := cxK []) (v := v) (nd := nd_aw32) hs (pre := preKb) (preKb_ok []) (vs := vc_aw32.reverse) (k := 234) (z := 1) (by kernel_rfl)
 refine ⟨h.2, fun x hx => ?_⟩
 have hx' : x = .bool (decide (v 234 ≠ 0)) := hx
 rw [hx', h.1]; rfl
def sAwake32 : Sx.Spec := ⟨60, 20, [], [(false, [none])]⟩
theorem sAwake32_ok (args : List Int) : SpecOK Tryz.prog (cxF args) sAwake32 := by
 refine plus_old rfl (specE (by decide) ⟨ours _ _ _ Tryz.func60 rfl (by kernel_rfl), fun xs hp w => ?_⟩)
 have hp' : preB 20 xs := hp
 rw [pre0 hp']
 exact c_awake32 w
end Go.Proofs.YtfffpodaabdpfaaGreat
