/- The contracts of current.parts, current.compose and of the reference's Parts and Compose. -/
import Derived.Test.YtfffpodaabdpfaaGreatSpE
import Derived.Test.YtfffpodaabdpfaaGreatAwake45
set_option linter.unusedVariables false
set_option linter.unusedSimpArgs false
namespace Alm
def mnV (a b : Int) : Int := if b < a then b else a
def mxV (a b : Int) : Int := if b > a then b else a
def lstA (a b : Int) : Int := max (max 0 a) (-b)
def mstA (a b : Int) : Int := max b (-a)
def rtU (n : Int) : Int := if rtV n * rtV n < n then rtV n + 1 else rtV n
end Alm
namespace Go.Proofs.YtfffpodaabdpfaaGreat
open Go.RowKit Alm Sx
theorem b2i_ite (q : Prop) [Decidable q] (x y : Int) : (if b2i (decide q) ≠ 0 then x else y) = if q then x else y := by
 by_cases h : q <;> simp [b2i, h]
theorem norm_eq {X : Cx} {v : Nat → Int} {ext : Ext} (he : ExtOK X ext) {l : List Nd} (hs : SatN X v l.reverse) {ps : List (Nat × Rf)} (hp : ∀ q ∈ ps, v q.1 = q.2.val v) {k j : Nat} (h : Rf.eq ((norm ext ps [] l).rep (.n k)) ((norm ext ps [] l).rep (.n j)) = true) : v k = v j := by
 have a := rep_ok (norm_ok he hs hp nz_nil) (.n k)
 have b := rep_ok (norm_ok he hs hp nz_nil) (.n j)
 rw [Rf.eq_eq h] at a
 exact a.symm.trans b
def paV (a b l h : Int) : List Int :=
 [mnV (scLo ((semB 6 [a, b]).getD 0 0) ((semB 6 [a, b]).getD 1 0) l) (scLo ((semB 6 [a, b]).getD 0 0) ((semB 6 [a, b]).getD 1 0) h),
  mxV (scHi ((semB 6 [a, b]).getD 0 0) ((semB 6 [a, b]).getD 1 0) l) (scHi ((semB 6 [a, b]).getD 0 0) ((semB 6 [a, b]).getD 1 0) h),
  mnV (scLo ((semB 5 [a, b]).getD 0 0) ((semB 5 [a, b]).getD 1 0) l) (scLo ((semB 5 [a, b]).getD 0 0) ((semB 5 [a, b]).getD 1 0) h),
  mxV (scHi ((semB 5 [a, b]).getD 0 0) ((semB 5 [a, b]).getD 1 0) l) (scHi ((semB 5 [a, b]).getD 0 0) ((semB 5 [a, b]).getD 1 0) h), 0]
def coV (a b c d : Int) : List Int :=
 [bearL (4096 * c) (4096 * d) (4096 * a) (4096 * b), bearH (4096 * c) (4096 * d) (4096 * a) (4096 * b),
  rtV (lstA a b * lstA a b + lstA c d * lstA c d), rtU (mstA a b * mstA a b + mstA c d * mstA c d), 0]
def curR (l : List Int) : Value := .tuple #[.agg #[.int .i64 (l.getD 0 0), .int .i64 (l.getD 1 0)], .agg #[.int .i64 (l.getD 2 0), .int .i64 (l.getD 3 0)], .int .i64 (l.getD 4 0)]
theorem fac0 {n : Int} (h0 : 0 ≤ n) (h1 : n ≤ 400000) : factB n = true := by unfold factB; exact decide_eq_true (by omega)
theorem sqb4 {m : Int} (h0 : 0 ≤ m) (h1 : m ≤ 400000) : 0 ≤ m * m ∧ m * m ≤ 160000000000 := by
 have := Int.mul_le_mul h1 h1 h0 (by omega)
 have := Int.mul_nonneg h0 h0
 omega
theorem lstA_bd {a b : Int} (h : -400000 ≤ a ∧ a ≤ b ∧ b ≤ 400000) : 0 ≤ lstA a b ∧ lstA a b ≤ 400000 := by unfold lstA; omega
theorem mstA_bd {a b : Int} (h : -400000 ≤ a ∧ a ≤ b ∧ b ≤ 400000) : 0 ≤ mstA a b ∧ mstA a b ≤ 400000 := by unfold mstA; omega
theorem fx4A {a b : Int} (h : -400000 ≤ a ∧ a ≤ b ∧ b ≤ 400000) : fxV (4096 * a) (4096 * b) = true := by rw [fxV_iff]; omega
theorem sqb5 {m : Int} (h0 : 0 ≤ m) (h1 : m < 2097152) : 0 ≤ m * m ∧ m * m ≤ 4398046511104 := by
 have := Int.mul_le_mul (show m ≤ 2097152 by omega) (show m ≤ 2097152 by omega) h0 (by omega)
 have := Int.mul_nonneg h0 h0
 omega
theorem rtV_small (n : Int) (h0 : 0 ≤ n) (h1 : n < 4398046511104) : 0 ≤ rtV n ∧ rtV n < 2097152 := by
 obtain ⟨p, q, _⟩ := rtV_is n h0 (by omega)
 refine ⟨p, ?_⟩
 by_cases g : rtV n < 2097152
 · exact g
 · have := Int.mul_le_mul (show 2097152 ≤ rtV n by omega) (show 2097152 ≤ rtV n by omega) (by omega) p
   omega
def nd_pPa : List Nd := [
 .arg 0,
 .arg 1,
 .arg 2,
 .arg 3,
 .app 6 0 [.n 0, .n 1],
 .app 6 1 [.n 0, .n 1],
 .app 6 2 [.n 0, .n 1],
 .bin .neq .i64 (.n 6) (.c 0),
 .ite (.n 7) (.c 0) (.c 1),
 .app 5 0 [.n 0, .n 1],
 .app 5 1 [.n 0, .n 1],
 .app 5 2 [.n 0, .n 1],
 .bin .neq .i64 (.n 11) (.c 0),
 .ite (.n 12) (.c 0) (.c 1),
 .app 9 0 [.n 4, .n 5, .n 2],
 .app 9 1 [.n 4, .n 5, .n 2],
 .app 9 2 [.n 4, .n 5, .n 2],
 .bin .neq .i64 (.n 16) (.c 0),
 .ite (.n 17) (.c 0) (.c 1),
 .app 9 0 [.n 4, .n 5, .n 3],
 .app 9 1 [.n 4, .n 5, .n 3],
 .app 9 2 [.n 4, .n 5, .n 3],
 .mn (.n 14) (.n 19),
 .mx (.n 15) (.n 20),
 .ite (.n 17) (.n 16) (.n 21),
 .ite (.n 17) (.c 0) (.n 22),
 .ite (.n 17) (.c 0) (.n 23),
 .bin .neq .i64 (.n 24) (.c 0),
 .ite (.n 27) (.c 0) (.c 1),
 .app 9 0 [.n 9, .n 10, .n 2],
 .app 9 1 [.n 9, .n 10, .n 2],
 .app 9 2 [.n 9, .n 10, .n 2],
 .bin .neq .i64 (.n 31) (.c 0),
 .ite (.n 32) (.c 0) (.c 1),
 .app 9 0 [.n 9, .n 10, .n 3],
 .app 9 1 [.n 9, .n 10, .n 3],
 .app 9 2 [.n 9, .n 10, .n 3],
 .mn (.n 29) (.n 34),
 .mx (.n 30) (.n 35),
 .ite (.n 32) (.n 31) (.n 36),
 .ite (.n 32) (.c 0) (.n 37),
 .ite (.n 32) (.c 0) (.n 38),
 .ite (.n 27) (.n 24) (.n 39),
 .ite (.n 27) (.c 0) (.n 40),
 .ite (.n 27) (.c 0) (.n 41),
 .ite (.n 12) (.n 11) (.n 42),
 .ite (.n 12) (.c 0) (.n 43),
 .ite (.n 12) (.c 0) (.n 44),
 .ite (.n 12) (.c 0) (.n 25),
 .ite (.n 12) (.c 0) (.n 26),
 .ite (.n 7) (.n 6) (.n 45),
 .ite (.n 7) (.c 0) (.n 46),
 .ite (.n 7) (.c 0) (.n 47),
 .ite (.n 7) (.c 0) (.n 48),
 .ite (.n 7) (.c 0) (.n 49)]
def vc_pPa : List Vc := [
 ⟨[], .pre 6 [.n 0, .n 1]⟩,
 ⟨[(.n 8, true)], .pre 5 [.n 0, .n 1]⟩,
 ⟨[(.n 13, true), (.n 8, true)], .pre 9 [.n 4, .n 5, .n 2]⟩,
 ⟨[(.n 18, true), (.n 13, true), (.n 8, true)], .pre 9 [.n 4, .n 5, .n 3]⟩,
 ⟨[(.n 28, true), (.n 13, true), (.n 8, true)], .pre 9 [.n 9, .n 10, .n 2]⟩,
 ⟨[(.n 33, true), (.n 28, true), (.n 13, true), (.n 8, true)], .pre 9 [.n 9, .n 10, .n 3]⟩]
theorem wh_pPa : whole Tryz.prog spAll 20 40 164 [(true, [some .i64, some .i64]), (true, [some .i64, some .i64])] = some (.tup [.agg [.int .i64 (.n 53), .int .i64 (.n 54)], .agg [.int .i64 (.n 51), .int .i64 (.n 52)], .c (.int .i64 (.n 50))], ⟨nd_pPa.reverse, vc_pPa.reverse⟩) := by kernel_rfl
theorem wf_pPa : wfN nd_pPa.reverse = true := by kernel_rfl
def nd_rPa : List Nd := [
 .arg 0,
 .arg 1,
 .arg 2,
 .arg 3,
 .bin .leq .i64 (.n 0) (.n 1),
 .bin .geq .i64 (.n 0) (.c (-1099511627776)),
 .ite (.n 4) (.n 5) (.c 0),
 .bin .leq .i64 (.n 1) (.c 1099511627776),
 .ite (.n 6) (.n 7) (.c 0),
 .ite (.n 8) (.c 0) (.c 1),
 .bin .leq .i64 (.n 2) (.n 3),
 .bin .geq .i64 (.n 2) (.c 0),
 .ite (.n 10) (.n 11) (.c 0),
 .bin .leq .i64 (.n 3) (.c 400000),
 .ite (.n 12) (.n 13) (.c 0),
 .ite (.n 14) (.c 0) (.c 1),
 .ite (.n 9) (.c 1) (.n 15),
 .ite (.n 16) (.c 0) (.c 1),
 .app 6 0 [.n 0, .n 1],
 .app 6 1 [.n 0, .n 1],
 .app 9 0 [.n 18, .n 19, .n 2],
 .app 9 1 [.n 18, .n 19, .n 2],
 .app 9 2 [.n 18, .n 19, .n 2],
 .app 9 0 [.n 18, .n 19, .n 3],
 .app 9 1 [.n 18, .n 19, .n 3],
 .app 9 2 [.n 18, .n 19, .n 3],
 .bin .lss .i64 (.n 23) (.n 20),
 .ite (.n 26) (.c 0) (.c 1),
 .ite (.n 26) (.n 23) (.n 20),
 .bin .gtr .i64 (.n 24) (.n 21),
 .ite (.n 29) (.c 0) (.c 1),
 .ite (.n 29) (.n 24) (.n 21),
 .app 5 0 [.n 0, .n 1],
 .app 5 1 [.n 0, .n 1],
 .app 9 0 [.n 32, .n 33, .n 2],
 .app 9 1 [.n 32, .n 33, .n 2],
 .app 9 2 [.n 32, .n 33, .n 2],
 .app 9 0 [.n 32, .n 33, .n 3],
 .app 9 1 [.n 32, .n 33, .n 3],
 .app 9 2 [.n 32, .n 33, .n 3],
 .bin .lss .i64 (.n 37) (.n 34),
 .ite (.n 40) (.c 0) (.c 1),
 .ite (.n 40) (.n 37) (.n 34),
 .bin .gtr .i64 (.n 38) (.n 35),
 .ite (.n 43) (.c 0) (.c 1),
 .ite (.n 43) (.n 38) (.n 35),
 .ite (.n 16) (.c 0) (.n 42),
 .ite (.n 16) (.c 0) (.n 45),
 .ite (.n 16) (.c 0) (.n 28),
 .ite (.n 16) (.c 0) (.n 31)]
def vc_rPa : List Vc := [
 ⟨[(.n 17, true)], .pre 6 [.n 0, .n 1]⟩,
 ⟨[(.n 17, true)], .pre 9 [.n 18, .n 19, .n 2]⟩,
 ⟨[(.n 17, true)], .pre 9 [.n 18, .n 19, .n 3]⟩,
 ⟨[(.n 17, true)], .pre 5 [.n 0, .n 1]⟩,
 ⟨[(.n 17, true)], .pre 9 [.n 32, .n 33, .n 2]⟩,
 ⟨[(.n 17, true)], .pre 9 [.n 32, .n 33, .n 3]⟩]
theorem wh_rPa : whole Tryz.prog spAll 20 40 57 [(true, [some .i64, some .i64]), (true, [some .i64, some .i64])] = some (.tup [.agg [.int .i64 (.n 48), .int .i64 (.n 49)], .agg [.int .i64 (.n 46), .int .i64 (.n 47)], .c (.int .i64 (.n 16))], ⟨nd_rPa.reverse, vc_rPa.reverse⟩) := by kernel_rfl
theorem wf_rPa : wfN nd_rPa.reverse = true := by kernel_rfl
def nd_pCo : List Nd := [
 .arg 0,
 .arg 1,
 .arg 2,
 .arg 3,
 .bin .mul .i64 (.c 4096) (.n 0),
 .bin .mul .i64 (.c 4096) (.n 1),
 .bin .mul .i64 (.c 4096) (.n 2),
 .bin .mul .i64 (.c 4096) (.n 3),
 .app 7 0 [.n 6, .n 7, .n 4, .n 5],
 .app 7 1 [.n 6, .n 7, .n 4, .n 5],
 .app 7 2 [.n 6, .n 7, .n 4, .n 5],
 .bin .neq .i64 (.n 10) (.c 0),
 .ite (.n 11) (.c 0) (.c 1),
 .bin .sub .i64 (.c 0) (.n 1),
 .mx (.c 0) (.n 0),
 .mx (.n 14) (.n 13),
 .bin .mul .i64 (.n 15) (.n 15),
 .bin .sub .i64 (.c 0) (.n 3),
 .mx (.c 0) (.n 2),
 .mx (.n 18) (.n 17),
 .bin .mul .i64 (.n 19) (.n 19),
 .bin .add .i64 (.n 16) (.n 20),
 .app 10 0 [.n 21],
 .bin .sub .i64 (.c 0) (.n 0),
 .mx (.n 1) (.n 23),
 .bin .mul .i64 (.n 24) (.n 24),
 .bin .sub .i64 (.c 0) (.n 2),
 .mx (.n 3) (.n 26),
 .bin .mul .i64 (.n 27) (.n 27),
 .bin .add .i64 (.n 25) (.n 28),
 .app 10 0 [.n 29],
 .bin .mul .i64 (.n 30) (.n 30),
 .bin .lss .i64 (.n 31) (.n 29),
 .bin .add .i64 (.n 30) (.c 1),
 .ite (.n 32) (.c 0) (.c 1),
 .ite (.n 32) (.n 33) (.n 30),
 .ite (.n 11) (.n 10) (.c 0),
 .ite (.n 11) (.c 0) (.n 22),
 .ite (.n 11) (.c 0) (.n 35),
 .ite (.n 11) (.c 0) (.n 8),
 .ite (.n 11) (.c 0) (.n 9)]
def vc_pCo : List Vc := [
 ⟨[], .pre 7 [.n 6, .n 7, .n 4, .n 5]⟩,
 ⟨[(.n 12, true)], .pre 10 [.n 21]⟩,
 ⟨[(.n 12, true)], .pre 10 [.n 29]⟩]
theorem wh_pCo : whole Tryz.prog spAll 20 40 177 [(true, [some .i64, some .i64]), (true, [some .i64, some .i64])] = some (.tup [.agg [.int .i64 (.n 39), .int .i64 (.n 40)], .agg [.int .i64 (.n 37), .int .i64 (.n 38)], .c (.int .i64 (.n 36))], ⟨nd_pCo.reverse, vc_pCo.reverse⟩) := by kernel_rfl
theorem wf_pCo : wfN nd_pCo.reverse = true := by kernel_rfl
def nd_rCo : List Nd := [
 .arg 0,
 .arg 1,
 .arg 2,
 .arg 3,
 .bin .leq .i64 (.n 0) (.n 1),
 .bin .geq .i64 (.n 0) (.c (-400000)),
 .ite (.n 4) (.n 5) (.c 0),
 .bin .leq .i64 (.n 1) (.c 400000),
 .ite (.n 6) (.n 7) (.c 0),
 .ite (.n 8) (.c 0) (.c 1),
 .bin .leq .i64 (.n 2) (.n 3),
 .bin .geq .i64 (.n 2) (.c (-400000)),
 .ite (.n 10) (.n 11) (.c 0),
 .bin .leq .i64 (.n 3) (.c 400000),
 .ite (.n 12) (.n 13) (.c 0),
 .ite (.n 14) (.c 0) (.c 1),
 .ite (.n 9) (.c 1) (.n 15),
 .ite (.n 16) (.c 0) (.c 1),
 .bin .mul .i64 (.c 4096) (.n 2),
 .bin .mul .i64 (.c 4096) (.n 3),
 .bin .mul .i64 (.c 4096) (.n 0),
 .bin .mul .i64 (.c 4096) (.n 1),
 .app 7 0 [.n 18, .n 19, .n 20, .n 21],
 .app 7 1 [.n 18, .n 19, .n 20, .n 21],
 .app 7 2 [.n 18, .n 19, .n 20, .n 21],
 .bin .gtr .i64 (.n 0) (.c 0),
 .ite (.n 25) (.c 0) (.c 1),
 .bin .lss .i64 (.n 1) (.c 0),
 .bin .sub .i64 (.c 0) (.n 1),
 .ite (.n 27) (.c 0) (.c 1),
 .ite (.n 27) (.n 28) (.c 0),
 .ite (.n 25) (.n 0) (.n 30),
 .bin .mul .i64 (.n 31) (.n 31),
 .bin .gtr .i64 (.n 2) (.c 0),
 .ite (.n 33) (.c 0) (.c 1),
 .bin .lss .i64 (.n 3) (.c 0),
 .bin .sub .i64 (.c 0) (.n 3),
 .ite (.n 35) (.c 0) (.c 1),
 .ite (.n 35) (.n 36) (.c 0),
 .ite (.n 33) (.n 2) (.n 38),
 .bin .mul .i64 (.n 39) (.n 39),
 .bin .add .i64 (.n 32) (.n 40),
 .app 10 0 [.n 41],
 .bin .sub .i64 (.c 0) (.n 0),
 .bin .gtr .i64 (.n 43) (.n 1),
 .ite (.n 44) (.c 0) (.c 1),
 .ite (.n 44) (.n 43) (.n 1),
 .bin .mul .i64 (.n 46) (.n 46),
 .bin .sub .i64 (.c 0) (.n 2),
 .bin .gtr .i64 (.n 48) (.n 3),
 .ite (.n 49) (.c 0) (.c 1),
 .ite (.n 49) (.n 48) (.n 3),
 .bin .mul .i64 (.n 51) (.n 51),
 .bin .add .i64 (.n 47) (.n 52),
 .app 10 0 [.n 53],
 .bin .mul .i64 (.n 54) (.n 54),
 .bin .lss .i64 (.n 55) (.n 53),
 .bin .add .i64 (.n 54) (.c 1),
 .ite (.n 56) (.c 0) (.c 1),
 .ite (.n 56) (.n 57) (.n 54),
 .ite (.n 16) (.c 0) (.n 42),
 .ite (.n 16) (.c 0) (.n 59),
 .ite (.n 16) (.c 0) (.n 22),
 .ite (.n 16) (.c 0) (.n 23)]
def vc_rCo : List Vc := [
 ⟨[(.n 17, true)], .pre 7 [.n 18, .n 19, .n 20, .n 21]⟩,
 ⟨[(.n 17, true)], .pre 10 [.n 41]⟩,
 ⟨[(.n 17, true)], .pre 10 [.n 53]⟩]
theorem wh_rCo : whole Tryz.prog spAll 20 40 59 [(true, [some .i64, some .i64]), (true, [some .i64, some .i64])] = some (.tup [.agg [.int .i64 (.n 62), .int .i64 (.n 63)], .agg [.int .i64 (.n 60), .int .i64 (.n 61)], .c (.int .i64 (.n 16))], ⟨nd_rCo.reverse, vc_rCo.reverse⟩) := by kernel_rfl
theorem wf_rCo : wfN nd_rCo.reverse = true := by kernel_rfl
set_option maxRecDepth 100000 in
theorem c_pParts (a b l h : Int) (w : World) (ha : arcV a b = true) (h0 : 0 ≤ l) (h1 : l ≤ h) (h2 : h ≤ 400000) :
 Calls Tryz.prog 164 #[.agg #[.int .i64 a, .int .i64 b], .agg #[.int .i64 l, .int .i64 h]] w fun e w' => e = .returned (curR (paV a b l h)) ∧ Below w.heap.size w w' := by
 refine Sx.calls (X := cxE [a, b, l, h]) hmix (spAll_ok _) wh_pPa wf_pPa (fun v hs => ?_) w
 have e0 : v 0 = a := satF hs 0 rfl
 have e1 : v 1 = b := satF hs 1 rfl
 have e2 : v 2 = l := satF hs 2 rfl
 have e3 : v 3 = h := satF hs 3 rfl
 have e4 : v 4 = (semE 6 [v 0, v 1]).getD 0 0 := satF hs 4 rfl
 have e5 : v 5 = (semE 6 [v 0, v 1]).getD 1 0 := satF hs 5 rfl
 have e9 : v 9 = (semE 5 [v 0, v 1]).getD 0 0 := satF hs 9 rfl
 have e10 : v 10 = (semE 5 [v 0, v 1]).getD 1 0 := satF hs 10 rfl
 have e14 : v 14 = (semE 9 [v 4, v 5, v 2]).getD 0 0 := satF hs 14 rfl
 have e15 : v 15 = (semE 9 [v 4, v 5, v 2]).getD 1 0 := satF hs 15 rfl
 have e19 : v 19 = (semE 9 [v 4, v 5, v 3]).getD 0 0 := satF hs 19 rfl
 have e20 : v 20 = (semE 9 [v 4, v 5, v 3]).getD 1 0 := satF hs 20 rfl
 have e22 : v 22 = if v 19 < v 14 then v 19 else v 14 := satF hs 22 rfl
 have e23 : v 23 = if v 20 > v 15 then v 20 else v 15 := satF hs 23 rfl
 have e29 : v 29 = (semE 9 [v 9, v 10, v 2]).getD 0 0 := satF hs 29 rfl
 have e30 : v 30 = (semE 9 [v 9, v 10, v 2]).getD 1 0 := satF hs 30 rfl
 have e34 : v 34 = (semE 9 [v 9, v 10, v 3]).getD 0 0 := satF hs 34 rfl
 have e35 : v 35 = (semE 9 [v 9, v 10, v 3]).getD 1 0 := satF hs 35 rfl
 have e37 : v 37 = if v 34 < v 29 then v 34 else v 29 := satF hs 37 rfl
 have e38 : v 38 = if v 35 > v 30 then v 35 else v 30 := satF hs 38 rfl
 have z50 : v 50 = 0 := norm_val (X := cxE [a, b, l, h]) (v := v) (l := nd_pPa) (extE_ok _) hs (k := 50) (r := .c 0) (ps := []) (nz := []) ps_nil nz_nil (by kernel_rfl)
 have z53 : v 53 = v 22 := norm_eq (X := cxE [a, b, l, h]) (v := v) (l := nd_pPa) (extE_ok _) hs (k := 53) (j := 22) (ps := []) ps_nil (by kernel_rfl)
 have z54 : v 54 = v 23 := norm_eq (X := cxE [a, b, l, h]) (v := v) (l := nd_pPa) (extE_ok _) hs (k := 54) (j := 23) (ps := []) ps_nil (by kernel_rfl)
 have z51 : v 51 = v 37 := norm_eq (X := cxE [a, b, l, h]) (v := v) (l := nd_pPa) (extE_ok _) hs (k := 51) (j := 37) (ps := []) ps_nil (by kernel_rfl)
 have z52 : v 52 = v 38 := norm_eq (X := cxE [a, b, l, h]) (v := v) (l := nd_pPa) (extE_ok _) hs (k := 52) (j := 38) (ps := []) ps_nil (by kernel_rfl)
 have A1 : preE 6 [v 0, v 1] := (show arcV (v 0) (v 1) = true by rw [e0, e1]; exact ha)
 have A2 : preE 5 [v 0, v 1] := (show arcV (v 0) (v 1) = true by rw [e0, e1]; exact ha)
 have B2 : factB (v 2) = true := by rw [e2]; exact fac0 h0 (by omega)
 have B3 : factB (v 3) = true := by rw [e3]; exact fac0 (by omega) h2
 have F6 : fxV (v 4) (v 5) = true := by rw [e4, e5]; exact sem_fitV6 _ _
 have F5 : fxV (v 9) (v 10) = true := by rw [e9, e10]; exact sem_fitV5 _ _
 refine ⟨vcs_rev ?_, ?_⟩
 · exact vcs_cons (fun _ => A1) (vcs_cons (fun _ => A2) (vcs_cons (fun _ => ⟨F6, B2⟩) (vcs_cons (fun _ => ⟨F6, B3⟩) (vcs_cons (fun _ => ⟨F5, B2⟩) (vcs_cons (fun _ => ⟨F5, B3⟩) vcs_nil)))))
 · intro x hx0
   have hx' := valV_of (v := v) (by rfl) hx0
   rw [hx']
   show Value.tuple #[.agg #[.int .i64 (v 53), .int .i64 (v 54)], .agg #[.int .i64 (v 51), .int .i64 (v 52)], .int .i64 (v 50)] = _
   have q14 : v 14 = scLo (v 4) (v 5) (v 2) := e14
   have q15 : v 15 = scHi (v 4) (v 5) (v 2) := e15
   have q19 : v 19 = scLo (v 4) (v 5) (v 3) := e19
   have q20 : v 20 = scHi (v 4) (v 5) (v 3) := e20
   have q29 : v 29 = scLo (v 9) (v 10) (v 2) := e29
   have q30 : v 30 = scHi (v 9) (v 10) (v 2) := e30
   have q34 : v 34 = scLo (v 9) (v 10) (v 3) := e34
   have q35 : v 35 = scHi (v 9) (v 10) (v 3) := e35
   have c4 : v 4 = (semB 6 [a, b]).getD 0 0 := by rw [e4, e0, e1]; rfl
   have c5 : v 5 = (semB 6 [a, b]).getD 1 0 := by rw [e5, e0, e1]; rfl
   have c9 : v 9 = (semB 5 [a, b]).getD 0 0 := by rw [e9, e0, e1]; rfl
   have c10 : v 10 = (semB 5 [a, b]).getD 1 0 := by rw [e10, e0, e1]; rfl
   rw [z53, z54, z51, z52, z50, e22, e23, e37, e38, q14, q15, q19, q20, q29, q30, q34, q35, c4, c5, c9, c10, e2, e3]
   rfl
set_option maxRecDepth 100000 in
theorem c_rParts (a b l h : Int) (w : World) (ha : arcV a b = true) (h0 : 0 ≤ l) (h1 : l ≤ h) (h2 : h ≤ 400000) :
 Calls Tryz.prog 57 #[.agg #[.int .i64 a, .int .i64 b], .agg #[.int .i64 l, .int .i64 h]] w fun e w' => e = .returned (curR (paV a b l h)) ∧ Below w.heap.size w w' := by
 refine Sx.calls (X := cxE [a, b, l, h]) hmix (spAll_ok _) wh_rPa wf_rPa (fun v hs => ?_) w
 have e0 : v 0 = a := satF hs 0 rfl
 have e1 : v 1 = b := satF hs 1 rfl
 have e2 : v 2 = l := satF hs 2 rfl
 have e3 : v 3 = h := satF hs 3 rfl
 have e4 : v 4 = b2i (decide (v 0 ≤ v 1)) := satF hs 4 rfl
 have e5 : v 5 = b2i (decide (v 0 ≥ (-1099511627776 : Int))) := satF hs 5 rfl
 have e6 : v 6 = if v 4 ≠ 0 then v 5 else (0 : Int) := satF hs 6 rfl
 have e7 : v 7 = b2i (decide (v 1 ≤ (1099511627776 : Int))) := satF hs 7 rfl
 have e8 : v 8 = if v 6 ≠ 0 then v 7 else (0 : Int) := satF hs 8 rfl
 have e9 : v 9 = if v 8 ≠ 0 then (0 : Int) else (1 : Int) := satF hs 9 rfl
 have e10 : v 10 = b2i (decide (v 2 ≤ v 3)) := satF hs 10 rfl
 have e11 : v 11 = b2i (decide (v 2 ≥ (0 : Int))) := satF hs 11 rfl
 have e12 : v 12 = if v 10 ≠ 0 then v 11 else (0 : Int) := satF hs 12 rfl
 have e13 : v 13 = b2i (decide (v 3 ≤ (400000 : Int))) := satF hs 13 rfl
 have e14 : v 14 = if v 12 ≠ 0 then v 13 else (0 : Int) := satF hs 14 rfl
 have e15 : v 15 = if v 14 ≠ 0 then (0 : Int) else (1 : Int) := satF hs 15 rfl
 have e16 : v 16 = if v 9 ≠ 0 then (1 : Int) else v 15 := satF hs 16 rfl
 have e18 : v 18 = (semE 6 [v 0, v 1]).getD 0 0 := satF hs 18 rfl
 have e19 : v 19 = (semE 6 [v 0, v 1]).getD 1 0 := satF hs 19 rfl
 have e20 : v 20 = (semE 9 [v 18, v 19, v 2]).getD 0 0 := satF hs 20 rfl
 have e21 : v 21 = (semE 9 [v 18, v 19, v 2]).getD 1 0 := satF hs 21 rfl
 have e23 : v 23 = (semE 9 [v 18, v 19, v 3]).getD 0 0 := satF hs 23 rfl
 have e24 : v 24 = (semE 9 [v 18, v 19, v 3]).getD 1 0 := satF hs 24 rfl
 have e26 : v 26 = b2i (decide (v 23 < v 20)) := satF hs 26 rfl
 have e28 : v 28 = if v 26 ≠ 0 then v 23 else v 20 := satF hs 28 rfl
 have e29 : v 29 = b2i (decide (v 24 > v 21)) := satF hs 29 rfl
 have e31 : v 31 = if v 29 ≠ 0 then v 24 else v 21 := satF hs 31 rfl
 have e32 : v 32 = (semE 5 [v 0, v 1]).getD 0 0 := satF hs 32 rfl
 have e33 : v 33 = (semE 5 [v 0, v 1]).getD 1 0 := satF hs 33 rfl
 have e34 : v 34 = (semE 9 [v 32, v 33, v 2]).getD 0 0 := satF hs 34 rfl
 have e35 : v 35 = (semE 9 [v 32, v 33, v 2]).getD 1 0 := satF hs 35 rfl
 have e37 : v 37 = (semE 9 [v 32, v 33, v 3]).getD 0 0 := satF hs 37 rfl
 have e38 : v 38 = (semE 9 [v 32, v 33, v 3]).getD 1 0 := satF hs 38 rfl
 have e40 : v 40 = b2i (decide (v 37 < v 34)) := satF hs 40 rfl
 have e42 : v 42 = if v 40 ≠ 0 then v 37 else v 34 := satF hs 42 rfl
 have e43 : v 43 = b2i (decide (v 38 > v 35)) := satF hs 43 rfl
 have e45 : v 45 = if v 43 ≠ 0 then v 38 else v 35 := satF hs 45 rfl
 have bb : ∀ (p q : Prop) [Decidable p] [Decidable q], (if b2i (decide p) ≠ 0 then b2i (decide q) else 0) = b2i (decide (p ∧ q)) := by
  intro p q _ _; by_cases h1 : p <;> by_cases h2 : q <;> simp [b2i, h1, h2]
 have Q8 : v 8 = b2i (arcV (v 0) (v 1)) := by rw [e8, e6, e4, e5, e7]; exact arc_ref _ _
 have Q14 : v 14 = b2i (decide ((v 2 ≤ v 3 ∧ v 2 ≥ 0) ∧ v 3 ≤ 400000)) := by rw [e14, e12, e10, e11, e13, bb, bb]
 have z16 : v 16 = 0 := by
  rw [e16, e9, e15, Q8, Q14, e0, e1, e2, e3, ha, decide_eq_true (show (l ≤ h ∧ l ≥ 0) ∧ h ≤ 400000 by omega)]; rfl
 have z48 : v 48 = v 28 := norm_eq (X := cxE [a, b, l, h]) (v := v) (l := nd_rPa) (extE_ok _) hs (k := 48) (j := 28) (ps := [(16, .c 0)]) (ps_cons z16 ps_nil) (by kernel_rfl)
 have z49 : v 49 = v 31 := norm_eq (X := cxE [a, b, l, h]) (v := v) (l := nd_rPa) (extE_ok _) hs (k := 49) (j := 31) (ps := [(16, .c 0)]) (ps_cons z16 ps_nil) (by kernel_rfl)
 have z46 : v 46 = v 42 := norm_eq (X := cxE [a, b, l, h]) (v := v) (l := nd_rPa) (extE_ok _) hs (k := 46) (j := 42) (ps := [(16, .c 0)]) (ps_cons z16 ps_nil) (by kernel_rfl)
 have z47 : v 47 = v 45 := norm_eq (X := cxE [a, b, l, h]) (v := v) (l := nd_rPa) (extE_ok _) hs (k := 47) (j := 45) (ps := [(16, .c 0)]) (ps_cons z16 ps_nil) (by kernel_rfl)
 have A1 : preE 6 [v 0, v 1] := (show arcV (v 0) (v 1) = true by rw [e0, e1]; exact ha)
 have A2 : preE 5 [v 0, v 1] := (show arcV (v 0) (v 1) = true by rw [e0, e1]; exact ha)
 have B2 : factB (v 2) = true := by rw [e2]; exact fac0 h0 (by omega)
 have B3 : factB (v 3) = true := by rw [e3]; exact fac0 (by omega) h2
 have F6 : fxV (v 18) (v 19) = true := by rw [e18, e19]; exact sem_fitV6 _ _
 have F5 : fxV (v 32) (v 33) = true := by rw [e32, e33]; exact sem_fitV5 _ _
 refine ⟨vcs_rev ?_, ?_⟩
 · exact vcs_cons (fun _ => A1) (vcs_cons (fun _ => ⟨F6, B2⟩) (vcs_cons (fun _ => ⟨F6, B3⟩) (vcs_cons (fun _ => A2) (vcs_cons (fun _ => ⟨F5, B2⟩) (vcs_cons (fun _ => ⟨F5, B3⟩) vcs_nil)))))
 · intro x hx0
   have hx' := valV_of (v := v) (by rfl) hx0
   rw [hx']
   show Value.tuple #[.agg #[.int .i64 (v 48), .int .i64 (v 49)], .agg #[.int .i64 (v 46), .int .i64 (v 47)], .int .i64 (v 16)] = _
   have q20 : v 20 = scLo (v 18) (v 19) (v 2) := e20
   have q21 : v 21 = scHi (v 18) (v 19) (v 2) := e21
   have q23 : v 23 = scLo (v 18) (v 19) (v 3) := e23
   have q24 : v 24 = scHi (v 18) (v 19) (v 3) := e24
   have q34 : v 34 = scLo (v 32) (v 33) (v 2) := e34
   have q35 : v 35 = scHi (v 32) (v 33) (v 2) := e35
   have q37 : v 37 = scLo (v 32) (v 33) (v 3) := e37
   have q38 : v 38 = scHi (v 32) (v 33) (v 3) := e38
   have c4 : v 18 = (semB 6 [a, b]).getD 0 0 := by rw [e18, e0, e1]; rfl
   have c5 : v 19 = (semB 6 [a, b]).getD 1 0 := by rw [e19, e0, e1]; rfl
   have c9 : v 32 = (semB 5 [a, b]).getD 0 0 := by rw [e32, e0, e1]; rfl
   have c10 : v 33 = (semB 5 [a, b]).getD 1 0 := by rw [e33, e0, e1]; rfl
   rw [z48, z49, z46, z47, z16, e28, e31, e42, e45, e26, e29, e40, e43, b2i_ite, b2i_ite, b2i_ite, b2i_ite, q20, q21, q23, q24, q34, q35, q37, q38, c4, c5, c9, c10, e2, e3]
   rfl
set_option maxRecDepth 100000 in
theorem c_pCompose (a b l h : Int) (w : World) (h1 : -400000 ≤ a ∧ a ≤ b ∧ b ≤ 400000) (h2 : -400000 ≤ l ∧ l ≤ h ∧ h ≤ 400000) :
 Calls Tryz.prog 177 #[.agg #[.int .i64 a, .int .i64 b], .agg #[.int .i64 l, .int .i64 h]] w fun e w' => e = .returned (curR (coV a b l h)) ∧ Below w.heap.size w w' := by
 refine Sx.calls (X := cxE [a, b, l, h]) hmix (spAll_ok _) wh_pCo wf_pCo (fun v hs => ?_) w
 have e0 : v 0 = a := satF hs 0 rfl
 have e1 : v 1 = b := satF hs 1 rfl
 have e2 : v 2 = l := satF hs 2 rfl
 have e3 : v 3 = h := satF hs 3 rfl
 have e4 : v 4 = IntKind.i64.wrap ((4096 : Int) * v 0) := satF hs 4 rfl
 have e5 : v 5 = IntKind.i64.wrap ((4096 : Int) * v 1) := satF hs 5 rfl
 have e6 : v 6 = IntKind.i64.wrap ((4096 : Int) * v 2) := satF hs 6 rfl
 have e7 : v 7 = IntKind.i64.wrap ((4096 : Int) * v 3) := satF hs 7 rfl
 have e8 : v 8 = (semE 7 [v 6, v 7, v 4, v 5]).getD 0 0 := satF hs 8 rfl
 have e9 : v 9 = (semE 7 [v 6, v 7, v 4, v 5]).getD 1 0 := satF hs 9 rfl
 have e13 : v 13 = IntKind.i64.wrap ((0 : Int) - v 1) := satF hs 13 rfl
 have e14 : v 14 = if v 0 > (0 : Int) then v 0 else (0 : Int) := satF hs 14 rfl
 have e15 : v 15 = if v 13 > v 14 then v 13 else v 14 := satF hs 15 rfl
 have e16 : v 16 = IntKind.i64.wrap (v 15 * v 15) := satF hs 16 rfl
 have e17 : v 17 = IntKind.i64.wrap ((0 : Int) - v 3) := satF hs 17 rfl
 have e18 : v 18 = if v 2 > (0 : Int) then v 2 else (0 : Int) := satF hs 18 rfl
 have e19 : v 19 = if v 17 > v 18 then v 17 else v 18 := satF hs 19 rfl
 have e20 : v 20 = IntKind.i64.wrap (v 19 * v 19) := satF hs 20 rfl
 have e21 : v 21 = IntKind.i64.wrap (v 16 + v 20) := satF hs 21 rfl
 have e22 : v 22 = (semE 10 [v 21]).getD 0 0 := satF hs 22 rfl
 have e23 : v 23 = IntKind.i64.wrap ((0 : Int) - v 0) := satF hs 23 rfl
 have e24 : v 24 = if v 23 > v 1 then v 23 else v 1 := satF hs 24 rfl
 have e25 : v 25 = IntKind.i64.wrap (v 24 * v 24) := satF hs 25 rfl
 have e26 : v 26 = IntKind.i64.wrap ((0 : Int) - v 2) := satF hs 26 rfl
 have e27 : v 27 = if v 26 > v 3 then v 26 else v 3 := satF hs 27 rfl
 have e28 : v 28 = IntKind.i64.wrap (v 27 * v 27) := satF hs 28 rfl
 have e29 : v 29 = IntKind.i64.wrap (v 25 + v 28) := satF hs 29 rfl
 have e30 : v 30 = (semE 10 [v 29]).getD 0 0 := satF hs 30 rfl
 have e31 : v 31 = IntKind.i64.wrap (v 30 * v 30) := satF hs 31 rfl
 have e32 : v 32 = b2i (decide (v 31 < v 29)) := satF hs 32 rfl
 have e33 : v 33 = IntKind.i64.wrap (v 30 + (1 : Int)) := satF hs 33 rfl
 have e35 : v 35 = if v 32 ≠ 0 then v 33 else v 30 := satF hs 35 rfl
 have z36 : v 36 = 0 := norm_val (X := cxE [a, b, l, h]) (v := v) (l := nd_pCo) (extE_ok _) hs (k := 36) (r := .c 0) (ps := []) (nz := []) ps_nil nz_nil (by kernel_rfl)
 have z39 : v 39 = v 8 := norm_eq (X := cxE [a, b, l, h]) (v := v) (l := nd_pCo) (extE_ok _) hs (k := 39) (j := 8) (ps := []) ps_nil (by kernel_rfl)
 have z40 : v 40 = v 9 := norm_eq (X := cxE [a, b, l, h]) (v := v) (l := nd_pCo) (extE_ok _) hs (k := 40) (j := 9) (ps := []) ps_nil (by kernel_rfl)
 have z37 : v 37 = v 22 := norm_eq (X := cxE [a, b, l, h]) (v := v) (l := nd_pCo) (extE_ok _) hs (k := 37) (j := 22) (ps := []) ps_nil (by kernel_rfl)
 have z38 : v 38 = v 35 := norm_eq (X := cxE [a, b, l, h]) (v := v) (l := nd_pCo) (extE_ok _) hs (k := 38) (j := 35) (ps := []) ps_nil (by kernel_rfl)
 have L1 := lstA_bd h1
 have L2 := lstA_bd h2
 have M1 := mstA_bd h1
 have M2 := mstA_bd h2
 have s1 := sqb4 L1.1 L1.2
 have s2 := sqb4 L2.1 L2.2
 have s3 := sqb4 M1.1 M1.2
 have s4 := sqb4 M2.1 M2.2
 have r4 : v 4 = 4096 * a := by rw [e4, e0, IntWalk.i64_in _ (by omega)]
 have r5 : v 5 = 4096 * b := by rw [e5, e1, IntWalk.i64_in _ (by omega)]
 have r6 : v 6 = 4096 * l := by rw [e6, e2, IntWalk.i64_in _ (by omega)]
 have r7 : v 7 = 4096 * h := by rw [e7, e3, IntWalk.i64_in _ (by omega)]
 have r15 : v 15 = lstA a b := by rw [e15, e13, e14, e0, e1, IntWalk.i64_in _ (by omega)]; unfold lstA; repeat' split <;> omega
 have r19 : v 19 = lstA l h := by rw [e19, e17, e18, e2, e3, IntWalk.i64_in _ (by omega)]; unfold lstA; repeat' split <;> omega
 have r24 : v 24 = mstA a b := by rw [e24, e23, e0, e1, IntWalk.i64_in _ (by omega)]; unfold mstA; repeat' split <;> omega
 have r27 : v 27 = mstA l h := by rw [e27, e26, e2, e3, IntWalk.i64_in _ (by omega)]; unfold mstA; repeat' split <;> omega
 have r21 : v 21 = lstA a b * lstA a b + lstA l h * lstA l h := by
  rw [e21, e16, e20, r15, r19, IntWalk.i64_in (lstA a b * lstA a b) (by omega), IntWalk.i64_in (lstA l h * lstA l h) (by omega), IntWalk.i64_in _ (by omega)]
 have r29 : v 29 = mstA a b * mstA a b + mstA l h * mstA l h := by
  rw [e29, e25, e28, r24, r27, IntWalk.i64_in (mstA a b * mstA a b) (by omega), IntWalk.i64_in (mstA l h * mstA l h) (by omega), IntWalk.i64_in _ (by omega)]
 have A7 : preE 7 [v 6, v 7, v 4, v 5] := (show fxV (v 6) (v 7) = true ∧ fxV (v 4) (v 5) = true by rw [r4, r5, r6, r7]; exact ⟨fx4A h2, fx4A h1⟩)
 have A21 : preE 10 [v 21] := (show 0 ≤ v 21 ∧ v 21 < 4398046511104 by rw [r21]; omega)
 have A29 : preE 10 [v 29] := (show 0 ≤ v 29 ∧ v 29 < 4398046511104 by rw [r29]; omega)
 have q8 : v 8 = bearL (v 6) (v 7) (v 4) (v 5) := e8
 have q9 : v 9 = bearH (v 6) (v 7) (v 4) (v 5) := e9
 have q22 : v 22 = rtV (v 21) := e22
 have q30 : v 30 = rtV (v 29) := e30
 have rt := rtV_small (v 29) A29.1 A29.2
 have r31 : v 31 = rtV (v 29) * rtV (v 29) := by rw [e31, q30, IntWalk.i64_in _ (by have := sqb5 rt.1 rt.2; omega)]
 have r35 : v 35 = rtU (v 29) := by
  rw [e35, e32, e33, b2i_ite, r31, q30, IntWalk.i64_in _ (by omega)]; rfl
 refine ⟨vcs_rev ?_, ?_⟩
 · exact vcs_cons (fun _ => A7) (vcs_cons (fun _ => A21) (vcs_cons (fun _ => A29) vcs_nil))
 · intro x hx0
   have hx' := valV_of (v := v) (by rfl) hx0
   rw [hx']
   show Value.tuple #[.agg #[.int .i64 (v 39), .int .i64 (v 40)], .agg #[.int .i64 (v 37), .int .i64 (v 38)], .int .i64 (v 36)] = _
   rw [z39, z40, z37, z38, z36, q8, q9, q22, r35, r21, r29, r4, r5, r6, r7]
   rfl
set_option maxRecDepth 100000 in
theorem c_rCompose (a b l h : Int) (w : World) (h1 : -400000 ≤ a ∧ a ≤ b ∧ b ≤ 400000) (h2 : -400000 ≤ l ∧ l ≤ h ∧ h ≤ 400000) :
 Calls Tryz.prog 59 #[.agg #[.int .i64 a, .int .i64 b], .agg #[.int .i64 l, .int .i64 h]] w fun e w' => e = .returned (curR (coV a b l h)) ∧ Below w.heap.size w w' := by
 refine Sx.calls (X := cxE [a, b, l, h]) hmix (spAll_ok _) wh_rCo wf_rCo (fun v hs => ?_) w
 have e0 : v 0 = a := satF hs 0 rfl
 have e1 : v 1 = b := satF hs 1 rfl
 have e2 : v 2 = l := satF hs 2 rfl
 have e3 : v 3 = h := satF hs 3 rfl
 have e4 : v 4 = b2i (decide (v 0 ≤ v 1)) := satF hs 4 rfl
 have e5 : v 5 = b2i (decide (v 0 ≥ (-400000 : Int))) := satF hs 5 rfl
 have e6 : v 6 = if v 4 ≠ 0 then v 5 else (0 : Int) := satF hs 6 rfl
 have e7 : v 7 = b2i (decide (v 1 ≤ (400000 : Int))) := satF hs 7 rfl
 have e8 : v 8 = if v 6 ≠ 0 then v 7 else (0 : Int) := satF hs 8 rfl
 have e9 : v 9 = if v 8 ≠ 0 then (0 : Int) else (1 : Int) := satF hs 9 rfl
 have e10 : v 10 = b2i (decide (v 2 ≤ v 3)) := satF hs 10 rfl
 have e11 : v 11 = b2i (decide (v 2 ≥ (-400000 : Int))) := satF hs 11 rfl
 have e12 : v 12 = if v 10 ≠ 0 then v 11 else (0 : Int) := satF hs 12 rfl
 have e13 : v 13 = b2i (decide (v 3 ≤ (400000 : Int))) := satF hs 13 rfl
 have e14 : v 14 = if v 12 ≠ 0 then v 13 else (0 : Int) := satF hs 14 rfl
 have e15 : v 15 = if v 14 ≠ 0 then (0 : Int) else (1 : Int) := satF hs 15 rfl
 have e16 : v 16 = if v 9 ≠ 0 then (1 : Int) else v 15 := satF hs 16 rfl
 have e18 : v 18 = IntKind.i64.wrap ((4096 : Int) * v 2) := satF hs 18 rfl
 have e19 : v 19 = IntKind.i64.wrap ((4096 : Int) * v 3) := satF hs 19 rfl
 have e20 : v 20 = IntKind.i64.wrap ((4096 : Int) * v 0) := satF hs 20 rfl
 have e21 : v 21 = IntKind.i64.wrap ((4096 : Int) * v 1) := satF hs 21 rfl
 have e22 : v 22 = (semE 7 [v 18, v 19, v 20, v 21]).getD 0 0 := satF hs 22 rfl
 have e23 : v 23 = (semE 7 [v 18, v 19, v 20, v 21]).getD 1 0 := satF hs 23 rfl
 have e25 : v 25 = b2i (decide (v 0 > (0 : Int))) := satF hs 25 rfl
 have e27 : v 27 = b2i (decide (v 1 < (0 : Int))) := satF hs 27 rfl
 have e28 : v 28 = IntKind.i64.wrap ((0 : Int) - v 1) := satF hs 28 rfl
 have e30 : v 30 = if v 27 ≠ 0 then v 28 else (0 : Int) := satF hs 30 rfl
 have e31 : v 31 = if v 25 ≠ 0 then v 0 else v 30 := satF hs 31 rfl
 have e32 : v 32 = IntKind.i64.wrap (v 31 * v 31) := satF hs 32 rfl
 have e33 : v 33 = b2i (decide (v 2 > (0 : Int))) := satF hs 33 rfl
 have e35 : v 35 = b2i (decide (v 3 < (0 : Int))) := satF hs 35 rfl
 have e36 : v 36 = IntKind.i64.wrap ((0 : Int) - v 3) := satF hs 36 rfl
 have e38 : v 38 = if v 35 ≠ 0 then v 36 else (0 : Int) := satF hs 38 rfl
 have e39 : v 39 = if v 33 ≠ 0 then v 2 else v 38 := satF hs 39 rfl
 have e40 : v 40 = IntKind.i64.wrap (v 39 * v 39) := satF hs 40 rfl
 have e41 : v 41 = IntKind.i64.wrap (v 32 + v 40) := satF hs 41 rfl
 have e42 : v 42 = (semE 10 [v 41]).getD 0 0 := satF hs 42 rfl
 have e43 : v 43 = IntKind.i64.wrap ((0 : Int) - v 0) := satF hs 43 rfl
 have e44 : v 44 = b2i (decide (v 43 > v 1)) := satF hs 44 rfl
 have e46 : v 46 = if v 44 ≠ 0 then v 43 else v 1 := satF hs 46 rfl
 have e47 : v 47 = IntKind.i64.wrap (v 46 * v 46) := satF hs 47 rfl
 have e48 : v 48 = IntKind.i64.wrap ((0 : Int) - v 2) := satF hs 48 rfl
 have e49 : v 49 = b2i (decide (v 48 > v 3)) := satF hs 49 rfl
 have e51 : v 51 = if v 49 ≠ 0 then v 48 else v 3 := satF hs 51 rfl
 have e52 : v 52 = IntKind.i64.wrap (v 51 * v 51) := satF hs 52 rfl
 have e53 : v 53 = IntKind.i64.wrap (v 47 + v 52) := satF hs 53 rfl
 have e54 : v 54 = (semE 10 [v 53]).getD 0 0 := satF hs 54 rfl
 have e55 : v 55 = IntKind.i64.wrap (v 54 * v 54) := satF hs 55 rfl
 have e56 : v 56 = b2i (decide (v 55 < v 53)) := satF hs 56 rfl
 have e57 : v 57 = IntKind.i64.wrap (v 54 + (1 : Int)) := satF hs 57 rfl
 have e59 : v 59 = if v 56 ≠ 0 then v 57 else v 54 := satF hs 59 rfl
 have bb : ∀ (p q : Prop) [Decidable p] [Decidable q], (if b2i (decide p) ≠ 0 then b2i (decide q) else 0) = b2i (decide (p ∧ q)) := by
  intro p q _ _; by_cases h1 : p <;> by_cases h2 : q <;> simp [b2i, h1, h2]
 have Q8 : v 8 = b2i (decide ((v 0 ≤ v 1 ∧ v 0 ≥ -400000) ∧ v 1 ≤ 400000)) := by rw [e8, e6, e4, e5, e7, bb, bb]
 have Q14 : v 14 = b2i (decide ((v 2 ≤ v 3 ∧ v 2 ≥ -400000) ∧ v 3 ≤ 400000)) := by rw [e14, e12, e10, e11, e13, bb, bb]
 have z16 : v 16 = 0 := by
  rw [e16, e9, e15, Q8, Q14, e0, e1, e2, e3, decide_eq_true (show (a ≤ b ∧ a ≥ -400000) ∧ b ≤ 400000 by omega), decide_eq_true (show (l ≤ h ∧ l ≥ -400000) ∧ h ≤ 400000 by omega)]; rfl
 have z62 : v 62 = v 22 := norm_eq (X := cxE [a, b, l, h]) (v := v) (l := nd_rCo) (extE_ok _) hs (k := 62) (j := 22) (ps := [(16, .c 0)]) (ps_cons z16 ps_nil) (by kernel_rfl)
 have z63 : v 63 = v 23 := norm_eq (X := cxE [a, b, l, h]) (v := v) (l := nd_rCo) (extE_ok _) hs (k := 63) (j := 23) (ps := [(16, .c 0)]) (ps_cons z16 ps_nil) (by kernel_rfl)
 have z60 : v 60 = v 42 := norm_eq (X := cxE [a, b, l, h]) (v := v) (l := nd_rCo) (extE_ok _) hs (k := 60) (j := 42) (ps := [(16, .c 0)]) (ps_cons z16 ps_nil) (by kernel_rfl)
 have z61 : v 61 = v 59 := norm_eq (X := cxE [a, b, l, h]) (v := v) (l := nd_rCo) (extE_ok _) hs (k := 61) (j := 59) (ps := [(16, .c 0)]) (ps_cons z16 ps_nil) (by kernel_rfl)
 have L1 := lstA_bd h1
 have L2 := lstA_bd h2
 have M1 := mstA_bd h1
 have M2 := mstA_bd h2
 have s1 := sqb4 L1.1 L1.2
 have s2 := sqb4 L2.1 L2.2
 have s3 := sqb4 M1.1 M1.2
 have s4 := sqb4 M2.1 M2.2
 have r20 : v 20 = 4096 * a := by rw [e20, e0, IntWalk.i64_in _ (by omega)]
 have r21 : v 21 = 4096 * b := by rw [e21, e1, IntWalk.i64_in _ (by omega)]
 have r18 : v 18 = 4096 * l := by rw [e18, e2, IntWalk.i64_in _ (by omega)]
 have r19 : v 19 = 4096 * h := by rw [e19, e3, IntWalk.i64_in _ (by omega)]
 have r31 : v 31 = lstA a b := by rw [e31, e25, e30, e27, e28, b2i_ite, b2i_ite, e0, e1, IntWalk.i64_in _ (by omega)]; unfold lstA; repeat' split <;> omega
 have r39 : v 39 = lstA l h := by rw [e39, e33, e38, e35, e36, b2i_ite, b2i_ite, e2, e3, IntWalk.i64_in _ (by omega)]; unfold lstA; repeat' split <;> omega
 have r46 : v 46 = mstA a b := by rw [e46, e44, e43, b2i_ite, e0, e1, IntWalk.i64_in _ (by omega)]; unfold mstA; repeat' split <;> omega
 have r51 : v 51 = mstA l h := by rw [e51, e49, e48, b2i_ite, e2, e3, IntWalk.i64_in _ (by omega)]; unfold mstA; repeat' split <;> omega
 have r41 : v 41 = lstA a b * lstA a b + lstA l h * lstA l h := by
  rw [e41, e32, e40, r31, r39, IntWalk.i64_in (lstA a b * lstA a b) (by omega), IntWalk.i64_in (lstA l h * lstA l h) (by omega), IntWalk.i64_in _ (by omega)]
 have r53 : v 53 = mstA a b * mstA a b + mstA l h * mstA l h := by
  rw [e53, e47, e52, r46, r51, IntWalk.i64_in (mstA a b * mstA a b) (by omega), IntWalk.i64_in (mstA l h * mstA l h) (by omega), IntWalk.i64_in _ (by omega)]
 have A7 : preE 7 [v 18, v 19, v 20, v 21] := (show fxV (v 18) (v 19) = true ∧ fxV (v 20) (v 21) = true by rw [r18, r19, r20, r21]; exact ⟨fx4A h2, fx4A h1⟩)
 have A41 : preE 10 [v 41] := (show 0 ≤ v 41 ∧ v 41 < 4398046511104 by rw [r41]; omega)
 have A53 : preE 10 [v 53] := (show 0 ≤ v 53 ∧ v 53 < 4398046511104 by rw [r53]; omega)
 have q22 : v 22 = bearL (v 18) (v 19) (v 20) (v 21) := e22
 have q23 : v 23 = bearH (v 18) (v 19) (v 20) (v 21) := e23
 have q42 : v 42 = rtV (v 41) := e42
 have q54 : v 54 = rtV (v 53) := e54
 have rt := rtV_small (v 53) A53.1 A53.2
 have r55 : v 55 = rtV (v 53) * rtV (v 53) := by rw [e55, q54, IntWalk.i64_in _ (by have := sqb5 rt.1 rt.2; omega)]
 have r59 : v 59 = rtU (v 53) := by
  rw [e59, e56, e57, b2i_ite, r55, q54, IntWalk.i64_in _ (by omega)]; rfl
 refine ⟨vcs_rev ?_, ?_⟩
 · exact vcs_cons (fun _ => A7) (vcs_cons (fun _ => A41) (vcs_cons (fun _ => A53) vcs_nil))
 · intro x hx0
   have hx' := valV_of (v := v) (by rfl) hx0
   rw [hx']
   show Value.tuple #[.agg #[.int .i64 (v 62), .int .i64 (v 63)], .agg #[.int .i64 (v 60), .int .i64 (v 61)], .int .i64 (v 16)] = _
   rw [z62, z63, z60, z61, z16, q22, q23, q42, r59, r41, r53, r18, r19, r20, r21]
   rfl
def semC : Nat → List Int → List Int
 | 37, [a, b, l, h] => paV a b l h
 | 38, [a, b, l, h] => coV a b l h
 | f, xs => semE f xs
def preC : Nat → List Int → Prop
 | 37, [a, b, l, h] => arcV a b = true ∧ 0 ≤ l ∧ l ≤ h ∧ h ≤ 400000
 | 38, [a, b, l, h] => (-400000 ≤ a ∧ a ≤ b ∧ b ≤ 400000) ∧ (-400000 ≤ l ∧ l ≤ h ∧ h ≤ 400000)
 | f, xs => preE f xs
def cxC (args : List Int) : Cx := ⟨semC, preC, args⟩
theorem semC_low {f : Nat} (h : f ≠ 37 ∧ f ≠ 38) (xs : List Int) : semC f xs = semE f xs := by
 unfold semC
 split
 · exact absurd rfl h.1
 · exact absurd rfl h.2
 · rfl
theorem preC_low {f : Nat} (h : f ≠ 37 ∧ f ≠ 38) (xs : List Int) : preC f xs = preE f xs := by
 unfold preC
 split
 · exact absurd rfl h.1
 · exact absurd rfl h.2
 · rfl
theorem likeC (args : List Int) : Like (cxC args) := ⟨fun f xs h => (semC_low (by omega) xs).trans (semE_low (by omega) xs), fun f xs h hp => by
 show preC f xs
 rw [preC_low (by omega), preE_low (by omega)]; exact hp⟩
theorem specC {args : List Int} {s : Sx.Spec} (h : s.id ≠ 37 ∧ s.id ≠ 38) (H : SpecOK Tryz.prog (cxE args) s) : SpecOK Tryz.prog (cxC args) s := by
 obtain ⟨a, b⟩ := H
 refine ⟨a, fun xs hp w => ?_⟩
 have hp' : preE s.id xs := by
  have : preC s.id xs := hp
  rwa [preC_low h] at this
 have := b xs hp' w
 rw [show (cxC args).sem s.id xs = (cxE args).sem s.id xs from semC_low h xs]
 exact this
theorem preC37 {xs : List Int} (hp : preC 37 xs) : ∃ a b l h, xs = [a, b, l, h] ∧ arcV a b = true ∧ 0 ≤ l ∧ l ≤ h ∧ h ≤ 400000 := by
 match xs, hp with
 | [a, b, l, h], hp => exact ⟨a, b, l, h, rfl, hp⟩
theorem preC38 {xs : List Int} (hp : preC 38 xs) : ∃ a b l h, xs = [a, b, l, h] ∧ (-400000 ≤ a ∧ a ≤ b ∧ b ≤ 400000) ∧ (-400000 ≤ l ∧ l ≤ h ∧ h ≤ 400000) := by
 match xs, hp with
 | [a, b, l, h], hp => exact ⟨a, b, l, h, rfl, hp⟩
def sParts : Sx.Spec := ⟨164, 37, [(true, [some .i64, some .i64]), (true, [some .i64, some .i64])], [(true, [some .i64, some .i64]), (true, [some .i64, some .i64]), (false, [some .i64])]⟩
def rParts : Sx.Spec := ⟨57, 37, [(true, [some .i64, some .i64]), (true, [some .i64, some .i64])], [(true, [some .i64, some .i64]), (true, [some .i64, some .i64]), (false, [some .i64])]⟩
def sCompose : Sx.Spec := ⟨177, 38, [(true, [some .i64, some .i64]), (true, [some .i64, some .i64])], [(true, [some .i64, some .i64]), (true, [some .i64, some .i64]), (false, [some .i64])]⟩
def rCompose : Sx.Spec := ⟨59, 38, [(true, [some .i64, some .i64]), (true, [some .i64, some .i64])], [(true, [some .i64, some .i64]), (true, [some .i64, some .i64]), (false, [some .i64])]⟩
def spC : List Sx.Spec := spAll ++ [sAwake45, sParts, rParts, sCompose, rCompose]
theorem spAll_id : ∀ s ∈ spAll, s.id ≠ 37 ∧ s.id ≠ 38 := by
 intro s hs
 simp only [spAll, spProg, spRef4, spRef6, spRef7, spE, List.mem_append, List.mem_cons, List.not_mem_nil, or_false] at hs
 rcases hs with (((h | h) | h) | h) | h
 · rcases h with rfl | rfl | rfl | rfl | rfl | rfl | rfl | rfl | rfl <;> decide
 · rcases h with rfl | rfl | rfl | rfl <;> decide
 · rcases h with rfl | rfl <;> decide
 · rcases h with rfl | rfl | rfl <;> decide
 · rcases h with rfl | rfl | rfl | rfl | rfl | rfl | rfl <;> decide
theorem spC_ok (args : List Int) : ∀ s ∈ spC, SpecOK Tryz.prog (cxC args) s := by
 intro s hs
 rcases List.mem_append.1 hs with h | h
 · exact specC (spAll_id s h) (spAll_ok args s h)
 · simp only [List.mem_cons, List.not_mem_nil, or_false] at h
   rcases h with rfl | rfl | rfl | rfl | rfl
   · exact specC (by decide) (sAwake45_ok args)
   · refine ⟨ours _ _ _ Tryz.func164 rfl (by kernel_rfl), fun xs hp w => ?_⟩
     obtain ⟨a, b, l, h, rfl, h1, h2, h3, h4⟩ := preC37 hp
     exact c_pParts a b l h w h1 h2 h3 h4
   · refine ⟨ours _ _ _ Tryz.func57 rfl (by kernel_rfl), fun xs hp w => ?_⟩
     obtain ⟨a, b, l, h, rfl, h1, h2, h3, h4⟩ := preC37 hp
     exact c_rParts a b l h w h1 h2 h3 h4
   · refine ⟨ours _ _ _ Tryz.func177 rfl (by kernel_rfl), fun xs hp w => ?_⟩
     obtain ⟨a, b, l, h, rfl, h1, h2⟩ := preC38 hp
     exact c_pCompose a b l h w h1 h2
   · refine ⟨ours _ _ _ Tryz.func59 rfl (by kernel_rfl), fun xs hp w => ?_⟩
     obtain ⟨a, b, l, h, rfl, h1, h2⟩ := preC38 hp
     exact c_rCompose a b l h w h1 h2
def extCur (t : Tab) : Nd → Option Rf
 | .app 37 4 [_, _, _, _] => some (.c 0)
 | .app 38 4 [_, _, _, _] => some (.c 0)
 | x => extB t x
theorem extCur_ok (args : List Int) : ExtOK (cxC args) extCur := by
 intro v t x r ht h
 unfold extCur at h
 split at h
 · cases h; rfl
 · cases h; rfl
 · exact extX_ok (likeC args) v t x r ht h
theorem q_unit0 (x n m : Int) (hx : -1073741824 ≤ x ∧ x ≤ 1073741824) (hn : 0 ≤ n ∧ n ≤ m) : -m ≤ qFl x n 1073741824 ∧ qFl x n 1073741824 ≤ qCe x n 1073741824 ∧ qCe x n 1073741824 ≤ m := by
 have := qFl_bd x n 1073741824
 have h1 := Int.mul_le_mul_of_nonneg_right hx.1 hn.1
 have h2 := Int.mul_le_mul_of_nonneg_right hx.2 hn.1
 unfold qFl qCe
 omega
theorem sc_rng {p q n m : Int} (hp : -1073741824 ≤ p ∧ p ≤ q ∧ q ≤ 1073741824) (hn : 0 ≤ n ∧ n ≤ m) : -m ≤ scLo p q n ∧ scLo p q n ≤ scHi p q n ∧ scHi p q n ≤ m := by
 have h1 := q_unit0 p n m ⟨hp.1, by omega⟩ hn
 have h2 := q_unit0 q n m ⟨by omega, hp.2.2⟩ hn
 unfold scLo scHi
 omega
theorem pa_bd {a b l h : Int} (h0 : 0 ≤ l) (h1 : l ≤ h) : (-h ≤ (paV a b l h).getD 0 0 ∧ (paV a b l h).getD 0 0 ≤ (paV a b l h).getD 1 0 ∧ (paV a b l h).getD 1 0 ≤ h) ∧ (-h ≤ (paV a b l h).getD 2 0 ∧ (paV a b l h).getD 2 0 ≤ (paV a b l h).getD 3 0 ∧ (paV a b l h).getD 3 0 ≤ h) := by
 have c := en_bd (a + 5400000) (b + 5400000)
 have s := en_bd a b
 have c1 := sc_rng c (n := l) (m := h) ⟨h0, h1⟩
 have c2 := sc_rng c (n := h) (m := h) ⟨by omega, by omega⟩
 have s1 := sc_rng s (n := l) (m := h) ⟨h0, h1⟩
 have s2 := sc_rng s (n := h) (m := h) ⟨by omega, by omega⟩
 show (-h ≤ mnV (scLo (enLo (a + 5400000) (b + 5400000)) (enHi (a + 5400000) (b + 5400000)) l) (scLo (enLo (a + 5400000) (b + 5400000)) (enHi (a + 5400000) (b + 5400000)) h) ∧ mnV (scLo (enLo (a + 5400000) (b + 5400000)) (enHi (a + 5400000) (b + 5400000)) l) (scLo (enLo (a + 5400000) (b + 5400000)) (enHi (a + 5400000) (b + 5400000)) h) ≤ mxV (scHi (enLo (a + 5400000) (b + 5400000)) (enHi (a + 5400000) (b + 5400000)) l) (scHi (enLo (a + 5400000) (b + 5400000)) (enHi (a + 5400000) (b + 5400000)) h) ∧ mxV (scHi (enLo (a + 5400000) (b + 5400000)) (enHi (a + 5400000) (b + 5400000)) l) (scHi (enLo (a + 5400000) (b + 5400000)) (enHi (a + 5400000) (b + 5400000)) h) ≤ h) ∧ (-h ≤ mnV (scLo (enLo a b) (enHi a b) l) (scLo (enLo a b) (enHi a b) h) ∧ mnV (scLo (enLo a b) (enHi a b) l) (scLo (enLo a b) (enHi a b) h) ≤ mxV (scHi (enLo a b) (enHi a b) l) (scHi (enLo a b) (enHi a b) h) ∧ mxV (scHi (enLo a b) (enHi a b) l) (scHi (enLo a b) (enHi a b) h) ≤ h)
 unfold mnV mxV
 constructor <;> (repeat' split) <;> omega
end Go.Proofs.YtfffpodaabdpfaaGreat
