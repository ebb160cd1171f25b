/- The contracts of small functions of both sides: moves, speed, sums and differences of arcs. -/
import Derived.Test.YtfffpodaabdpfaaGreatCur
set_option linter.unusedVariables false
set_option linter.unusedSimpArgs false
namespace Go.Proofs.YtfffpodaabdpfaaGreat
open Go.RowKit Alm Sx
abbrev MV (a b l h : Int) : Prop := arcV a b = true ∧ 0 ≤ l ∧ l ≤ h ∧ h ≤ 200000
theorem in1 {x y z u : Int} (h : x = b2i (decide (u ≥ (-1099511627776 : Int)))) (h2 : y = b2i (decide (u ≤ (1099511627776 : Int)))) (hz : z = if x ≠ 0 then y else (0 : Int)) (b : -1000000000 ≤ u ∧ u ≤ 1000000000) : z = 1 := by
 rw [hz, h, h2, decide_eq_true (show u ≥ (-1099511627776 : Int) by omega), decide_eq_true (show u ≤ (1099511627776 : Int) by omega)]; rfl
theorem arc1 {lo hi : Int} (h : -1000000000 ≤ lo ∧ lo ≤ hi ∧ hi ≤ 1000000000) : b2i (arcV lo hi) = 1 := by
 rw [(arcV_iff lo hi).2 (by omega)]; rfl
theorem ab {b : Bool} {q : Prop} [Decidable q] : (if b2i b ≠ 0 then b2i (decide q) else 0) = b2i (decide (b = true ∧ q)) := by
 cases b <;> by_cases h2 : q <;> simp [b2i, h2]
theorem ba {b : Bool} {q : Prop} [Decidable q] : (if b2i (decide q) ≠ 0 then b2i b else 0) = b2i (decide (b = true ∧ q)) := by
 cases b <;> by_cases h2 : q <;> simp [b2i, h2]
theorem bb {p q : Prop} [Decidable p] [Decidable q] : (if b2i (decide p) ≠ 0 then b2i (decide q) else 0) = b2i (decide (p ∧ q)) := by
 by_cases h1 : p <;> by_cases h2 : q <;> simp [b2i, h1, h2]
theorem sp0_ok (args : List Int) : ∀ s ∈ ([] : List Sx.Spec), SpecOK Tryz.prog (cxC args) s := fun s hs => by cases hs
def nd_pMoves : List Nd := [
 .arg 0,
 .arg 1,
 .arg 2,
 .arg 3,
 .bin .leq .i64 (.n 0) (.n 1),
 .bin .geq .i64 (.n 0) (.c (-1099511627776)),
 .bin .leq .i64 (.n 0) (.c 1099511627776),
 .ite (.n 5) (.n 6) (.c 0),
 .ite (.n 4) (.n 7) (.c 0),
 .bin .geq .i64 (.n 1) (.c (-1099511627776)),
 .bin .leq .i64 (.n 1) (.c 1099511627776),
 .ite (.n 9) (.n 10) (.c 0),
 .ite (.n 8) (.n 11) (.c 0),
 .bin .leq .i64 (.n 2) (.n 3),
 .bin .geq .i64 (.n 2) (.c (-1099511627776)),
 .bin .leq .i64 (.n 2) (.c 1099511627776),
 .ite (.n 14) (.n 15) (.c 0),
 .ite (.n 13) (.n 16) (.c 0),
 .bin .geq .i64 (.n 3) (.c (-1099511627776)),
 .bin .leq .i64 (.n 3) (.c 1099511627776),
 .ite (.n 18) (.n 19) (.c 0),
 .ite (.n 17) (.n 20) (.c 0),
 .bin .geq .i64 (.n 2) (.c 0),
 .ite (.n 21) (.n 22) (.c 0),
 .bin .leq .i64 (.n 3) (.c 200000),
 .ite (.n 23) (.n 24) (.c 0),
 .ite (.n 12) (.n 25) (.c 0)]
def vc_pMoves : List Vc := [
 ]
theorem wh_pMoves : whole Tryz.prog [] 20 40 162 [(true, [some .i64, some .i64]), (true, [some .i64, some .i64])] = some (.p (.c (.bool (.n 26))), ⟨nd_pMoves.reverse, vc_pMoves.reverse⟩) := by kernel_rfl
theorem wf_pMoves : wfN nd_pMoves.reverse = true := by kernel_rfl
set_option maxRecDepth 100000 in
theorem c_moves (a b l h : Int) (w : World)  : Calls Tryz.prog 162 #[.agg #[.int .i64 a, .int .i64 b], .agg #[.int .i64 l, .int .i64 h]] w fun e w' => e = .returned (.bool (decide (b2i (decide (MV a b l h)) ≠ 0))) ∧ Below w.heap.size w w' := by
 refine Sx.calls (X := cxC [a, b, l, h]) hmix (sp0_ok _) wh_pMoves wf_pMoves (fun v hs => ?_) w
 have e0 : v 0 = a := satF hs 0 rfl
 have e1 : v 1 = b := satF hs 1 rfl
 have e2 : v 2 = l := satF hs 2 rfl
 have e3 : v 3 = h := satF hs 3 rfl
 have e4 : v 4 = b2i (decide (v 0 ≤ v 1)) := satF hs 4 rfl
 have e5 : v 5 = b2i (decide (v 0 ≥ (-1099511627776 : Int))) := satF hs 5 rfl
 have e6 : v 6 = b2i (decide (v 0 ≤ (1099511627776 : Int))) := satF hs 6 rfl
 have e7 : v 7 = if v 5 ≠ 0 then v 6 else (0 : Int) := satF hs 7 rfl
 have e8 : v 8 = if v 4 ≠ 0 then v 7 else (0 : Int) := satF hs 8 rfl
 have e9 : v 9 = b2i (decide (v 1 ≥ (-1099511627776 : Int))) := satF hs 9 rfl
 have e10 : v 10 = b2i (decide (v 1 ≤ (1099511627776 : Int))) := satF hs 10 rfl
 have e11 : v 11 = if v 9 ≠ 0 then v 10 else (0 : Int) := satF hs 11 rfl
 have e12 : v 12 = if v 8 ≠ 0 then v 11 else (0 : Int) := satF hs 12 rfl
 have e13 : v 13 = b2i (decide (v 2 ≤ v 3)) := satF hs 13 rfl
 have e14 : v 14 = b2i (decide (v 2 ≥ (-1099511627776 : Int))) := satF hs 14 rfl
 have e15 : v 15 = b2i (decide (v 2 ≤ (1099511627776 : Int))) := satF hs 15 rfl
 have e16 : v 16 = if v 14 ≠ 0 then v 15 else (0 : Int) := satF hs 16 rfl
 have e17 : v 17 = if v 13 ≠ 0 then v 16 else (0 : Int) := satF hs 17 rfl
 have e18 : v 18 = b2i (decide (v 3 ≥ (-1099511627776 : Int))) := satF hs 18 rfl
 have e19 : v 19 = b2i (decide (v 3 ≤ (1099511627776 : Int))) := satF hs 19 rfl
 have e20 : v 20 = if v 18 ≠ 0 then v 19 else (0 : Int) := satF hs 20 rfl
 have e21 : v 21 = if v 17 ≠ 0 then v 20 else (0 : Int) := satF hs 21 rfl
 have e22 : v 22 = b2i (decide (v 2 ≥ (0 : Int))) := satF hs 22 rfl
 have e23 : v 23 = if v 21 ≠ 0 then v 22 else (0 : Int) := satF hs 23 rfl
 have e24 : v 24 = b2i (decide (v 3 ≤ (200000 : Int))) := satF hs 24 rfl
 have e25 : v 25 = if v 23 ≠ 0 then v 24 else (0 : Int) := satF hs 25 rfl
 have e26 : v 26 = if v 12 ≠ 0 then v 25 else (0 : Int) := satF hs 26 rfl
 have Q12 : v 12 = b2i (arcV (v 0) (v 1)) := by rw [e12, e8, e4, e7, e5, e6, e11, e9, e10]; exact arc_prog _ _
 have Q21 : v 21 = b2i (arcV (v 2) (v 3)) := by rw [e21, e17, e13, e16, e14, e15, e20, e18, e19]; exact arc_prog _ _
 have Q25 : v 25 = b2i (decide (0 ≤ v 2 ∧ v 2 ≤ v 3 ∧ v 3 ≤ 200000)) := by
  rw [e25, e23, Q21, e22, e24, ab, bb]
  exact congrArg b2i (decide_eq_decide.2 (by rw [arcV_iff]; omega))
 refine ⟨vcs_rev vcs_nil, ?_⟩
 intro x hx
 have hx' : x = .bool (decide (v 26 ≠ 0)) := hx
 rw [hx', e26, Q12, Q25, ab, e0, e1, e2, e3]
def nd_rMot : List Nd := [
 .arg 0,
 .arg 1,
 .arg 2,
 .arg 3,
 .bin .leq .i64 (.n 2) (.n 3),
 .bin .geq .i64 (.n 2) (.c 0),
 .ite (.n 4) (.n 5) (.c 0),
 .bin .leq .i64 (.n 3) (.c 200000),
 .ite (.n 6) (.n 7) (.c 0),
 .bin .leq .i64 (.n 0) (.n 1),
 .bin .geq .i64 (.n 0) (.c (-1099511627776)),
 .ite (.n 9) (.n 10) (.c 0),
 .bin .leq .i64 (.n 1) (.c 1099511627776),
 .ite (.n 11) (.n 12) (.c 0),
 .ite (.n 8) (.n 13) (.c 0)]
def vc_rMot : List Vc := [
 ]
theorem wh_rMot : whole Tryz.prog [] 20 40 174 [(true, [some .i64, some .i64, some .i64, some .i64])] = some (.p (.c (.bool (.n 14))), ⟨nd_rMot.reverse, vc_rMot.reverse⟩) := by kernel_rfl
theorem wf_rMot : wfN nd_rMot.reverse = true := by kernel_rfl
set_option maxRecDepth 100000 in
theorem c_rMotion (a b l h : Int) (w : World)  : Calls Tryz.prog 174 #[.agg #[.int .i64 a, .int .i64 b, .int .i64 l, .int .i64 h]] w fun e w' => e = .returned (.bool (decide (b2i (decide (MV a b l h)) ≠ 0))) ∧ Below w.heap.size w w' := by
 refine Sx.calls (X := cxC [a, b, l, h]) hmix (sp0_ok _) wh_rMot wf_rMot (fun v hs => ?_) w
 have e0 : v 0 = a := satF hs 0 rfl
 have e1 : v 1 = b := satF hs 1 rfl
 have e2 : v 2 = l := satF hs 2 rfl
 have e3 : v 3 = h := satF hs 3 rfl
 have e4 : v 4 = b2i (decide (v 2 ≤ v 3)) := satF hs 4 rfl
 have e5 : v 5 = b2i (decide (v 2 ≥ (0 : Int))) := satF hs 5 rfl
 have e6 : v 6 = if v 4 ≠ 0 then v 5 else (0 : Int) := satF hs 6 rfl
 have e7 : v 7 = b2i (decide (v 3 ≤ (200000 : Int))) := satF hs 7 rfl
 have e8 : v 8 = if v 6 ≠ 0 then v 7 else (0 : Int) := satF hs 8 rfl
 have e9 : v 9 = b2i (decide (v 0 ≤ v 1)) := satF hs 9 rfl
 have e10 : v 10 = b2i (decide (v 0 ≥ (-1099511627776 : Int))) := satF hs 10 rfl
 have e11 : v 11 = if v 9 ≠ 0 then v 10 else (0 : Int) := satF hs 11 rfl
 have e12 : v 12 = b2i (decide (v 1 ≤ (1099511627776 : Int))) := satF hs 12 rfl
 have e13 : v 13 = if v 11 ≠ 0 then v 12 else (0 : Int) := satF hs 13 rfl
 have e14 : v 14 = if v 8 ≠ 0 then v 13 else (0 : Int) := satF hs 14 rfl
 have Q8 : v 8 = b2i (decide (0 ≤ v 2 ∧ v 2 ≤ v 3 ∧ v 3 ≤ 200000)) := by
  rw [e8, e6, e4, e5, e7, bb, bb]
  exact congrArg b2i (decide_eq_decide.2 (by omega))
 have Q13 : v 13 = b2i (arcV (v 0) (v 1)) := by rw [e13, e11, e9, e10, e12]; exact arc_ref _ _
 refine ⟨vcs_rev vcs_nil, ?_⟩
 intro x hx
 have hx' : x = .bool (decide (v 14 ≠ 0)) := hx
 rw [hx', e14, Q8, Q13, ba, e0, e1, e2, e3]
def nd_rDri : List Nd := [
 .arg 0,
 .arg 1,
 .arg 2,
 .arg 3,
 .bin .leq .i64 (.n 2) (.n 3),
 .bin .geq .i64 (.n 2) (.c 0),
 .ite (.n 4) (.n 5) (.c 0),
 .bin .leq .i64 (.n 3) (.c 200000),
 .ite (.n 6) (.n 7) (.c 0),
 .bin .leq .i64 (.n 0) (.n 1),
 .bin .geq .i64 (.n 0) (.c (-1099511627776)),
 .ite (.n 9) (.n 10) (.c 0),
 .bin .leq .i64 (.n 1) (.c 1099511627776),
 .ite (.n 11) (.n 12) (.c 0),
 .ite (.n 8) (.n 13) (.c 0)]
def vc_rDri : List Vc := [
 ]
theorem wh_rDri : whole Tryz.prog [] 20 40 168 [(true, [some .i64, some .i64, some .i64, some .i64])] = some (.p (.c (.bool (.n 14))), ⟨nd_rDri.reverse, vc_rDri.reverse⟩) := by kernel_rfl
theorem wf_rDri : wfN nd_rDri.reverse = true := by kernel_rfl
set_option maxRecDepth 100000 in
theorem c_rDrift (a b l h : Int) (w : World)  : Calls Tryz.prog 168 #[.agg #[.int .i64 a, .int .i64 b, .int .i64 l, .int .i64 h]] w fun e w' => e = .returned (.bool (decide (b2i (decide (MV a b l h)) ≠ 0))) ∧ Below w.heap.size w w' := by
 refine Sx.calls (X := cxC [a, b, l, h]) hmix (sp0_ok _) wh_rDri wf_rDri (fun v hs => ?_) w
 have e0 : v 0 = a := satF hs 0 rfl
 have e1 : v 1 = b := satF hs 1 rfl
 have e2 : v 2 = l := satF hs 2 rfl
 have e3 : v 3 = h := satF hs 3 rfl
 have e4 : v 4 = b2i (decide (v 2 ≤ v 3)) := satF hs 4 rfl
 have e5 : v 5 = b2i (decide (v 2 ≥ (0 : Int))) := satF hs 5 rfl
 have e6 : v 6 = if v 4 ≠ 0 then v 5 else (0 : Int) := satF hs 6 rfl
 have e7 : v 7 = b2i (decide (v 3 ≤ (200000 : Int))) := satF hs 7 rfl
 have e8 : v 8 = if v 6 ≠ 0 then v 7 else (0 : Int) := satF hs 8 rfl
 have e9 : v 9 = b2i (decide (v 0 ≤ v 1)) := satF hs 9 rfl
 have e10 : v 10 = b2i (decide (v 0 ≥ (-1099511627776 : Int))) := satF hs 10 rfl
 have e11 : v 11 = if v 9 ≠ 0 then v 10 else (0 : Int) := satF hs 11 rfl
 have e12 : v 12 = b2i (decide (v 1 ≤ (1099511627776 : Int))) := satF hs 12 rfl
 have e13 : v 13 = if v 11 ≠ 0 then v 12 else (0 : Int) := satF hs 13 rfl
 have e14 : v 14 = if v 8 ≠ 0 then v 13 else (0 : Int) := satF hs 14 rfl
 have Q8 : v 8 = b2i (decide (0 ≤ v 2 ∧ v 2 ≤ v 3 ∧ v 3 ≤ 200000)) := by
  rw [e8, e6, e4, e5, e7, bb, bb]
  exact congrArg b2i (decide_eq_decide.2 (by omega))
 have Q13 : v 13 = b2i (arcV (v 0) (v 1)) := by rw [e13, e11, e9, e10, e12]; exact arc_ref _ _
 refine ⟨vcs_rev vcs_nil, ?_⟩
 intro x hx
 have hx' : x = .bool (decide (v 14 ≠ 0)) := hx
 rw [hx', e14, Q8, Q13, ba, e0, e1, e2, e3]
def nd_pSpeed : List Nd := [
 .arg 0,
 .arg 1,
 .bin .leq .i64 (.n 0) (.n 1),
 .bin .geq .i64 (.n 0) (.c (-1099511627776)),
 .bin .leq .i64 (.n 0) (.c 1099511627776),
 .ite (.n 3) (.n 4) (.c 0),
 .ite (.n 2) (.n 5) (.c 0),
 .bin .geq .i64 (.n 1) (.c (-1099511627776)),
 .bin .leq .i64 (.n 1) (.c 1099511627776),
 .ite (.n 7) (.n 8) (.c 0),
 .ite (.n 6) (.n 9) (.c 0),
 .bin .geq .i64 (.n 0) (.c 0),
 .ite (.n 10) (.n 11) (.c 0),
 .bin .leq .i64 (.n 1) (.c 200000),
 .ite (.n 12) (.n 13) (.c 0)]
def vc_pSpeed : List Vc := [
 ]
theorem wh_pSpeed : whole Tryz.prog [] 20 40 281 [(true, [some .i64, some .i64])] = some (.p (.c (.bool (.n 14))), ⟨nd_pSpeed.reverse, vc_pSpeed.reverse⟩) := by kernel_rfl
theorem wf_pSpeed : wfN nd_pSpeed.reverse = true := by kernel_rfl
set_option maxRecDepth 100000 in
theorem c_speed (a b : Int) (w : World)  : Calls Tryz.prog 281 #[.agg #[.int .i64 a, .int .i64 b]] w fun e w' => e = .returned (.bool (decide (b2i (decide (0 ≤ a ∧ a ≤ b ∧ b ≤ 200000)) ≠ 0))) ∧ Below w.heap.size w w' := by
 refine Sx.calls (X := cxC [a, b]) hmix (sp0_ok _) wh_pSpeed wf_pSpeed (fun v hs => ?_) w
 have e0 : v 0 = a := satF hs 0 rfl
 have e1 : v 1 = b := satF hs 1 rfl
 have e2 : v 2 = b2i (decide (v 0 ≤ v 1)) := satF hs 2 rfl
 have e3 : v 3 = b2i (decide (v 0 ≥ (-1099511627776 : Int))) := satF hs 3 rfl
 have e4 : v 4 = b2i (decide (v 0 ≤ (1099511627776 : Int))) := satF hs 4 rfl
 have e5 : v 5 = if v 3 ≠ 0 then v 4 else (0 : Int) := satF hs 5 rfl
 have e6 : v 6 = if v 2 ≠ 0 then v 5 else (0 : Int) := satF hs 6 rfl
 have e7 : v 7 = b2i (decide (v 1 ≥ (-1099511627776 : Int))) := satF hs 7 rfl
 have e8 : v 8 = b2i (decide (v 1 ≤ (1099511627776 : Int))) := satF hs 8 rfl
 have e9 : v 9 = if v 7 ≠ 0 then v 8 else (0 : Int) := satF hs 9 rfl
 have e10 : v 10 = if v 6 ≠ 0 then v 9 else (0 : Int) := satF hs 10 rfl
 have e11 : v 11 = b2i (decide (v 0 ≥ (0 : Int))) := satF hs 11 rfl
 have e12 : v 12 = if v 10 ≠ 0 then v 11 else (0 : Int) := satF hs 12 rfl
 have e13 : v 13 = b2i (decide (v 1 ≤ (200000 : Int))) := satF hs 13 rfl
 have e14 : v 14 = if v 12 ≠ 0 then v 13 else (0 : Int) := satF hs 14 rfl
 have Q10 : v 10 = b2i (arcV (v 0) (v 1)) := by rw [e10, e6, e2, e5, e3, e4, e9, e7, e8]; exact arc_prog _ _
 have Q14 : v 14 = b2i (decide (0 ≤ v 0 ∧ v 0 ≤ v 1 ∧ v 1 ≤ 200000)) := by
  rw [e14, e12, Q10, e11, e13, ab, bb]
  exact congrArg b2i (decide_eq_decide.2 (by rw [arcV_iff]; omega))
 refine ⟨vcs_rev vcs_nil, ?_⟩
 intro x hx
 have hx' : x = .bool (decide (v 14 ≠ 0)) := hx
 rw [hx', Q14, e0, e1]
def nd_rSpeed : List Nd := [
 .arg 0,
 .arg 1,
 .bin .leq .i64 (.n 0) (.n 1),
 .bin .geq .i64 (.n 0) (.c 0),
 .ite (.n 2) (.n 3) (.c 0),
 .bin .leq .i64 (.n 1) (.c 200000),
 .ite (.n 4) (.n 5) (.c 0)]
def vc_rSpeed : List Vc := [
 ]
theorem wh_rSpeed : whole Tryz.prog [] 20 40 167 [(true, [some .i64, some .i64])] = some (.p (.c (.bool (.n 6))), ⟨nd_rSpeed.reverse, vc_rSpeed.reverse⟩) := by kernel_rfl
theorem wf_rSpeed : wfN nd_rSpeed.reverse = true := by kernel_rfl
set_option maxRecDepth 100000 in
theorem c_rSpeed (a b : Int) (w : World)  : Calls Tryz.prog 167 #[.agg #[.int .i64 a, .int .i64 b]] w fun e w' => e = .returned (.bool (decide (b2i (decide (0 ≤ a ∧ a ≤ b ∧ b ≤ 200000)) ≠ 0))) ∧ Below w.heap.size w w' := by
 refine Sx.calls (X := cxC [a, b]) hmix (sp0_ok _) wh_rSpeed wf_rSpeed (fun v hs => ?_) w
 have e0 : v 0 = a := satF hs 0 rfl
 have e1 : v 1 = b := satF hs 1 rfl
 have e2 : v 2 = b2i (decide (v 0 ≤ v 1)) := satF hs 2 rfl
 have e3 : v 3 = b2i (decide (v 0 ≥ (0 : Int))) := satF hs 3 rfl
 have e4 : v 4 = if v 2 ≠ 0 then v 3 else (0 : Int) := satF hs 4 rfl
 have e5 : v 5 = b2i (decide (v 1 ≤ (200000 : Int))) := satF hs 5 rfl
 have e6 : v 6 = if v 4 ≠ 0 then v 5 else (0 : Int) := satF hs 6 rfl
 have Q6 : v 6 = b2i (decide (0 ≤ v 0 ∧ v 0 ≤ v 1 ∧ v 1 ≤ 200000)) := by
  rw [e6, e4, e2, e3, e5, bb, bb]
  exact congrArg b2i (decide_eq_decide.2 (by omega))
 refine ⟨vcs_rev vcs_nil, ?_⟩
 intro x hx
 have hx' : x = .bool (decide (v 6 ≠ 0)) := hx
 rw [hx', Q6, e0, e1]
def nd_pAdd : List Nd := [
 .arg 0,
 .arg 1,
 .arg 2,
 .arg 3,
 .bin .leq .i64 (.n 0) (.n 1),
 .bin .geq .i64 (.n 0) (.c (-1099511627776)),
 .bin .leq .i64 (.n 0) (.c 1099511627776),
 .ite (.n 5) (.n 6) (.c 0),
 .ite (.n 4) (.n 7) (.c 0),
 .bin .geq .i64 (.n 1) (.c (-1099511627776)),
 .bin .leq .i64 (.n 1) (.c 1099511627776),
 .ite (.n 9) (.n 10) (.c 0),
 .ite (.n 8) (.n 11) (.c 0),
 .ite (.n 12) (.c 0) (.c 1),
 .bin .leq .i64 (.n 2) (.n 3),
 .bin .geq .i64 (.n 2) (.c (-1099511627776)),
 .bin .leq .i64 (.n 2) (.c 1099511627776),
 .ite (.n 15) (.n 16) (.c 0),
 .ite (.n 14) (.n 17) (.c 0),
 .bin .geq .i64 (.n 3) (.c (-1099511627776)),
 .bin .leq .i64 (.n 3) (.c 1099511627776),
 .ite (.n 19) (.n 20) (.c 0),
 .ite (.n 18) (.n 21) (.c 0),
 .ite (.n 22) (.c 0) (.c 1),
 .ite (.n 13) (.c 1) (.n 23),
 .ite (.n 24) (.c 0) (.c 1),
 .bin .add .i64 (.n 0) (.n 2),
 .bin .add .i64 (.n 1) (.n 3),
 .bin .geq .i64 (.n 26) (.c (-1099511627776)),
 .bin .leq .i64 (.n 26) (.c 1099511627776),
 .ite (.n 28) (.n 29) (.c 0),
 .ite (.n 30) (.c 0) (.c 1),
 .bin .geq .i64 (.n 27) (.c (-1099511627776)),
 .bin .leq .i64 (.n 27) (.c 1099511627776),
 .ite (.n 32) (.n 33) (.c 0),
 .ite (.n 34) (.c 0) (.c 1),
 .ite (.n 31) (.c 1) (.n 35),
 .ite (.n 36) (.c 0) (.c 1),
 .ite (.n 36) (.c 5) (.c 0),
 .ite (.n 36) (.c 0) (.n 26),
 .ite (.n 36) (.c 0) (.n 27),
 .ite (.n 24) (.c 1) (.n 38),
 .ite (.n 24) (.c 0) (.n 39),
 .ite (.n 24) (.c 0) (.n 40)]
def vc_pAdd : List Vc := [
 ]
theorem wh_pAdd : whole Tryz.prog [] 20 40 173 [(true, [some .i64, some .i64]), (true, [some .i64, some .i64])] = some (.tup [.agg [.int .i64 (.n 42), .int .i64 (.n 43)], .c (.int .i64 (.n 41))], ⟨nd_pAdd.reverse, vc_pAdd.reverse⟩) := by kernel_rfl
theorem wf_pAdd : wfN nd_pAdd.reverse = true := by kernel_rfl
set_option maxRecDepth 100000 in
theorem c_aAdd (a b l h : Int) (w : World) (h1 : -200000000 ≤ a ∧ a ≤ b ∧ b ≤ 200000000) (h2 : -200000000 ≤ l ∧ l ≤ h ∧ h ≤ 200000000) : Calls Tryz.prog 173 #[.agg #[.int .i64 a, .int .i64 b], .agg #[.int .i64 l, .int .i64 h]] w fun e w' => e = .returned (.tuple #[.agg #[.int .i64 (a + l), .int .i64 (b + h)], .int .i64 0]) ∧ Below w.heap.size w w' := by
 refine Sx.calls (X := cxC [a, b, l, h]) hmix (sp0_ok _) wh_pAdd wf_pAdd (fun v hs => ?_) w
 have e0 : v 0 = a := satF hs 0 rfl
 have e1 : v 1 = b := satF hs 1 rfl
 have e2 : v 2 = l := satF hs 2 rfl
 have e3 : v 3 = h := satF hs 3 rfl
 have e4 : v 4 = b2i (decide (v 0 ≤ v 1)) := satF hs 4 rfl
 have e5 : v 5 = b2i (decide (v 0 ≥ (-1099511627776 : Int))) := satF hs 5 rfl
 have e6 : v 6 = b2i (decide (v 0 ≤ (1099511627776 : Int))) := satF hs 6 rfl
 have e7 : v 7 = if v 5 ≠ 0 then v 6 else (0 : Int) := satF hs 7 rfl
 have e8 : v 8 = if v 4 ≠ 0 then v 7 else (0 : Int) := satF hs 8 rfl
 have e9 : v 9 = b2i (decide (v 1 ≥ (-1099511627776 : Int))) := satF hs 9 rfl
 have e10 : v 10 = b2i (decide (v 1 ≤ (1099511627776 : Int))) := satF hs 10 rfl
 have e11 : v 11 = if v 9 ≠ 0 then v 10 else (0 : Int) := satF hs 11 rfl
 have e12 : v 12 = if v 8 ≠ 0 then v 11 else (0 : Int) := satF hs 12 rfl
 have e14 : v 14 = b2i (decide (v 2 ≤ v 3)) := satF hs 14 rfl
 have e15 : v 15 = b2i (decide (v 2 ≥ (-1099511627776 : Int))) := satF hs 15 rfl
 have e16 : v 16 = b2i (decide (v 2 ≤ (1099511627776 : Int))) := satF hs 16 rfl
 have e17 : v 17 = if v 15 ≠ 0 then v 16 else (0 : Int) := satF hs 17 rfl
 have e18 : v 18 = if v 14 ≠ 0 then v 17 else (0 : Int) := satF hs 18 rfl
 have e19 : v 19 = b2i (decide (v 3 ≥ (-1099511627776 : Int))) := satF hs 19 rfl
 have e20 : v 20 = b2i (decide (v 3 ≤ (1099511627776 : Int))) := satF hs 20 rfl
 have e21 : v 21 = if v 19 ≠ 0 then v 20 else (0 : Int) := satF hs 21 rfl
 have e22 : v 22 = if v 18 ≠ 0 then v 21 else (0 : Int) := satF hs 22 rfl
 have e26 : v 26 = IntKind.i64.wrap (v 0 + v 2) := satF hs 26 rfl
 have e27 : v 27 = IntKind.i64.wrap (v 1 + v 3) := satF hs 27 rfl
 have e28 : v 28 = b2i (decide (v 26 ≥ (-1099511627776 : Int))) := satF hs 28 rfl
 have e29 : v 29 = b2i (decide (v 26 ≤ (1099511627776 : Int))) := satF hs 29 rfl
 have e30 : v 30 = if v 28 ≠ 0 then v 29 else (0 : Int) := satF hs 30 rfl
 have e32 : v 32 = b2i (decide (v 27 ≥ (-1099511627776 : Int))) := satF hs 32 rfl
 have e33 : v 33 = b2i (decide (v 27 ≤ (1099511627776 : Int))) := satF hs 33 rfl
 have e34 : v 34 = if v 32 ≠ 0 then v 33 else (0 : Int) := satF hs 34 rfl
 have Q12 : v 12 = b2i (arcV (v 0) (v 1)) := by rw [e12, e8, e4, e7, e5, e6, e11, e9, e10]; exact arc_prog _ _
 have Q22 : v 22 = b2i (arcV (v 2) (v 3)) := by rw [e22, e18, e14, e17, e15, e16, e21, e19, e20]; exact arc_prog _ _
 have w26 : v 26 = a + l := by rw [e26, e0, e2, IntWalk.i64_in _ (by omega)]
 have w27 : v 27 = b + h := by rw [e27, e1, e3, IntWalk.i64_in _ (by omega)]
 have k12 : v 12 = 1 := Q12.trans (arc1 (by omega))
 have k22 : v 22 = 1 := Q22.trans (arc1 (by omega))
 have k30 : v 30 = 1 := in1 e28 e29 e30 (by omega)
 have k34 : v 34 = 1 := in1 e32 e33 e34 (by omega)
 have z41 : v 41 = 0 := norm_val (X := cxC [a, b, l, h]) (v := v) (l := nd_pAdd) (extCur_ok _) hs (k := 41) (r := .c 0) (ps := [(12, .c 1), (22, .c 1), (30, .c 1), (34, .c 1)]) (nz := []) (ps_cons k12 (ps_cons k22 (ps_cons k30 (ps_cons k34 ps_nil)))) nz_nil (by kernel_rfl)
 have z42 : v 42 = v 26 := norm_eq (X := cxC [a, b, l, h]) (v := v) (l := nd_pAdd) (extCur_ok _) hs (k := 42) (j := 26) (ps := [(12, .c 1), (22, .c 1), (30, .c 1), (34, .c 1)]) (ps_cons k12 (ps_cons k22 (ps_cons k30 (ps_cons k34 ps_nil)))) (by kernel_rfl)
 have z43 : v 43 = v 27 := norm_eq (X := cxC [a, b, l, h]) (v := v) (l := nd_pAdd) (extCur_ok _) hs (k := 43) (j := 27) (ps := [(12, .c 1), (22, .c 1), (30, .c 1), (34, .c 1)]) (ps_cons k12 (ps_cons k22 (ps_cons k30 (ps_cons k34 ps_nil)))) (by kernel_rfl)
 refine ⟨vcs_rev vcs_nil, ?_⟩
 intro x hx0
 have hx' := valV_of (v := v) (by rfl) hx0
 rw [hx']
 show Value.tuple #[.agg #[.int .i64 (v 42), .int .i64 (v 43)], .int .i64 (v 41)] = _
 rw [z41, z42, z43, w26, w27]
def nd_pSub : List Nd := [
 .arg 0,
 .arg 1,
 .arg 2,
 .arg 3,
 .bin .leq .i64 (.n 2) (.n 3),
 .bin .geq .i64 (.n 2) (.c (-1099511627776)),
 .bin .leq .i64 (.n 2) (.c 1099511627776),
 .ite (.n 5) (.n 6) (.c 0),
 .ite (.n 4) (.n 7) (.c 0),
 .bin .geq .i64 (.n 3) (.c (-1099511627776)),
 .bin .leq .i64 (.n 3) (.c 1099511627776),
 .ite (.n 9) (.n 10) (.c 0),
 .ite (.n 8) (.n 11) (.c 0),
 .ite (.n 12) (.c 0) (.c 1),
 .bin .sub .i64 (.c 0) (.n 3),
 .bin .sub .i64 (.c 0) (.n 2),
 .bin .geq .i64 (.n 14) (.c (-1099511627776)),
 .bin .leq .i64 (.n 14) (.c 1099511627776),
 .ite (.n 16) (.n 17) (.c 0),
 .ite (.n 18) (.c 0) (.c 1),
 .bin .geq .i64 (.n 15) (.c (-1099511627776)),
 .bin .leq .i64 (.n 15) (.c 1099511627776),
 .ite (.n 20) (.n 21) (.c 0),
 .ite (.n 22) (.c 0) (.c 1),
 .ite (.n 19) (.c 1) (.n 23),
 .ite (.n 24) (.c 0) (.c 1),
 .ite (.n 24) (.c 5) (.c 0),
 .ite (.n 24) (.c 0) (.n 14),
 .ite (.n 24) (.c 0) (.n 15),
 .ite (.n 13) (.c 1) (.n 26),
 .ite (.n 13) (.c 0) (.n 27),
 .ite (.n 13) (.c 0) (.n 28),
 .bin .neq .i64 (.n 29) (.c 0),
 .ite (.n 32) (.c 0) (.c 1),
 .bin .leq .i64 (.n 0) (.n 1),
 .bin .geq .i64 (.n 0) (.c (-1099511627776)),
 .bin .leq .i64 (.n 0) (.c 1099511627776),
 .ite (.n 35) (.n 36) (.c 0),
 .ite (.n 34) (.n 37) (.c 0),
 .bin .geq .i64 (.n 1) (.c (-1099511627776)),
 .bin .leq .i64 (.n 1) (.c 1099511627776),
 .ite (.n 39) (.n 40) (.c 0),
 .ite (.n 38) (.n 41) (.c 0),
 .ite (.n 42) (.c 0) (.c 1),
 .bin .leq .i64 (.n 30) (.n 31),
 .bin .geq .i64 (.n 30) (.c (-1099511627776)),
 .bin .leq .i64 (.n 30) (.c 1099511627776),
 .ite (.n 45) (.n 46) (.c 0),
 .ite (.n 44) (.n 47) (.c 0),
 .bin .geq .i64 (.n 31) (.c (-1099511627776)),
 .bin .leq .i64 (.n 31) (.c 1099511627776),
 .ite (.n 49) (.n 50) (.c 0),
 .ite (.n 48) (.n 51) (.c 0),
 .ite (.n 52) (.c 0) (.c 1),
 .ite (.n 43) (.c 1) (.n 53),
 .ite (.n 54) (.c 0) (.c 1),
 .bin .add .i64 (.n 0) (.n 30),
 .bin .add .i64 (.n 1) (.n 31),
 .bin .geq .i64 (.n 56) (.c (-1099511627776)),
 .bin .leq .i64 (.n 56) (.c 1099511627776),
 .ite (.n 58) (.n 59) (.c 0),
 .ite (.n 60) (.c 0) (.c 1),
 .bin .geq .i64 (.n 57) (.c (-1099511627776)),
 .bin .leq .i64 (.n 57) (.c 1099511627776),
 .ite (.n 62) (.n 63) (.c 0),
 .ite (.n 64) (.c 0) (.c 1),
 .ite (.n 61) (.c 1) (.n 65),
 .ite (.n 66) (.c 0) (.c 1),
 .ite (.n 66) (.c 5) (.c 0),
 .ite (.n 66) (.c 0) (.n 56),
 .ite (.n 66) (.c 0) (.n 57),
 .ite (.n 54) (.c 1) (.n 68),
 .ite (.n 54) (.c 0) (.n 69),
 .ite (.n 54) (.c 0) (.n 70),
 .ite (.n 32) (.n 29) (.n 71),
 .ite (.n 32) (.n 30) (.n 72),
 .ite (.n 32) (.n 31) (.n 73)]
def vc_pSub : List Vc := [
 ]
theorem wh_pSub : whole Tryz.prog [] 20 40 143 [(true, [some .i64, some .i64]), (true, [some .i64, some .i64])] = some (.tup [.agg [.int .i64 (.n 75), .int .i64 (.n 76)], .c (.int .i64 (.n 74))], ⟨nd_pSub.reverse, vc_pSub.reverse⟩) := by kernel_rfl
theorem wf_pSub : wfN nd_pSub.reverse = true := by kernel_rfl
set_option maxRecDepth 100000 in
theorem c_aSub (a b l h : Int) (w : World) (h1 : -200000000 ≤ a ∧ a ≤ b ∧ b ≤ 200000000) (h2 : -200000000 ≤ l ∧ l ≤ h ∧ h ≤ 200000000) : Calls Tryz.prog 143 #[.agg #[.int .i64 a, .int .i64 b], .agg #[.int .i64 l, .int .i64 h]] w fun e w' => e = .returned (.tuple #[.agg #[.int .i64 (a - h), .int .i64 (b - l)], .int .i64 0]) ∧ Below w.heap.size w w' := by
 refine Sx.calls (X := cxC [a, b, l, h]) hmix (sp0_ok _) wh_pSub wf_pSub (fun v hs => ?_) w
 have e0 : v 0 = a := satF hs 0 rfl
 have e1 : v 1 = b := satF hs 1 rfl
 have e2 : v 2 = l := satF hs 2 rfl
 have e3 : v 3 = h := satF hs 3 rfl
 have e4 : v 4 = b2i (decide (v 2 ≤ v 3)) := satF hs 4 rfl
 have e5 : v 5 = b2i (decide (v 2 ≥ (-1099511627776 : Int))) := satF hs 5 rfl
 have e6 : v 6 = b2i (decide (v 2 ≤ (1099511627776 : Int))) := satF hs 6 rfl
 have e7 : v 7 = if v 5 ≠ 0 then v 6 else (0 : Int) := satF hs 7 rfl
 have e8 : v 8 = if v 4 ≠ 0 then v 7 else (0 : Int) := satF hs 8 rfl
 have e9 : v 9 = b2i (decide (v 3 ≥ (-1099511627776 : Int))) := satF hs 9 rfl
 have e10 : v 10 = b2i (decide (v 3 ≤ (1099511627776 : Int))) := satF hs 10 rfl
 have e11 : v 11 = if v 9 ≠ 0 then v 10 else (0 : Int) := satF hs 11 rfl
 have e12 : v 12 = if v 8 ≠ 0 then v 11 else (0 : Int) := satF hs 12 rfl
 have e14 : v 14 = IntKind.i64.wrap ((0 : Int) - v 3) := satF hs 14 rfl
 have e15 : v 15 = IntKind.i64.wrap ((0 : Int) - v 2) := satF hs 15 rfl
 have e16 : v 16 = b2i (decide (v 14 ≥ (-1099511627776 : Int))) := satF hs 16 rfl
 have e17 : v 17 = b2i (decide (v 14 ≤ (1099511627776 : Int))) := satF hs 17 rfl
 have e18 : v 18 = if v 16 ≠ 0 then v 17 else (0 : Int) := satF hs 18 rfl
 have e20 : v 20 = b2i (decide (v 15 ≥ (-1099511627776 : Int))) := satF hs 20 rfl
 have e21 : v 21 = b2i (decide (v 15 ≤ (1099511627776 : Int))) := satF hs 21 rfl
 have e22 : v 22 = if v 20 ≠ 0 then v 21 else (0 : Int) := satF hs 22 rfl
 have e34 : v 34 = b2i (decide (v 0 ≤ v 1)) := satF hs 34 rfl
 have e35 : v 35 = b2i (decide (v 0 ≥ (-1099511627776 : Int))) := satF hs 35 rfl
 have e36 : v 36 = b2i (decide (v 0 ≤ (1099511627776 : Int))) := satF hs 36 rfl
 have e37 : v 37 = if v 35 ≠ 0 then v 36 else (0 : Int) := satF hs 37 rfl
 have e38 : v 38 = if v 34 ≠ 0 then v 37 else (0 : Int) := satF hs 38 rfl
 have e39 : v 39 = b2i (decide (v 1 ≥ (-1099511627776 : Int))) := satF hs 39 rfl
 have e40 : v 40 = b2i (decide (v 1 ≤ (1099511627776 : Int))) := satF hs 40 rfl
 have e41 : v 41 = if v 39 ≠ 0 then v 40 else (0 : Int) := satF hs 41 rfl
 have e42 : v 42 = if v 38 ≠ 0 then v 41 else (0 : Int) := satF hs 42 rfl
 have e44 : v 44 = b2i (decide (v 30 ≤ v 31)) := satF hs 44 rfl
 have e45 : v 45 = b2i (decide (v 30 ≥ (-1099511627776 : Int))) := satF hs 45 rfl
 have e46 : v 46 = b2i (decide (v 30 ≤ (1099511627776 : Int))) := satF hs 46 rfl
 have e47 : v 47 = if v 45 ≠ 0 then v 46 else (0 : Int) := satF hs 47 rfl
 have e48 : v 48 = if v 44 ≠ 0 then v 47 else (0 : Int) := satF hs 48 rfl
 have e49 : v 49 = b2i (decide (v 31 ≥ (-1099511627776 : Int))) := satF hs 49 rfl
 have e50 : v 50 = b2i (decide (v 31 ≤ (1099511627776 : Int))) := satF hs 50 rfl
 have e51 : v 51 = if v 49 ≠ 0 then v 50 else (0 : Int) := satF hs 51 rfl
 have e52 : v 52 = if v 48 ≠ 0 then v 51 else (0 : Int) := satF hs 52 rfl
 have e56 : v 56 = IntKind.i64.wrap (v 0 + v 30) := satF hs 56 rfl
 have e57 : v 57 = IntKind.i64.wrap (v 1 + v 31) := satF hs 57 rfl
 have e58 : v 58 = b2i (decide (v 56 ≥ (-1099511627776 : Int))) := satF hs 58 rfl
 have e59 : v 59 = b2i (decide (v 56 ≤ (1099511627776 : Int))) := satF hs 59 rfl
 have e60 : v 60 = if v 58 ≠ 0 then v 59 else (0 : Int) := satF hs 60 rfl
 have e62 : v 62 = b2i (decide (v 57 ≥ (-1099511627776 : Int))) := satF hs 62 rfl
 have e63 : v 63 = b2i (decide (v 57 ≤ (1099511627776 : Int))) := satF hs 63 rfl
 have e64 : v 64 = if v 62 ≠ 0 then v 63 else (0 : Int) := satF hs 64 rfl
 have Q12 : v 12 = b2i (arcV (v 2) (v 3)) := by rw [e12, e8, e4, e7, e5, e6, e11, e9, e10]; exact arc_prog _ _
 have w14 : v 14 = -h := by rw [e14, e3, IntWalk.i64_in _ (by omega)]; omega
 have w15 : v 15 = -l := by rw [e15, e2, IntWalk.i64_in _ (by omega)]; omega
 have k12 : v 12 = 1 := Q12.trans (arc1 (by omega))
 have k18 : v 18 = 1 := in1 e16 e17 e18 (by omega)
 have k22 : v 22 = 1 := in1 e20 e21 e22 (by omega)
 have z30 : v 30 = v 14 := norm_eq (X := cxC [a, b, l, h]) (v := v) (l := nd_pSub) (extCur_ok _) hs (k := 30) (j := 14) (ps := [(12, .c 1), (18, .c 1), (22, .c 1)]) (ps_cons k12 (ps_cons k18 (ps_cons k22 ps_nil))) (by kernel_rfl)
 have z31 : v 31 = v 15 := norm_eq (X := cxC [a, b, l, h]) (v := v) (l := nd_pSub) (extCur_ok _) hs (k := 31) (j := 15) (ps := [(12, .c 1), (18, .c 1), (22, .c 1)]) (ps_cons k12 (ps_cons k18 (ps_cons k22 ps_nil))) (by kernel_rfl)
 have Q42 : v 42 = b2i (arcV (v 0) (v 1)) := by rw [e42, e38, e34, e37, e35, e36, e41, e39, e40]; exact arc_prog _ _
 have Q52 : v 52 = b2i (arcV (v 30) (v 31)) := by rw [e52, e48, e44, e47, e45, e46, e51, e49, e50]; exact arc_prog _ _
 have w56 : v 56 = a - h := by rw [e56, e0, z30, w14, IntWalk.i64_in _ (by omega)]; omega
 have w57 : v 57 = b - l := by rw [e57, e1, z31, w15, IntWalk.i64_in _ (by omega)]; omega
 have k42 : v 42 = 1 := Q42.trans (arc1 (by omega))
 have k52 : v 52 = 1 := Q52.trans (arc1 (by omega))
 have k60 : v 60 = 1 := in1 e58 e59 e60 (by omega)
 have k64 : v 64 = 1 := in1 e62 e63 e64 (by omega)
 have z74 : v 74 = 0 := norm_val (X := cxC [a, b, l, h]) (v := v) (l := nd_pSub) (extCur_ok _) hs (k := 74) (r := .c 0) (ps := [(12, .c 1), (18, .c 1), (22, .c 1), (42, .c 1), (52, .c 1), (60, .c 1), (64, .c 1)]) (nz := []) (ps_cons k12 (ps_cons k18 (ps_cons k22 (ps_cons k42 (ps_cons k52 (ps_cons k60 (ps_cons k64 ps_nil))))))) nz_nil (by kernel_rfl)
 have z75 : v 75 = v 56 := norm_eq (X := cxC [a, b, l, h]) (v := v) (l := nd_pSub) (extCur_ok _) hs (k := 75) (j := 56) (ps := [(12, .c 1), (18, .c 1), (22, .c 1), (42, .c 1), (52, .c 1), (60, .c 1), (64, .c 1)]) (ps_cons k12 (ps_cons k18 (ps_cons k22 (ps_cons k42 (ps_cons k52 (ps_cons k60 (ps_cons k64 ps_nil))))))) (by kernel_rfl)
 have z76 : v 76 = v 57 := norm_eq (X := cxC [a, b, l, h]) (v := v) (l := nd_pSub) (extCur_ok _) hs (k := 76) (j := 57) (ps := [(12, .c 1), (18, .c 1), (22, .c 1), (42, .c 1), (52, .c 1), (60, .c 1), (64, .c 1)]) (ps_cons k12 (ps_cons k18 (ps_cons k22 (ps_cons k42 (ps_cons k52 (ps_cons k60 (ps_cons k64 ps_nil))))))) (by kernel_rfl)
 refine ⟨vcs_rev vcs_nil, ?_⟩
 intro x hx0
 have hx' := valV_of (v := v) (by rfl) hx0
 rw [hx']
 show Value.tuple #[.agg #[.int .i64 (v 75), .int .i64 (v 76)], .int .i64 (v 74)] = _
 rw [z74, z75, z76, w56, w57]
def nd_rAdd : List Nd := [
 .arg 0,
 .arg 1,
 .arg 2,
 .arg 3,
 .bin .add .i64 (.n 0) (.n 2),
 .bin .add .i64 (.n 1) (.n 3)]
def vc_rAdd : List Vc := [
 ]
theorem wh_rAdd : whole Tryz.prog [] 20 40 156 [(true, [some .i64, some .i64]), (true, [some .i64, some .i64])] = some (.p (.agg [.int .i64 (.n 4), .int .i64 (.n 5)]), ⟨nd_rAdd.reverse, vc_rAdd.reverse⟩) := by kernel_rfl
theorem wf_rAdd : wfN nd_rAdd.reverse = true := by kernel_rfl
set_option maxRecDepth 100000 in
theorem c_rAdd5 (a b l h : Int) (w : World) (h1 : -200000000 ≤ a ∧ a ≤ b ∧ b ≤ 200000000) (h2 : -200000000 ≤ l ∧ l ≤ h ∧ h ≤ 200000000) : Calls Tryz.prog 156 #[.agg #[.int .i64 a, .int .i64 b], .agg #[.int .i64 l, .int .i64 h]] w fun e w' => e = .returned (.agg #[.int .i64 (a + l), .int .i64 (b + h)]) ∧ Below w.heap.size w w' := by
 refine Sx.calls (X := cxC [a, b, l, h]) hmix (sp0_ok _) wh_rAdd wf_rAdd (fun v hs => ?_) w
 have e0 : v 0 = a := satF hs 0 rfl
 have e1 : v 1 = b := satF hs 1 rfl
 have e2 : v 2 = l := satF hs 2 rfl
 have e3 : v 3 = h := satF hs 3 rfl
 have e4 : v 4 = IntKind.i64.wrap (v 0 + v 2) := satF hs 4 rfl
 have e5 : v 5 = IntKind.i64.wrap (v 1 + v 3) := satF hs 5 rfl
 have w4 : v 4 = a + l := by rw [e4, e0, e2, IntWalk.i64_in _ (by omega)]
 have w5 : v 5 = b + h := by rw [e5, e1, e3, IntWalk.i64_in _ (by omega)]
 refine ⟨vcs_rev vcs_nil, ?_⟩
 intro x hx0
 have hx' := valV_of (v := v) (by rfl) hx0
 rw [hx']
 show Value.agg #[.int .i64 (v 4), .int .i64 (v 5)] = _
 rw [w4, w5]
def nd_rSub : List Nd := [
 .arg 0,
 .arg 1,
 .arg 2,
 .arg 3,
 .bin .sub .i64 (.n 0) (.n 3),
 .bin .sub .i64 (.n 1) (.n 2)]
def vc_rSub : List Vc := [
 ]
theorem wh_rSub : whole Tryz.prog [] 20 40 160 [(true, [some .i64, some .i64]), (true, [some .i64, some .i64])] = some (.p (.agg [.int .i64 (.n 4), .int .i64 (.n 5)]), ⟨nd_rSub.reverse, vc_rSub.reverse⟩) := by kernel_rfl
theorem wf_rSub : wfN nd_rSub.reverse = true := by kernel_rfl
set_option maxRecDepth 100000 in
theorem c_rSub5 (a b l h : Int) (w : World) (h1 : -200000000 ≤ a ∧ a ≤ b ∧ b ≤ 200000000) (h2 : -200000000 ≤ l ∧ l ≤ h ∧ h ≤ 200000000) : Calls Tryz.prog 160 #[.agg #[.int .i64 a, .int .i64 b], .agg #[.int .i64 l, .int .i64 h]] w fun e w' => e = .returned (.agg #[.int .i64 (a - h), .int .i64 (b - l)]) ∧ Below w.heap.size w w' := by
 refine Sx.calls (X := cxC [a, b, l, h]) hmix (sp0_ok _) wh_rSub wf_rSub (fun v hs => ?_) w
 have e0 : v 0 = a := satF hs 0 rfl
 have e1 : v 1 = b := satF hs 1 rfl
 have e2 : v 2 = l := satF hs 2 rfl
 have e3 : v 3 = h := satF hs 3 rfl
 have e4 : v 4 = IntKind.i64.wrap (v 0 - v 3) := satF hs 4 rfl
 have e5 : v 5 = IntKind.i64.wrap (v 1 - v 2) := satF hs 5 rfl
 have w4 : v 4 = a - h := by rw [e4, e0, e3, IntWalk.i64_in _ (by omega)]
 have w5 : v 5 = b - l := by rw [e5, e1, e2, IntWalk.i64_in _ (by omega)]
 refine ⟨vcs_rev vcs_nil, ?_⟩
 intro x hx0
 have hx' := valV_of (v := v) (by rfl) hx0
 rw [hx']
 show Value.agg #[.int .i64 (v 4), .int .i64 (v 5)] = _
 rw [w4, w5]
def semD : Nat → List Int → List Int
 | 42, [a, b, l, h] => [b2i (decide (MV a b l h))]
 | 43, [a, b] => [b2i (decide (0 ≤ a ∧ a ≤ b ∧ b ≤ 200000))]
 | 44, [a, b, l, h] => [a + l, b + h, 0]
 | 45, [a, b, l, h] => [a - h, b - l, 0]
 | f, xs => semC f xs
def preD : Nat → List Int → Prop
 | 42, [_, _, _, _] => True
 | 43, [_, _] => True
 | 44, [a, b, l, h] => (-200000000 ≤ a ∧ a ≤ b ∧ b ≤ 200000000) ∧ (-200000000 ≤ l ∧ l ≤ h ∧ h ≤ 200000000)
 | 45, [a, b, l, h] => (-200000000 ≤ a ∧ a ≤ b ∧ b ≤ 200000000) ∧ (-200000000 ≤ l ∧ l ≤ h ∧ h ≤ 200000000)
 | 42, _ => False
 | 43, _ => False
 | 44, _ => False
 | 45, _ => False
 | f, xs => preC f xs
def cxD (args : List Int) : Cx := ⟨semD, preD, args⟩
theorem semD_low {f : Nat} (h : f ≠ 42 ∧ f ≠ 43 ∧ f ≠ 44 ∧ f ≠ 45) (xs : List Int) : semD f xs = semC f xs := by
 unfold semD
 split
 · exact absurd rfl h.1
 · exact absurd rfl h.2.1
 · exact absurd rfl h.2.2.1
 · exact absurd rfl h.2.2.2
 · rfl
theorem preD_low {f : Nat} (h : f ≠ 42 ∧ f ≠ 43 ∧ f ≠ 44 ∧ f ≠ 45) (xs : List Int) : preD f xs = preC f xs := by
 unfold preD
 split <;> first | exact absurd rfl h.1 | exact absurd rfl h.2.1 | exact absurd rfl h.2.2.1 | exact absurd rfl h.2.2.2 | rfl
theorem likeD (args : List Int) : Like (cxD args) := ⟨fun f xs h => (semD_low (by omega) xs).trans ((likeC args).sem f xs h), fun f xs h hp => by
 show preD f xs
 rw [preD_low (by omega)]; exact (likeC args).pre f xs h hp⟩
theorem specD {args : List Int} {s : Sx.Spec} (h : s.id ≠ 42 ∧ s.id ≠ 43 ∧ s.id ≠ 44 ∧ s.id ≠ 45) (H : SpecOK Tryz.prog (cxC args) s) : SpecOK Tryz.prog (cxD args) s := by
 obtain ⟨a, b⟩ := H
 refine ⟨a, fun xs hp w => ?_⟩
 have hp' : preC s.id xs := by
  have : preD s.id xs := hp
  rwa [preD_low h] at this
 have := b xs hp' w
 rw [show (cxD args).sem s.id xs = (cxC args).sem s.id xs from semD_low h xs]
 exact this
theorem preD42 {xs : List Int} (hp : preD 42 xs) : ∃ a b l h, xs = [a, b, l, h] := by
 match xs, hp with
 | [a, b, l, h], _ => exact ⟨a, b, l, h, rfl⟩
theorem preD43 {xs : List Int} (hp : preD 43 xs) : ∃ a b, xs = [a, b] := by
 match xs, hp with
 | [a, b], _ => exact ⟨a, b, rfl⟩
theorem preD44 {xs : List Int} (hp : preD 44 xs) : ∃ a b l h, xs = [a, b, l, h] ∧ (-200000000 ≤ a ∧ a ≤ b ∧ b ≤ 200000000) ∧ (-200000000 ≤ l ∧ l ≤ h ∧ h ≤ 200000000) := by
 match xs, hp with
 | [a, b, l, h], hp => exact ⟨a, b, l, h, rfl, hp⟩
theorem preD45 {xs : List Int} (hp : preD 45 xs) : ∃ a b l h, xs = [a, b, l, h] ∧ (-200000000 ≤ a ∧ a ≤ b ∧ b ≤ 200000000) ∧ (-200000000 ≤ l ∧ l ≤ h ∧ h ≤ 200000000) := by
 match xs, hp with
 | [a, b, l, h], hp => exact ⟨a, b, l, h, rfl, hp⟩
def qsMoves : Sx.Spec := ⟨162, 42, [(true, [some .i64, some .i64]), (true, [some .i64, some .i64])], [(false, [none])]⟩
def qrMotion : Sx.Spec := ⟨174, 42, [(true, [some .i64, some .i64, some .i64, some .i64])], [(false, [none])]⟩
def qrDrift : Sx.Spec := ⟨168, 42, [(true, [some .i64, some .i64, some .i64, some .i64])], [(false, [none])]⟩
def qsSpeed : Sx.Spec := ⟨281, 43, [(true, [some .i64, some .i64])], [(false, [none])]⟩
def qrSpeed : Sx.Spec := ⟨167, 43, [(true, [some .i64, some .i64])], [(false, [none])]⟩
def qsAdd : Sx.Spec := ⟨173, 44, [(true, [some .i64, some .i64]), (true, [some .i64, some .i64])], [(true, [some .i64, some .i64]), (false, [some .i64])]⟩
def qsSub : Sx.Spec := ⟨143, 45, [(true, [some .i64, some .i64]), (true, [some .i64, some .i64])], [(true, [some .i64, some .i64]), (false, [some .i64])]⟩
def qrAdd5 : Sx.Spec := ⟨156, 44, [(true, [some .i64, some .i64]), (true, [some .i64, some .i64])], [(true, [some .i64, some .i64])]⟩
def qrSub5 : Sx.Spec := ⟨160, 45, [(true, [some .i64, some .i64]), (true, [some .i64, some .i64])], [(true, [some .i64, some .i64])]⟩
def spD2 : List Sx.Spec := [qsMoves, qrMotion, qrDrift, qsSpeed, qrSpeed, qsAdd, qsSub, qrAdd5, qrSub5]
def spD : List Sx.Spec := spC ++ spD2
theorem spC_id : ∀ s ∈ spC, s.id ≠ 42 ∧ s.id ≠ 43 ∧ s.id ≠ 44 ∧ s.id ≠ 45 := by
 decide
theorem spD_ok (args : List Int) : ∀ s ∈ spD, SpecOK Tryz.prog (cxD args) s := by
 intro s hs
 rcases List.mem_append.1 hs with h | h
 · exact specD (spC_id s h) (spC_ok args s h)
 · simp only [spD2, List.mem_cons, List.not_mem_nil, or_false] at h
   rcases h with rfl | rfl | rfl | rfl | rfl | rfl | rfl | rfl | rfl
   · refine ⟨ours _ _ _ Tryz.func162 rfl (by kernel_rfl), fun xs hp w => ?_⟩
     obtain ⟨a, b, l, h, rfl⟩ := preD42 hp
     exact c_moves a b l h w
   · refine ⟨ours _ _ _ Tryz.func174 rfl (by kernel_rfl), fun xs hp w => ?_⟩
     obtain ⟨a, b, l, h, rfl⟩ := preD42 hp
     exact c_rMotion a b l h w
   · refine ⟨ours _ _ _ Tryz.func168 rfl (by kernel_rfl), fun xs hp w => ?_⟩
     obtain ⟨a, b, l, h, rfl⟩ := preD42 hp
     exact c_rDrift a b l h w
   · refine ⟨ours _ _ _ Tryz.func281 rfl (by kernel_rfl), fun xs hp w => ?_⟩
     obtain ⟨a, b, rfl⟩ := preD43 hp
     exact c_speed a b w
   · refine ⟨ours _ _ _ Tryz.func167 rfl (by kernel_rfl), fun xs hp w => ?_⟩
     obtain ⟨a, b, rfl⟩ := preD43 hp
     exact c_rSpeed a b w
   · refine ⟨ours _ _ _ Tryz.func173 rfl (by kernel_rfl), fun xs hp w => ?_⟩
     obtain ⟨a, b, l, h, rfl, h1, h2⟩ := preD44 hp
     exact c_aAdd a b l h w h1 h2
   · refine ⟨ours _ _ _ Tryz.func143 rfl (by kernel_rfl), fun xs hp w => ?_⟩
     obtain ⟨a, b, l, h, rfl, h1, h2⟩ := preD45 hp
     exact c_aSub a b l h w h1 h2
   · refine ⟨ours _ _ _ Tryz.func156 rfl (by kernel_rfl), fun xs hp w => ?_⟩
     obtain ⟨a, b, l, h, rfl, h1, h2⟩ := preD44 hp
     exact c_rAdd5 a b l h w h1 h2
   · refine ⟨ours _ _ _ Tryz.func160 rfl (by kernel_rfl), fun xs hp w => ?_⟩
     obtain ⟨a, b, l, h, rfl, h1, h2⟩ := preD45 hp
     exact c_rSub5 a b l h w h1 h2
def extD (t : Tab) : Nd → Option Rf
 | .app 37 4 [_, _, _, _] => some (.c 0)
 | .app 38 4 [_, _, _, _] => some (.c 0)
 | .app 44 2 [_, _, _, _] => some (.c 0)
 | .app 45 2 [_, _, _, _] => some (.c 0)
 | x => extB t x
theorem extD_ok (args : List Int) : ExtOK (cxD args) extD := by
 intro v t x r ht h
 unfold extD at h
 split at h
 · cases h; rfl
 · cases h; rfl
 · cases h; rfl
 · cases h; rfl
 · exact extX_ok (likeD args) v t x r ht h
end Go.Proofs.YtfffpodaabdpfaaGreat
