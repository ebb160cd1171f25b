/- The contracts of package midlatitude: product, Departure. -/
import Derived.Test.YtlloiallkcfomaaGreatMid1
set_option linter.unusedVariables false
set_option linter.unusedSimpArgs false
namespace Go.Proofs.YtlloiallkcfomaaGreat
open Go.RowKit Alm
theorem c_prod1 (B : Nat) (flo fhi n : Int) (w : World) (hB : BK w B /-T-/ 41 #[.int .i64 flo, .int .i64 fhi]) (hv : fxV flo fhi = true) (hn : factB n = true) :
    Calls Tryz.prog 94 #[.int .i64 n, .pointer (some ⟨B, 0, none⟩)] w fun e w' => e = .returned (.tuple #[.int .i64 (scLo flo fhi n), .int .i64 (scHi flo fhi n), .int .i64 0]) ∧ Below w.heap.size w w' := by
  have p0 := hB.cell 0; have p1 := hB.cell 1
  simp at p0 p1
  have C1 := Lib.hid (fun w => c_Scale flo fhi n w hv hn)
  clear hB hv hn
  go_enter Tryz.func94, Tryz.ntmps94
  go_wp2_with fail
  refine (C1.out _).mono ?_
  rintro e w1 ⟨rfl, hb1⟩
  have H1 := Lib.hid hb1; clear hb1
  go_wp2
  go_ret3
  exact ⟨rfl, H1.out⟩
/-- the range of the products of an interval with an arc -/
def prLo (flo fhi lo hi : Int) : Int := min (scLo flo fhi lo) (scLo flo fhi hi)
def prHi (flo fhi lo hi : Int) : Int := max (scHi flo fhi lo) (scHi flo fhi hi)
/-- an arc, or the error 5 -/
def arcE (lo hi : Int) : Value := if arcV lo hi then .tuple #[.agg #[.int .i64 lo, .int .i64 hi], .int .i64 0] else .tuple #[.agg #[.int .i64 0, .int .i64 0], .int .i64 5]
theorem ite_ret (V : Bool) (x y : Value) : (if V = true then Ending.returned x else Ending.returned y) = Ending.returned (if V = true then x else y) := by cases V <;> rfl
set_option maxRecDepth 100000 in
theorem c_product (flo fhi lo hi : Int) (w : World) (hv : fxV flo fhi = true) (hl : factB lo = true) (hh : factB hi = true) :
    Calls Tryz.prog 38 #[.agg #[.int .i64 flo, .int .i64 fhi], .agg #[.int .i64 lo, .int .i64 hi]] w fun e w' => e = .returned (arcE (prLo flo fhi lo hi) (prHi flo fhi lo hi)) ∧ Below w.heap.size w w' := by
  have hmf : ∀ (fn : Fn) (first cap : Array Value) (w : World), (Instr.makeFunc fn first cap).run Tryz.prog w = .ok (.func fn first cap) w := fun _ _ _ _ => rfl
  have CB := fun (W : World) (hW : BK W w.heap.size /-T-/ 41 #[.int .i64 flo, .int .i64 fhi]) (hlt : w.heap.size < W.heap.size) => c_both_prod w.heap.size lo hi (scLo flo fhi lo) (scHi flo fhi lo) (scLo flo fhi hi) (scHi flo fhi hi) W
    (Lib.hid fun w' hb => c_prod1 w.heap.size flo fhi lo w' (hW.below hb hlt) hv hl) (Lib.hid fun w' hb => c_prod1 w.heap.size flo fhi hi w' (hW.below hb hlt) hv hh)
  have e1 : arcE (prLo flo fhi lo hi) (prHi flo fhi lo hi) = if arcV (min (scLo flo fhi lo) (scLo flo fhi hi)) (max (scHi flo fhi lo) (scHi flo fhi hi)) then .tuple #[.agg #[.int .i64 (min (scLo flo fhi lo) (scLo flo fhi hi)), .int .i64 (max (scHi flo fhi lo) (scHi flo fhi hi))], .int .i64 0] else .tuple #[.agg #[.int .i64 0, .int .i64 0], .int .i64 5] := rfl
  rw [e1]; clear e1
  have CB := Lib.hid CB
  clear hv hl hh
  generalize min (scLo flo fhi lo) (scLo flo fhi hi) = x at *
  generalize max (scHi flo fhi lo) (scHi flo fhi hi) = y at *
  generalize arcV x y = V at *
  have PA := Lib.hid (((bk_new w /-T-/ 41 #[.int .i64 flo, .int .i64 fhi]).alloc (.cells #[.int .i64 lo, .int .i64 hi] /-T-/ 23)).alloc (.cells #[.int .i64 0, .int .i64 0] /-T-/ 23))
  have PR := Lib.hid (bk_at ((w.alloc (.cells #[.int .i64 flo, .int .i64 fhi] /-T-/ 41)).alloc (.cells #[.int .i64 lo, .int .i64 hi] /-T-/ 23)) (w.heap.size + 1 + 1) /-T-/ 23 #[.int .i64 0, .int .i64 0] (by simp))
  go_enter Tryz.func38, Tryz.ntmps38
  go_wp2_with fail
  refine (CB.out _ PA.out (by go_light; simp; omega)).mono ?_
  rintro e w1 ⟨rfl, hb1⟩
  have H1 := Lib.hid hb1; clear hb1
  have PR1 := Lib.hid (PR.out.below H1.out (by go_light; simp))
  have HB1 : Hid (Below w.heap.size w w1) := ((((Below.refl _ _).alloc (Nat.le_refl _) _).alloc (by go_light; simp) _).alloc (by go_light; simp <;> omega) _).trans (H1.out.mono (by go_light; simp <;> omega))
  have q0 := PR1.out.cell 0; have q1 := PR1.out.cell 1; have q2 := PR1.out.frozen 0; have q3 := PR1.out.frozen 1
  simp at q0 q1
  clear PA PR CB H1 PR1
  cases V
  · go_wp2
    refine bodyPost_ret (by simp [results, Tryz.results38, go_sem, q0, q1]; try rfl) rfl ⟨rfl, by have := HB1.out; go_light; go_grown⟩
  · go_wp2
    refine bodyPost_ret (by simp [results, Tryz.results38, go_sem, q0, q1]; try rfl) rfl ⟨rfl, by have := HB1.out; go_light; go_grown⟩
def latB (lo hi : Int) : Bool := decide (-5400000 ≤ lo ∧ lo ≤ hi ∧ hi ≤ 5400000)
theorem c_latitude (lo hi : Int) (w : World) :
    Calls Tryz.prog 35 #[.agg #[.int .i64 lo, .int .i64 hi]] w fun e w' => e = .returned (.bool (latB lo hi)) ∧ Below w.heap.size w w' := by
  have C1 := fun w => c_aValid lo hi w
  have PA := Lib.hid (bk_new w /-T-/ 23 #[.int .i64 lo, .int .i64 hi])
  cases hv : arcV lo hi
  · have hf : latB lo hi = false := by
      unfold latB; unfold arcV at hv; simp at hv ⊢; omega
    rw [hf]; rw [hv] at C1
    have C1 := Lib.hid C1
    clear hv hf
    go_enter Tryz.func35, Tryz.ntmps35
    go_wp2_with fail
    refine (C1.out _).mono ?_
    rintro e w1 ⟨rfl, hb1⟩
    have H1 := Lib.hid hb1; clear hb1
    go_wp2
    go_ret
    exact ⟨rfl, ((Below.refl _ _).alloc (Nat.le_refl _) _).trans (H1.out.mono (by go_light; simp))⟩
  · have hl : lo ≤ hi := by unfold arcV at hv; simp at hv; omega
    rw [hv] at C1
    have C1 := Lib.hid C1
    clear hv
    go_enter Tryz.func35, Tryz.ntmps35
    go_wp2_with fail
    refine (C1.out _).mono ?_
    rintro e w1 ⟨rfl, hb1⟩
    have H1 := Lib.hid hb1; clear hb1
    have PA1 := Lib.hid (PA.out.below H1.out (by go_light; simp))
    have p0 := PA1.out.cell 0; have p1 := PA1.out.cell 1
    simp at p0 p1
    go_wp2
    all_goals
      go_ret
      exact ⟨ret_bool (by go_light; unfold latB; rw [Bool.eq_iff_iff]; simp <;> omega), ((Below.refl _ _).alloc (Nat.le_refl _) _).trans (H1.out.mono (by go_light; simp))⟩
end Go.Proofs.YtlloiallkcfomaaGreat
