/- The known functions of the symbolic runs: the reference's sine and cosine. -/
import Derived.Test.YtlloiallkcfomaaGreatSp
import Derived.Test.YtlloiallkcfomaaGreatRef7
set_option linter.unusedVariables false
namespace Go.Proofs.YtlloiallkcfomaaGreat
open Go.RowKit Alm Sx
theorem c_rSin (lo hi : Int) (w : World) (h : arcV lo hi = true) :
    Calls Tryz.prog 70 #[.agg #[.int .i64 lo, .int .i64 hi]] w fun e w' => e = .returned (.agg #[.int .i64 (enLo lo hi), .int .i64 (enHi lo hi)]) ∧ Below w.heap.size w w' := by
  have hv := (arcV_iff lo hi).1 h
  have C1 := fun w => c_rsine lo hi w ⟨by omega, by omega, by omega⟩
  replace C1 := Lib.hid C1
  clear h
  obtain ⟨v1, v2, v3⟩ := hv
  generalize enLo lo hi = x at *
  generalize enHi lo hi = y at *
  have K0 := Lib.hid (((ks_start w).new w.heap.size rfl /-T-/ 23 #[.int .i64 lo, .int .i64 hi]).new (w.heap.size + 1) (by simp) /-T-/ 41 #[.int .i64 0, .int .i64 0])
  go_enter Tryz.func70, Tryz.ntmps70
  go_wp2_with fail
  refine (C1.out _).mono ?_
  rintro e w1 ⟨rfl, hb1⟩
  have K1 := Lib.hid (K0.out.below hb1); clear hb1 K0
  have q0 := K1.out.c (g := w.heap.size + 1) (t := /-T-/ 41) (cs := #[.int .i64 0, .int .i64 0]) (by simp) (i := 0) rfl
  have q1 := K1.out.c (g := w.heap.size + 1) (t := /-T-/ 41) (cs := #[.int .i64 0, .int .i64 0]) (by simp) (i := 1) rfl
  have g0 := K1.out.f (g := w.heap.size + 1) (t := /-T-/ 41) (cs := #[.int .i64 0, .int .i64 0]) (by simp) 0
  have g1 := K1.out.f (g := w.heap.size + 1) (t := /-T-/ 41) (cs := #[.int .i64 0, .int .i64 0]) (by simp) 1
  go_wp2
  refine bodyPost_ret (by simp [results, Tryz.results70, go_sem, q0, q1]; try rfl) rfl ⟨rfl, by have := K1.out.1; go_light; go_grown⟩
def r6Sin : Sx.Spec := ⟨70, 5, [(true, [some .i64, some .i64])], [(true, [some .i64, some .i64])]⟩
def r6Cos : Sx.Spec := ⟨44, 6, [(true, [some .i64, some .i64])], [(true, [some .i64, some .i64])]⟩
def spRef6 : List Sx.Spec := [r6Sin, r6Cos]
theorem r6Sin_ok (args : List Int) : SpecOK Tryz.prog (cxB args) r6Sin := by
  refine ⟨ours _ _ _ Tryz.func70 rfl (by kernel_rfl), fun xs hp w => ?_⟩
  obtain ⟨a, b, rfl⟩ := pre2 (f := 5) (by simp) hp
  exact c_rSin a b w hp
theorem r6Cos_ok (args : List Int) : SpecOK Tryz.prog (cxB args) r6Cos := by
  refine ⟨ours _ _ _ Tryz.func44 rfl (by kernel_rfl), fun xs hp w => ?_⟩
  obtain ⟨a, b, rfl⟩ := pre2 (f := 6) (by simp) hp
  exact c_rCos a b w hp
theorem spRef6_ok (args : List Int) : ∀ s ∈ spRef6, SpecOK Tryz.prog (cxB args) s := by
  intro s hs
  simp only [spRef6, List.mem_cons, List.not_mem_nil, or_false] at hs
  rcases hs with rfl | rfl
  · exact r6Sin_ok args
  · exact r6Cos_ok args
theorem err_ite {c E : Int} (hc : c = b2i (E == 0)) : (if c ≠ 0 then 0 else E) = E := by
  split
  · rename_i h1
    rw [hc, b2i_iff] at h1
    exact (by simpa using h1 : E = 0).symm
  · rfl
theorem sem5e (a b : Int) : (semB 5 [a, b]).getD 2 0 = 0 := rfl
theorem sem6e (a b : Int) : (semB 6 [a, b]).getD 2 0 = 0 := rfl
theorem sem_fitV5 (a b : Int) : fxV ((semB 5 [a, b]).getD 0 0) ((semB 5 [a, b]).getD 1 0) = true := en_fx _ _
theorem sem_fitV6 (a b : Int) : fxV ((semB 6 [a, b]).getD 0 0) ((semB 6 [a, b]).getD 1 0) = true := en_fx _ _
theorem arc_prog (lo hi : Int) : (if (if b2i (decide (lo ≤ hi)) ≠ 0 then (if b2i (decide (lo ≥ -1099511627776)) ≠ 0 then b2i (decide (lo ≤ 1099511627776)) else 0) else 0) ≠ 0 then (if b2i (decide (hi ≥ -1099511627776)) ≠ 0 then b2i (decide (hi ≤ 1099511627776)) else 0) else 0) = b2i (arcV lo hi) := by
  unfold arcV
  by_cases h1 : lo ≤ hi <;> by_cases h2 : lo ≥ -1099511627776 <;> by_cases h3 : lo ≤ 1099511627776 <;> by_cases h4 : hi ≥ -1099511627776 <;> by_cases h5 : hi ≤ 1099511627776 <;> simp [b2i, h1, h2, h3, h4, h5] <;> omega
theorem arc_ref (lo hi : Int) : (if (if b2i (decide (lo ≤ hi)) ≠ 0 then b2i (decide (lo ≥ -1099511627776)) else 0) ≠ 0 then b2i (decide (hi ≤ 1099511627776)) else 0) = b2i (arcV lo hi) := by
  unfold arcV
  by_cases h1 : lo ≤ hi <;> by_cases h2 : lo ≥ -1099511627776 <;> by_cases h5 : hi ≤ 1099511627776 <;> simp [b2i, h1, h2, h5] <;> omega
end Go.Proofs.YtlloiallkcfomaaGreat
