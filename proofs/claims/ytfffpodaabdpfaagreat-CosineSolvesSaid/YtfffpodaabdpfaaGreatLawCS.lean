/- The law CosineSolves: Valid, Altitude, Azimuth and Solve return what is specified. -/
import Derived.Test.YtfffpodaabdpfaaGreatCosX
set_option linter.unusedVariables false
set_option linter.unusedSimpArgs false
namespace Go.Proofs.YtfffpodaabdpfaaGreat
open Go.RowKit Alm Sx
def spCS : List Sx.Spec := [sAwake25, sAlt, rAlt, sAz, rAz, sTri, rTri]
theorem spCS_ok (args : List Int) : ∀ s ∈ spCS, SpecOK Tryz.prog (cxF args) s := by
 intro s hs
 rcases List.mem_cons.1 hs with rfl | h
 · exact sAwake25_ok args
 · refine spF_ok args s (List.mem_append_right _ ?_)
   simp only [spFn, List.mem_cons, List.not_mem_nil, or_false] at h ⊢
   rcases h with rfl | rfl | rfl | rfl | rfl | rfl <;> simp
def nd_cs : List Nd := [
 .arg 0,
 .arg 1,
 .arg 2,
 .arg 3,
 .arg 4,
 .arg 5,
 .app 20 0 [],
 .ite (.n 6) (.c 0) (.c 1),
 .ite (.n 7) (.c 0) (.c 1),
 .app 52 0 [.n 0, .n 1, .n 2, .n 3, .n 4, .n 5],
 .ite (.n 9) (.c 0) (.c 1),
 .ite (.n 10) (.c 0) (.c 1),
 .app 50 0 [.n 0, .n 1, .n 2, .n 3, .n 4, .n 5],
 .app 50 1 [.n 0, .n 1, .n 2, .n 3, .n 4, .n 5],
 .app 50 2 [.n 0, .n 1, .n 2, .n 3, .n 4, .n 5],
 .ite (.n 10) (.c 1) (.n 14),
 .ite (.n 10) (.c 0) (.n 12),
 .ite (.n 10) (.c 0) (.n 13),
 .app 51 0 [.n 0, .n 1, .n 2, .n 3, .n 4, .n 5],
 .app 51 1 [.n 0, .n 1, .n 2, .n 3, .n 4, .n 5],
 .app 51 2 [.n 0, .n 1, .n 2, .n 3, .n 4, .n 5],
 .ite (.n 10) (.c 1) (.n 20),
 .ite (.n 10) (.c 0) (.n 18),
 .ite (.n 10) (.c 0) (.n 19),
 .bin .neq .i64 (.n 15) (.c 0),
 .ite (.n 24) (.c 0) (.c 1),
 .bin .neq .i64 (.n 21) (.c 0),
 .ite (.n 26) (.c 0) (.c 1),
 .ite (.n 26) (.n 21) (.c 0),
 .ite (.n 26) (.c 0) (.n 16),
 .ite (.n 26) (.c 0) (.n 17),
 .ite (.n 26) (.c 0) (.n 22),
 .ite (.n 26) (.c 0) (.n 23),
 .ite (.n 24) (.n 15) (.n 28),
 .ite (.n 24) (.n 15) (.n 21),
 .ite (.n 24) (.c 0) (.n 29),
 .ite (.n 24) (.c 0) (.n 30),
 .ite (.n 24) (.c 0) (.n 31),
 .ite (.n 24) (.c 0) (.n 32),
 .ite (.n 9) (.c 1) (.c 0),
 .bin .eql .i64 (.n 16) (.c 0),
 .bin .eql .i64 (.n 17) (.c 0),
 .ite (.n 40) (.n 41) (.c 0),
 .bin .eql .i64 (.n 22) (.c 0),
 .bin .eql .i64 (.n 23) (.c 0),
 .ite (.n 43) (.n 44) (.c 0),
 .ite (.n 42) (.n 45) (.c 0),
 .bin .eql .i64 (.n 35) (.c 0),
 .bin .eql .i64 (.n 36) (.c 0),
 .bin .eql .i64 (.n 37) (.c 0),
 .bin .eql .i64 (.n 38) (.c 0),
 .ite (.n 49) (.n 50) (.c 0),
 .ite (.n 48) (.n 51) (.c 0),
 .ite (.n 47) (.n 52) (.c 0),
 .ite (.n 46) (.n 53) (.c 0),
 .bin .eql .i64 (.n 15) (.c 1),
 .ite (.n 54) (.n 55) (.c 0),
 .bin .eql .i64 (.n 21) (.c 1),
 .ite (.n 56) (.n 57) (.c 0),
 .bin .eql .i64 (.n 33) (.c 1),
 .ite (.n 58) (.n 59) (.c 0),
 .bin .eql .i64 (.n 15) (.c 0),
 .bin .eql .i64 (.n 21) (.c 0),
 .ite (.n 61) (.n 62) (.c 0),
 .bin .eql .i64 (.n 33) (.c 0),
 .ite (.n 63) (.n 64) (.c 0),
 .bin .eql .i64 (.n 16) (.n 12),
 .bin .eql .i64 (.n 17) (.n 13),
 .ite (.n 66) (.n 67) (.c 0),
 .ite (.n 65) (.n 68) (.c 0),
 .bin .eql .i64 (.n 22) (.n 18),
 .bin .eql .i64 (.n 23) (.n 19),
 .ite (.n 70) (.n 71) (.c 0),
 .ite (.n 69) (.n 72) (.c 0),
 .bin .eql .i64 (.n 35) (.n 16),
 .bin .eql .i64 (.n 36) (.n 17),
 .bin .eql .i64 (.n 37) (.n 22),
 .bin .eql .i64 (.n 38) (.n 23),
 .ite (.n 76) (.n 77) (.c 0),
 .ite (.n 75) (.n 78) (.c 0),
 .ite (.n 74) (.n 79) (.c 0),
 .ite (.n 73) (.n 80) (.c 0),
 .ite (.n 10) (.n 60) (.n 81),
 .ite (.n 7) (.c 0) (.n 82)]
def vc_cs : List Vc := [
 ⟨[], .pre 20 []⟩,
 ⟨[(.n 8, true)], .pre 52 [.n 0, .n 1, .n 2, .n 3, .n 4, .n 5]⟩,
 ⟨[(.n 11, true), (.n 8, true)], .pre 50 [.n 0, .n 1, .n 2, .n 3, .n 4, .n 5]⟩,
 ⟨[(.n 8, true)], .pre 52 [.n 0, .n 1, .n 2, .n 3, .n 4, .n 5]⟩,
 ⟨[(.n 11, true), (.n 8, true)], .pre 51 [.n 0, .n 1, .n 2, .n 3, .n 4, .n 5]⟩,
 ⟨[(.n 8, true)], .pre 52 [.n 0, .n 1, .n 2, .n 3, .n 4, .n 5]⟩,
 ⟨[(.n 11, true), (.n 8, true)], .pre 50 [.n 0, .n 1, .n 2, .n 3, .n 4, .n 5]⟩,
 ⟨[(.n 25, true), (.n 8, true)], .pre 52 [.n 0, .n 1, .n 2, .n 3, .n 4, .n 5]⟩,
 ⟨[(.n 11, true), (.n 25, true), (.n 8, true)], .pre 51 [.n 0, .n 1, .n 2, .n 3, .n 4, .n 5]⟩,
 ⟨[(.n 8, true)], .pre 52 [.n 0, .n 1, .n 2, .n 3, .n 4, .n 5]⟩,
 ⟨[(.n 8, true)], .pre 52 [.n 0, .n 1, .n 2, .n 3, .n 4, .n 5]⟩,
 ⟨[(.n 8, true)], .pre 52 [.n 0, .n 1, .n 2, .n 3, .n 4, .n 5]⟩,
 ⟨[(.n 11, true), (.n 8, true), (.n 65, true)], .pre 50 [.n 0, .n 1, .n 2, .n 3, .n 4, .n 5]⟩,
 ⟨[(.n 11, true), (.n 8, true), (.n 69, true)], .pre 51 [.n 0, .n 1, .n 2, .n 3, .n 4, .n 5]⟩]
theorem wh_cs : whole Tryz.prog spCS 20 40 5 [(true, [some .i64, some .i64, some .i64, some .i64, some .i64, some .i64])] = some (.p (.c (.bool (.n 83))), ⟨nd_cs.reverse, vc_cs.reverse⟩) := by kernel_rfl
theorem wf_cs : wfN nd_cs.reverse = true := by kernel_rfl
set_option maxRecDepth 100000 in
theorem c_lawCS (a0 a1 a2 a3 a4 a5 : Int) (w : World)  : Calls Tryz.prog 5 #[.agg #[.int .i64 a0, .int .i64 a1, .int .i64 a2, .int .i64 a3, .int .i64 a4, .int .i64 a5]] w fun e w' => e = .returned (.bool true) ∧ Below w.heap.size w w' := by
 refine Sx.calls (X := cxF [a0, a1, a2, a3, a4, a5]) hmix (spCS_ok _) wh_cs wf_cs (fun v hs => ?_) w
 have e9 : v 9 = b2i (decide (TriV (v 0) (v 1) (v 2) (v 3) (v 4) (v 5))) := satF hs 9 rfl
 have e10 : v 10 = if v 9 ≠ 0 then (0 : Int) else (1 : Int) := satF hs 10 rfl
 have e11 : v 11 = if v 10 ≠ 0 then (0 : Int) else (1 : Int) := satF hs 11 rfl
 have T : v 9 ≠ 0 → arcV (v 0) (v 1) = true ∧ arcV (v 2) (v 3) = true ∧ arcV (v 4) (v 5) = true := by
  rw [e9, b2i_iff, decide_eq_true_iff]
  unfold TriV
  rw [arcV_iff, arcV_iff, arcV_iff]
  omega
 have W : v 11 ≠ 0 → v 9 ≠ 0 := by
  rw [e11, e10]
  intro h q
  rw [if_neg (by omega : ¬ v 9 ≠ 0)] at h
  exact absurd h (by decide)
 have O : v 9 = 1 ∨ v 9 = 0 := by
  rw [e9]
  cases decide (TriV (v 0) (v 1) (v 2) (v 3) (v 4) (v 5))
  · exact .inr rfl
  · exact .inl rfl
 refine ⟨vcs_rev ?_, ?_⟩
 · exact vcs_cons (fun _ => trivial) (vcs_cons (fun _ => trivial) (vcs_cons (fun hp => T (W (pt_true hp).1)) (vcs_cons (fun _ => trivial) (vcs_cons (fun hp => T (W (pt_true hp).1)) (vcs_cons (fun _ => trivial) (vcs_cons (fun hp => T (W (pt_true hp).1)) (vcs_cons (fun _ => trivial) (vcs_cons (fun hp => T (W (pt_true hp).1)) (vcs_cons (fun _ => trivial) (vcs_cons (fun _ => trivial) (vcs_cons (fun _ => trivial) (vcs_cons (fun hp => T (W (pt_true hp).1)) (vcs_cons (fun hp => T (W (pt_true hp).1)) (vcs_nil))))))))))))))
 · intro x hx
   have hx' : x = .bool (decide (v 83 ≠ 0)) := hx
   suffices hr : v 83 = 1 by rw [hx', hr]; rfl
   rcases O with q | q
   · exact norm_val (X := cxF [a0, a1, a2, a3, a4, a5]) (v := v) (l := nd_cs) (extF_ok _) hs (k := 83) (r := .c 1) (ps := [(9, .c 1)]) (nz := []) (ps_cons q ps_nil) nz_nil (by kernel_rfl)
   · exact norm_val (X := cxF [a0, a1, a2, a3, a4, a5]) (v := v) (l := nd_cs) (extF_ok _) hs (k := 83) (r := .c 1) (ps := [(9, .c 0)]) (nz := []) (ps_cons q ps_nil) nz_nil (by kernel_rfl)
end Go.Proofs.YtfffpodaabdpfaaGreat
