/- More known functions: quotients, arccosines, altitudes and azimuths; the example of layer 25. -/
import Derived.Test.YtfffpodaabdpfaaGreatCos
import Derived.Test.YtfffpodaabdpfaaGreatQo
import Derived.Test.YtfffpodaabdpfaaGreatAcos
import Derived.Test.YtfffpodaabdpfaaGreatEv
set_option linter.unusedVariables false
set_option linter.unusedSimpArgs false
namespace Sx
open Go Go.RowKit
def Cx.plus (X : Cx) (k : Nat → Bool) (S : Nat → List Int → List Int) (P : Nat → List Int → Prop) : Cx :=
 ⟨fun f xs => if k f = true then S f xs else X.sem f xs, fun f xs => if k f = true then P f xs else X.pre f xs, X.args⟩
theorem plus_old {Pr : Program} {X : Cx} {k : Nat → Bool} {S : Nat → List Int → List Int} {P : Nat → List Int → Prop} {s : Sx.Spec} (h : k s.id = false) (H : SpecOK Pr X s) : SpecOK Pr (X.plus k S P) s := by
 obtain ⟨a, b⟩ := H
 refine ⟨a, fun xs hp w => ?_⟩
 have n : ¬ k s.id = true := by rw [h]; decide
 have e : (X.plus k S P).sem s.id xs = X.sem s.id xs := if_neg n
 have hp' : (if k s.id = true then P s.id xs else X.pre s.id xs) := hp
 rw [if_neg n] at hp'
 rw [e]
 exact b xs hp' w
theorem plus_new {Pr : Program} {X : Cx} {k : Nat → Bool} {S : Nat → List Int → List Int} {P : Nat → List Int → Prop} {s : Sx.Spec} (h : k s.id = true) (a : Ours Pr s.fn) (b : ∀ xs : List Int, P s.id xs → ∀ w, Calls Pr s.fn ⟨mkVals s.args xs⟩ w fun e w' => e = .returned (mkRes s.res (S s.id xs)) ∧ Below w.heap.size w w') : SpecOK Pr (X.plus k S P) s := by
 refine ⟨a, fun xs hp w => ?_⟩
 have e : (X.plus k S P).sem s.id xs = S s.id xs := if_pos h
 have hp' : (if k s.id = true then P s.id xs else X.pre s.id xs) := hp
 rw [if_pos h] at hp'
 rw [e]
 exact b xs hp' w
end Sx
namespace Go.Proofs.YtfffpodaabdpfaaGreat
open Go.RowKit Alm Sx
theorem like_plus {X : Cx} (L : Like X) {k : Nat → Bool} {S : Nat → List Int → List Int} {P : Nat → List Int → Prop} (h : ∀ f, f ≤ 8 ∨ f = 20 → k f = false) : Like (X.plus k S P) := by
 refine ⟨fun f xs hf => ?_, fun f xs hf hp => ?_⟩
 · have n : ¬ k f = true := by rw [h f (.inl hf)]; decide
   exact (if_neg n).trans (L.sem f xs hf)
 · have n : ¬ k f = true := by rw [h f hf]; decide
   show if k f = true then P f xs else X.pre f xs
   rw [if_neg n]
   exact L.pre f xs hf hp
def nd_rAco : List Nd := [
 .arg 0,
 .arg 1,
 .app 36 0 [.n 0, .n 1],
 .app 36 1 [.n 0, .n 1],
 .app 36 2 [.n 0, .n 1],
 .bin .neq .i64 (.n 4) (.c 0),
 .ite (.n 5) (.c 0) (.c 1),
 .bin .sub .i64 (.c 5400000) (.n 3),
 .bin .sub .i64 (.c 5400000) (.n 2),
 .ite (.n 5) (.n 4) (.c 0),
 .ite (.n 5) (.c 0) (.n 7),
 .ite (.n 5) (.c 0) (.n 8)]
def vc_rAco : List Vc := [
 ⟨[], .pre 36 [.n 0, .n 1]⟩]
theorem wh_rAco : whole Tryz.prog spAll 20 40 127 [(true, [some .i64, some .i64])] = some (.tup [.agg [.int .i64 (.n 10), .int .i64 (.n 11)], .c (.int .i64 (.n 9))], ⟨nd_rAco.reverse, vc_rAco.reverse⟩) := by kernel_rfl
theorem wf_rAco : wfN nd_rAco.reverse = true := by kernel_rfl
set_option maxRecDepth 100000 in
theorem c_rAcos (a b : Int) (w : World) (ha : fxV a b = true) (h1 : a ≤ 1073741824) (h2 : -1073741824 ≤ b) : Calls Tryz.prog 127 #[.agg #[.int .i64 a, .int .i64 b]] w fun e w' => e = .returned (.tuple #[.agg #[.int .i64 (acoL b), .int .i64 (acoH a)], .int .i64 0]) ∧ Below w.heap.size w w' := by
 refine Sx.calls (X := cxE [a, b]) hmix (spAll_ok _) wh_rAco wf_rAco (fun v hs => ?_) w
 have e0 : v 0 = a := satF hs 0 rfl
 have e1 : v 1 = b := satF hs 1 rfl
 have e2 : v 2 = (semE 36 [v 0, v 1]).getD 0 0 := satF hs 2 rfl
 have e3 : v 3 = (semE 36 [v 0, v 1]).getD 1 0 := satF hs 3 rfl
 have e4 : v 4 = (semE 36 [v 0, v 1]).getD 2 0 := satF hs 4 rfl
 have e7 : v 7 = IntKind.i64.wrap ((5400000 : Int) - v 3) := satF hs 7 rfl
 have e8 : v 8 = IntKind.i64.wrap ((5400000 : Int) - v 2) := satF hs 8 rfl
 have hE : asnE (v 0) (v 1) = 0 := by rw [e0, e1]; exact if_pos ⟨h1, h2⟩
 have V2 : v 2 = asnL (v 0) := e2.trans (if_pos hE)
 have V3 : v 3 = asnH (v 1) := e3.trans (if_pos hE)
 have V4 : v 4 = 0 := e4.trans hE
 have r1 := asinV_is (max (v 0) (-1073741824))
 have r2 := asinV_is (-(min (v 1) 1073741824))
 have b2 : -5400000 ≤ v 2 ∧ v 2 ≤ 5400000 := by rw [V2]; exact ⟨r1.1, r1.2.1⟩
 have b3 : -5400000 ≤ v 3 ∧ v 3 ≤ 5400000 := by
  rw [V3]
  show -5400000 ≤ -asinV _ ∧ -asinV _ ≤ 5400000
  generalize asinV (-(min (v 1) 1073741824)) = q at *
  omega
 have w7 : v 7 = acoL b := by
  rw [e7, Go.IntWalk.i64_in _ (by omega), V3, e1]
  show 5400000 - -asinV (-(min b 1073741824)) = 5400000 + asinV (-(minI b 1073741824))
  have m : minI b 1073741824 = min b 1073741824 := by unfold minI; split <;> omega
  rw [m]
  generalize asinV (-(min b 1073741824)) = q
  omega
 have w8 : v 8 = acoH a := by
  rw [e8, Go.IntWalk.i64_in _ (by omega), V2, e0]
  show 5400000 - asinV (max a (-1073741824)) = 5400000 - asinV (maxI a (-1073741824))
  have m : maxI a (-1073741824) = max a (-1073741824) := by unfold maxI; split <;> omega
  rw [m]
 have z9 : v 9 = 0 := norm_val (X := cxE [a, b]) (v := v) (l := nd_rAco) (extE_ok _) hs (k := 9) (r := .c 0) (ps := [(4, .c 0)]) (nz := []) (ps_cons V4 ps_nil) nz_nil (by kernel_rfl)
 have z10 : v 10 = v 7 := norm_eq2 (X := cxE [a, b]) (v := v) (l := nd_rAco) (extE_ok _) hs (k := 10) (j := 7) (ps := [(4, .c 0)]) (ps_cons V4 ps_nil) (by kernel_rfl)
 have z11 : v 11 = v 8 := norm_eq2 (X := cxE [a, b]) (v := v) (l := nd_rAco) (extE_ok _) hs (k := 11) (j := 8) (ps := [(4, .c 0)]) (ps_cons V4 ps_nil) (by kernel_rfl)
 have P0 : fxV (v 0) (v 1) = true := by rw [e0, e1]; exact ha
 refine ⟨vcs_rev ?_, ?_⟩
 · exact vcs_cons (fun _ => P0) (vcs_nil)
 · intro x hx0
   have hx' := valV_of (v := v) (by rfl) hx0
   rw [hx']
   show Value.tuple #[.agg #[.int .i64 (v 10), .int .i64 (v 11)], .int .i64 (v 9)] = _
   rw [z9, z10, z11, w7, w8]
def kF (f : Nat) : Bool := f == 12 || f == 46 || f == 50 || f == 51 || f == 52
def semF : Nat → List Int → List Int
 | 12, [a, b, c, d, n] => [(qoV a b c d n).getD 0 0, (qoV a b c d n).getD 1 0, (qoV a b c d n).getD 2 0]
 | 46, [a, b] => [acoL b, acoH a, 0]
 | 50, [a, b, c, d, e, f] => altV a b c d e f
 | 51, [a, b, c, d, e, f] => azV a b c d e f
 | 52, [a, b, c, d, e, f] => [b2i (decide (TriV a b c d e f))]
 | _, _ => []
def preF : Nat → List Int → Prop
 | 12, [a, b, c, d, n] => qoP a b c d n
 | 46, [a, b] => fxV a b = true ∧ a ≤ 1073741824 ∧ -1073741824 ≤ b
 | 50, [a, b, c, d, e, f] => arcV a b = true ∧ arcV c d = true ∧ arcV e f = true
 | 51, [a, b, c, d, e, f] => arcV a b = true ∧ arcV c d = true ∧ arcV e f = true
 | 52, [_, _, _, _, _, _] => True
 | _, _ => False
def cxF (args : List Int) : Cx := (cxE args).plus kF semF preF
theorem likeF (args : List Int) : Like (cxF args) := like_plus (likeE args) fun f h => by
 unfold kF
 rcases h with h | rfl
 · simp; omega
 · rfl
def preFb : Nat → List Int → Bool
 | 12, [a, b, c, d, n] => fxV a b && (fxV c d && decide (0 ≤ c ∧ 0 ≤ n ∧ n ≤ 1073741824))
 | 46, [a, b] => fxV a b && decide (a ≤ 1073741824 ∧ -1073741824 ≤ b)
 | 50, [a, b, c, d, e, f] => arcV a b && (arcV c d && arcV e f)
 | 51, [a, b, c, d, e, f] => arcV a b && (arcV c d && arcV e f)
 | 52, [_, _, _, _, _, _] => true
 | f, xs => !kF f && preEb f xs
theorem preFb_ok (args : List Int) (f : Nat) (xs : List Int) (h : preFb f xs = true) : (cxF args).pre f xs := by
 show if kF f = true then preF f xs else preE f xs
 unfold preFb at h
 split at h
 · simp only [Bool.and_eq_true] at h; exact ⟨h.1, h.2.1, of_decide_eq_true h.2.2⟩
 · simp only [Bool.and_eq_true] at h; exact ⟨h.1, of_decide_eq_true h.2⟩
 · simp only [Bool.and_eq_true] at h; exact h
 · simp only [Bool.and_eq_true] at h; exact h
 · trivial
 · simp only [Bool.and_eq_true, Bool.not_eq_true'] at h
   rw [if_neg (by rw [h.1]; decide)]
   exact preEb_ok _ _ h.2
def sQuot : Sx.Spec := ⟨124, 12, [(true, [some .i64, some .i64]), (true, [some .i64, some .i64]), (false, [some .i64])], [(false, [some .i64]), (false, [some .i64]), (false, [some .i64])]⟩
def rQuot : Sx.Spec := ⟨126, 12, [(true, [some .i64, some .i64]), (true, [some .i64, some .i64]), (false, [some .i64])], [(false, [some .i64]), (false, [some .i64]), (false, [some .i64])]⟩
def sAcos46 : Sx.Spec := ⟨125, 46, [(true, [some .i64, some .i64])], [(true, [some .i64, some .i64]), (false, [some .i64])]⟩
def rAcos46 : Sx.Spec := ⟨127, 46, [(true, [some .i64, some .i64])], [(true, [some .i64, some .i64]), (false, [some .i64])]⟩
def sAlt : Sx.Spec := ⟨111, 50, [(true, [some .i64, some .i64, some .i64, some .i64, some .i64, some .i64])], [(true, [some .i64, some .i64]), (false, [some .i64])]⟩
def rAlt : Sx.Spec := ⟨34, 50, [(true, [some .i64, some .i64, some .i64, some .i64, some .i64, some .i64])], [(true, [some .i64, some .i64])]⟩
def sAz : Sx.Spec := ⟨112, 51, [(true, [some .i64, some .i64, some .i64, some .i64, some .i64, some .i64])], [(true, [some .i64, some .i64]), (false, [some .i64])]⟩
def rAz : Sx.Spec := ⟨35, 51, [(true, [some .i64, some .i64, some .i64, some .i64, some .i64, some .i64])], [(true, [some .i64, some .i64])]⟩
def sTri : Sx.Spec := ⟨32, 52, [(true, [some .i64, some .i64, some .i64, some .i64, some .i64, some .i64])], [(false, [none])]⟩
def rTri : Sx.Spec := ⟨33, 52, [(true, [some .i64, some .i64, some .i64, some .i64, some .i64, some .i64])], [(false, [none])]⟩
def spFn : List Sx.Spec := [sQuot, rQuot, sAcos46, rAcos46, sAlt, rAlt, sAz, rAz, sTri, rTri]
theorem spFn_ok (args : List Int) : ∀ s ∈ spFn, SpecOK Tryz.prog (cxF args) s := by
 intro s hs
 simp only [spFn, List.mem_cons, List.not_mem_nil, or_false] at hs
 rcases hs with rfl | rfl | rfl | rfl | rfl | rfl | rfl | rfl | rfl | rfl
 · refine plus_new rfl (ours _ _ _ Tryz.func124 rfl (by kernel_rfl)) fun xs hp w => ?_
   match xs, hp with
   | [a, b, c, d, n], hp => exact c_pQuot a b c d n w hp
 · refine plus_new rfl (ours _ _ _ Tryz.func126 rfl (by kernel_rfl)) fun xs hp w => ?_
   match xs, hp with
   | [a, b, c, d, n], hp => exact c_rQuot a b c d n w hp
 · refine plus_new rfl (ours _ _ _ Tryz.func125 rfl (by kernel_rfl)) fun xs hp w => ?_
   match xs, hp with
   | [a, b], hp => exact c_Acos a b w hp.1 hp.2.1 hp.2.2
 · refine plus_new rfl (ours _ _ _ Tryz.func127 rfl (by kernel_rfl)) fun xs hp w => ?_
   match xs, hp with
   | [a, b], hp => exact c_rAcos a b w hp.1 hp.2.1 hp.2.2
 · refine plus_new rfl (ours _ _ _ Tryz.func111 rfl (by kernel_rfl)) fun xs hp w => ?_
   match xs, hp with
   | [a, b, c, d, m, n], hp => exact c_pAlt a b c d m n w hp.1 hp.2.1 hp.2.2
 · refine plus_new rfl (ours _ _ _ Tryz.func34 rfl (by kernel_rfl)) fun xs hp w => ?_
   match xs, hp with
   | [a, b, c, d, m, n], hp => exact c_rAlt a b c d m n w hp.1 hp.2.1 hp.2.2
 · refine plus_new rfl (ours _ _ _ Tryz.func112 rfl (by kernel_rfl)) fun xs hp w => ?_
   match xs, hp with
   | [a, b, c, d, m, n], hp => exact c_pAz a b c d m n w hp.1 hp.2.1 hp.2.2
 · refine plus_new rfl (ours _ _ _ Tryz.func35 rfl (by kernel_rfl)) fun xs hp w => ?_
   match xs, hp with
   | [a, b, c, d, m, n], hp => exact c_rAz a b c d m n w hp.1 hp.2.1 hp.2.2
 · refine plus_new rfl (ours _ _ _ Tryz.func32 rfl (by kernel_rfl)) fun xs hp w => ?_
   match xs, hp with
   | [a, b, c, d, m, n], hp => exact c_pTriV a b c d m n w
 · refine plus_new rfl (ours _ _ _ Tryz.func33 rfl (by kernel_rfl)) fun xs hp w => ?_
   match xs, hp with
   | [a, b, c, d, m, n], hp => exact c_rTriV a b c d m n w
theorem spAll_kF : ∀ s ∈ spAll, kF s.id = false := by
 intro s h
 simp only [spAll, spProg, spRef4, spRef6, spRef7, spE, List.mem_append, List.mem_cons, List.not_mem_nil, or_false] at h
 rcases h with (((h | h) | h) | h) | h
 · rcases h with rfl | rfl | rfl | rfl | rfl | rfl | rfl | rfl | rfl <;> rfl
 · rcases h with rfl | rfl | rfl | rfl <;> rfl
 · rcases h with rfl | rfl <;> rfl
 · rcases h with rfl | rfl | rfl <;> rfl
 · rcases h with rfl | rfl | rfl | rfl | rfl | rfl | rfl <;> rfl
def spF : List Sx.Spec := spAll ++ spFn
theorem spF_ok (args : List Int) : ∀ s ∈ spF, SpecOK Tryz.prog (cxF args) s := by
 intro s hs
 rcases List.mem_append.1 hs with h | h
 · exact plus_old (spAll_kF s h) (spAll_ok args s h)
 · exact spFn_ok args s h
def extF (t : Tab) : Nd → Option Rf
 | .app 46 2 [_, _] => some (.c 0)
 | .app 50 2 [_, _, _, _, _, _] => some (.c 0)
 | .app 51 2 [_, _, _, _, _, _] => some (.c 0)
 | .app 20 0 [] => some (.c 1)
 | x => extB t x
theorem extF_ok (args : List Int) : ExtOK (cxF args) extF := by
 intro v t x r ht h
 unfold extF at h
 split at h
 · cases h; rfl
 · cases h; exact (altV_at _ _ _ _ _ _).2.2.symm
 · cases h; exact (azV_at _ _ _ _ _ _).2.2.symm
 · cases h; rfl
 · exact extX_ok (likeF args) v t x r ht h
def nd_aw25 : List Nd := [
 .app 52 0 [.c 0, .c 0, .c 0, .c 0, .c 3600000, .c 3600000],
 .ite (.n 0) (.c 0) (.c 1),
 .ite (.n 1) (.c 0) (.c 1),
 .app 50 0 [.c 0, .c 0, .c 0, .c 0, .c 3600000, .c 3600000],
 .app 50 1 [.c 0, .c 0, .c 0, .c 0, .c 3600000, .c 3600000],
 .app 50 2 [.c 0, .c 0, .c 0, .c 0, .c 3600000, .c 3600000],
 .ite (.n 1) (.c 1) (.n 5),
 .ite (.n 1) (.c 0) (.n 3),
 .ite (.n 1) (.c 0) (.n 4),
 .bin .neq .i64 (.n 6) (.c 0),
 .ite (.n 9) (.c 0) (.c 1),
 .app 51 0 [.c 0, .c 0, .c 0, .c 0, .c 3600000, .c 3600000],
 .app 51 1 [.c 0, .c 0, .c 0, .c 0, .c 3600000, .c 3600000],
 .app 51 2 [.c 0, .c 0, .c 0, .c 0, .c 3600000, .c 3600000],
 .ite (.n 1) (.c 1) (.n 13),
 .ite (.n 1) (.c 0) (.n 11),
 .ite (.n 1) (.c 0) (.n 12),
 .bin .neq .i64 (.n 14) (.c 0),
 .ite (.n 17) (.c 0) (.c 1),
 .ite (.n 17) (.n 14) (.c 0),
 .ite (.n 17) (.c 0) (.n 7),
 .ite (.n 17) (.c 0) (.n 8),
 .ite (.n 17) (.c 0) (.n 15),
 .ite (.n 17) (.c 0) (.n 16),
 .ite (.n 9) (.n 6) (.n 19),
 .ite (.n 9) (.n 6) (.n 14),
 .ite (.n 9) (.c 0) (.n 20),
 .ite (.n 9) (.c 0) (.n 21),
 .ite (.n 9) (.c 0) (.n 22),
 .ite (.n 9) (.c 0) (.n 23),
 .app 5 0 [.c 1800000, .c 1800000],
 .app 5 1 [.c 1800000, .c 1800000],
 .app 5 2 [.c 1800000, .c 1800000],
 .app 5 0 [.c 0, .c 0],
 .app 5 1 [.c 0, .c 0],
 .app 5 2 [.c 0, .c 0],
 .bin .eql .i64 (.n 32) (.c 0),
 .ite (.n 36) (.c 0) (.c 1),
 .ite (.n 36) (.n 35) (.n 32),
 .bin .eql .i64 (.n 38) (.c 0),
 .ite (.n 39) (.c 0) (.c 1),
 .ite (.n 39) (.n 35) (.n 38),
 .app 0 0 [.n 33, .n 34, .n 33, .n 34],
 .app 0 1 [.n 33, .n 34, .n 33, .n 34],
 .app 0 2 [.n 33, .n 34, .n 33, .n 34],
 .bin .eql .i64 (.n 41) (.c 0),
 .ite (.n 45) (.c 0) (.c 1),
 .ite (.n 45) (.n 44) (.n 41),
 .app 2 0 [.n 30, .n 31, .n 42, .n 43],
 .app 2 1 [.n 30, .n 31, .n 42, .n 43],
 .app 2 2 [.n 30, .n 31, .n 42, .n 43],
 .bin .eql .i64 (.n 47) (.c 0),
 .ite (.n 51) (.c 0) (.c 1),
 .ite (.n 51) (.n 50) (.n 47),
 .app 6 0 [.c 0, .c 0],
 .app 6 1 [.c 0, .c 0],
 .app 6 2 [.c 0, .c 0],
 .bin .eql .i64 (.n 53) (.c 0),
 .ite (.n 57) (.c 0) (.c 1),
 .ite (.n 57) (.n 56) (.n 53),
 .bin .eql .i64 (.n 59) (.c 0),
 .ite (.n 60) (.c 0) (.c 1),
 .ite (.n 60) (.n 56) (.n 59),
 .app 0 0 [.n 54, .n 55, .n 54, .n 55],
 .app 0 1 [.n 54, .n 55, .n 54, .n 55],
 .app 0 2 [.n 54, .n 55, .n 54, .n 55],
 .bin .eql .i64 (.n 62) (.c 0),
 .ite (.n 66) (.c 0) (.c 1),
 .ite (.n 66) (.n 65) (.n 62),
 .bin .neq .i64 (.n 68) (.c 0),
 .ite (.n 69) (.c 0) (.c 1),
 .app 12 0 [.n 48, .n 49, .n 63, .n 64, .c 1073741824],
 .app 12 1 [.n 48, .n 49, .n 63, .n 64, .c 1073741824],
 .app 12 2 [.n 48, .n 49, .n 63, .n 64, .c 1073741824],
 .bin .eql .i64 (.n 73) (.c 16),
 .bin .eql .i64 (.n 73) (.c 5),
 .bin .neq .i64 (.n 73) (.c 0),
 .bin .gtr .i64 (.n 71) (.c 1073741824),
 .bin .lss .i64 (.n 72) (.c (-1073741824)),
 .ite (.n 77) (.c 1) (.n 78),
 .ite (.n 79) (.c 0) (.c 1),
 .ite (.n 76) (.c 0) (.c 1),
 .ite (.n 81) (.n 80) (.c 0),
 .ite (.n 81) (.n 79) (.c 0),
 .ite (.n 76) (.c 1) (.n 83),
 .ite (.n 76) (.n 73) (.c 12),
 .ite (.n 75) (.c 0) (.c 1),
 .ite (.n 86) (.n 82) (.c 0),
 .ite (.n 86) (.n 84) (.c 0),
 .ite (.n 75) (.c 1) (.n 88),
 .ite (.n 75) (.c 24) (.n 85),
 .ite (.n 74) (.c 0) (.c 1),
 .ite (.n 91) (.n 87) (.c 0),
 .ite (.n 91) (.n 89) (.c 0),
 .ite (.n 74) (.c 1) (.n 93),
 .ite (.n 74) (.c 21) (.n 90),
 .mx (.n 71) (.c (-1073741824)),
 .mn (.n 72) (.c 1073741824),
 .app 46 0 [.n 96, .n 97],
 .app 46 1 [.n 96, .n 97],
 .app 46 2 [.n 96, .n 97],
 .ite (.n 94) (.c 1) (.n 92),
 .ite (.n 94) (.n 95) (.n 100),
 .ite (.n 94) (.c 0) (.n 98),
 .ite (.n 94) (.c 0) (.n 99),
 .ite (.n 70) (.n 101) (.c 0),
 .ite (.n 69) (.c 1) (.n 105),
 .ite (.n 69) (.n 68) (.n 102),
 .ite (.n 69) (.c 0) (.n 103),
 .ite (.n 69) (.c 0) (.n 104),
 .bin .eql .i64 (.n 24) (.c 0),
 .bin .eql .i64 (.n 26) (.c 1800000),
 .bin .eql .i64 (.n 27) (.c 1800000),
 .ite (.n 111) (.n 112) (.c 0),
 .ite (.n 110) (.n 113) (.c 0),
 .bin .eql .i64 (.n 28) (.c 16200000),
 .bin .eql .i64 (.n 29) (.c 16200000),
 .ite (.n 115) (.n 116) (.c 0),
 .ite (.n 114) (.n 117) (.c 0),
 .bin .eql .i64 (.n 107) (.c 0),
 .ite (.n 118) (.n 119) (.c 0),
 .bin .eql .i64 (.n 108) (.c 3600000),
 .bin .eql .i64 (.n 109) (.c 3600000),
 .ite (.n 121) (.n 122) (.c 0),
 .ite (.n 120) (.n 123) (.c 0)]
def vc_aw25 : List Vc := [
 ⟨[], .pre 52 [.c 0, .c 0, .c 0, .c 0, .c 3600000, .c 3600000]⟩,
 ⟨[(.n 2, true)], .pre 50 [.c 0, .c 0, .c 0, .c 0, .c 3600000, .c 3600000]⟩,
 ⟨[(.n 10, true)], .pre 52 [.c 0, .c 0, .c 0, .c 0, .c 3600000, .c 3600000]⟩,
 ⟨[(.n 2, true), (.n 10, true)], .pre 51 [.c 0, .c 0, .c 0, .c 0, .c 3600000, .c 3600000]⟩,
 ⟨[], .pre 5 [.c 1800000, .c 1800000]⟩,
 ⟨[], .pre 5 [.c 0, .c 0]⟩,
 ⟨[], .pre 5 [.c 0, .c 0]⟩,
 ⟨[], .pre 0 [.n 33, .n 34, .n 33, .n 34]⟩,
 ⟨[], .pre 2 [.n 30, .n 31, .n 42, .n 43]⟩,
 ⟨[], .pre 6 [.c 0, .c 0]⟩,
 ⟨[], .pre 6 [.c 0, .c 0]⟩,
 ⟨[], .pre 0 [.n 54, .n 55, .n 54, .n 55]⟩,
 ⟨[(.n 70, true)], .pre 12 [.n 48, .n 49, .n 63, .n 64, .c 1073741824]⟩,
 ⟨[(.n 92, true), (.n 70, true)], .pre 46 [.n 96, .n 97]⟩]
theorem wh_aw25 : whole Tryz.prog spF 20 40 28 [] = some (.p (.c (.bool (.n 124))), ⟨nd_aw25.reverse, vc_aw25.reverse⟩) := by kernel_rfl
theorem wf_aw25 : wfN nd_aw25.reverse = true := by kernel_rfl
set_option maxRecDepth 100000 in
theorem c_awake25 (w : World) : Calls Tryz.prog 28 #[] w fun e w' => e = .returned (.bool true) ∧ Below w.heap.size w w' := by
 refine Sx.calls (X := cxF []) hmix (spF_ok _) wh_aw25 wf_aw25 (fun v hs => ?_) w
 have h := evOK_ok (X := cxF []) (v := v) (nd := nd_aw25) hs (pre := preFb) (preFb_ok []) (vs := vc_aw25.reverse) (k := 124) (z := 1) (by kernel_rfl)
 refine ⟨h.2, fun x hx => ?_⟩
 have hx' : x = .bool (decide (v 124 ≠ 0)) := hx
 rw [hx', h.1]; rfl
def sAwake25 : Sx.Spec := ⟨28, 20, [], [(false, [none])]⟩
theorem sAwake25_ok (args : List Int) : SpecOK Tryz.prog (cxF args) sAwake25 := by
 refine plus_old rfl (specE (by decide) ⟨ours _ _ _ Tryz.func28 rfl (by kernel_rfl), fun xs hp w => ?_⟩)
 have hp' : preB 20 xs := hp
 rw [pre0 hp']
 exact c_awake25 w
end Go.Proofs.YtfffpodaabdpfaaGreat
