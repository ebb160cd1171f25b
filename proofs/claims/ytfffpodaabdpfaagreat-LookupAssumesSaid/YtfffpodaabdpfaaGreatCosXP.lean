/- More known functions of the program: quotients, arccosines, altitudes and azimuths. -/
import Derived.Test.YtfffpodaabdpfaaGreatCosP
import Derived.Test.YtfffpodaabdpfaaGreatQoP
import Derived.Test.YtfffpodaabdpfaaGreatAcos
import Derived.Test.YtfffpodaabdpfaaGreatEv
import Derived.Test.YtfffpodaabdpfaaGreatPlus
set_option linter.unusedVariables false
set_option linter.unusedSimpArgs false
namespace Go.Proofs.YtfffpodaabdpfaaGreat
open Go.RowKit Alm Sx
def kF (f : Nat) : Bool := f == 12 || f == 46 || f == 50 || f == 51 || f == 52
def semF : Nat → List Int → List Int
 | 12, [a, b, c, d, n] => [(qoV a b c d n).getD 0 0, (qoV a b c d n).getD 1 0, (qoV a b c d n).getD 2 0]
 | 46, [a, b] => [acoL b, acoH a, 0]
 | 50, [a, b, c, d, e, f] => altV a b c d e f
 | 51, [a, b, c, d, e, f] => azV a b c d e f
 | 52, [a, b, c, d, e, f] => [b2i (decide (TriV a b c d e f))]
 | _, _ => []
def preF : Nat → List Int → Prop
 | 12, [a, b, c, d, n] => qoP a b c d n
 | 46, [a, b] => fxV a b = true ∧ a ≤ 1073741824 ∧ -1073741824 ≤ b
 | 50, [a, b, c, d, e, f] => arcV a b = true ∧ arcV c d = true ∧ arcV e f = true
 | 51, [a, b, c, d, e, f] => arcV a b = true ∧ arcV c d = true ∧ arcV e f = true
 | 52, [_, _, _, _, _, _] => True
 | _, _ => False
def cxF (args : List Int) : Cx := (cxE args).plus kF semF preF
theorem likeF (args : List Int) : Like (cxF args) := like_plus (likeE args) fun f h => by
 unfold kF
 rcases h with h | rfl
 · simp; omega
 · rfl
def preFb : Nat → List Int → Bool
 | 12, [a, b, c, d, n] => fxV a b && (fxV c d && decide (0 ≤ c ∧ 0 ≤ n ∧ n ≤ 1073741824))
 | 46, [a, b] => fxV a b && decide (a ≤ 1073741824 ∧ -1073741824 ≤ b)
 | 50, [a, b, c, d, e, f] => arcV a b && (arcV c d && arcV e f)
 | 51, [a, b, c, d, e, f] => arcV a b && (arcV c d && arcV e f)
 | 52, [_, _, _, _, _, _] => true
 | f, xs => !kF f && preEb f xs
theorem preFb_ok (args : List Int) (f : Nat) (xs : List Int) (h : preFb f xs = true) : (cxF args).pre f xs := by
 show if kF f = true then preF f xs else preE f xs
 unfold preFb at h
 split at h
 · simp only [Bool.and_eq_true] at h; exact ⟨h.1, h.2.1, of_decide_eq_true h.2.2⟩
 · simp only [Bool.and_eq_true] at h; exact ⟨h.1, of_decide_eq_true h.2⟩
 · simp only [Bool.and_eq_true] at h; exact h
 · simp only [Bool.and_eq_true] at h; exact h
 · trivial
 · simp only [Bool.and_eq_true, Bool.not_eq_true'] at h
   rw [if_neg (by rw [h.1]; decide)]
   exact preEb_ok _ _ h.2
def extF (t : Tab) : Nd → Option Rf
 | .app 46 2 [_, _] => some (.c 0)
 | .app 50 2 [_, _, _, _, _, _] => some (.c 0)
 | .app 51 2 [_, _, _, _, _, _] => some (.c 0)
 | .app 20 0 [] => some (.c 1)
 | x => extB t x
theorem extF_ok (args : List Int) : ExtOK (cxF args) extF := by
 intro v t x r ht h
 unfold extF at h
 split at h
 · cases h; rfl
 · cases h; exact (altV_at _ _ _ _ _ _).2.2.symm
 · cases h; exact (azV_at _ _ _ _ _ _).2.2.symm
 · cases h; rfl
 · exact extX_ok (likeF args) v t x r ht h
def sQuot : Sx.Spec := ⟨124, 12, [(true, [some .i64, some .i64]), (true, [some .i64, some .i64]), (false, [some .i64])], [(false, [some .i64]), (false, [some .i64]), (false, [some .i64])]⟩
def sAcos46 : Sx.Spec := ⟨125, 46, [(true, [some .i64, some .i64])], [(true, [some .i64, some .i64]), (false, [some .i64])]⟩
def sAlt : Sx.Spec := ⟨111, 50, [(true, [some .i64, some .i64, some .i64, some .i64, some .i64, some .i64])], [(true, [some .i64, some .i64]), (false, [some .i64])]⟩
def sAz : Sx.Spec := ⟨112, 51, [(true, [some .i64, some .i64, some .i64, some .i64, some .i64, some .i64])], [(true, [some .i64, some .i64]), (false, [some .i64])]⟩
def sTri : Sx.Spec := ⟨32, 52, [(true, [some .i64, some .i64, some .i64, some .i64, some .i64, some .i64])], [(false, [none])]⟩
def spP0 : List Sx.Spec := [sScale, sMake, sAsin36]
theorem spP0_ok (args : List Int) : ∀ s ∈ spP0, SpecOK Tryz.prog (cxE args) s := by
 intro s hs
 refine spE_ok args s ?_
 simp only [spP0, spE, List.mem_cons, List.not_mem_nil, or_false] at hs ⊢
 rcases hs with rfl | rfl | rfl <;> simp
def spPn : List Sx.Spec := [sQuot, sAcos46, sAlt, sAz, sTri]
theorem spPn_ok (args : List Int) : ∀ s ∈ spPn, SpecOK Tryz.prog (cxF args) s := by
 intro s hs
 simp only [spPn, List.mem_cons, List.not_mem_nil, or_false] at hs
 rcases hs with rfl | rfl | rfl | rfl | rfl
 · refine plus_new rfl (ours _ _ _ Tryz.func124 rfl (by kernel_rfl)) fun xs hp w => ?_
   match xs, hp with
   | [a, b, c, d, n], hp => exact c_pQuot a b c d n w hp
 · refine plus_new rfl (ours _ _ _ Tryz.func125 rfl (by kernel_rfl)) fun xs hp w => ?_
   match xs, hp with
   | [a, b], hp => exact c_Acos a b w hp.1 hp.2.1 hp.2.2
 · refine plus_new rfl (ours _ _ _ Tryz.func111 rfl (by kernel_rfl)) fun xs hp w => ?_
   match xs, hp with
   | [a, b, c, d, m, n], hp => exact c_pAlt a b c d m n w hp.1 hp.2.1 hp.2.2
 · refine plus_new rfl (ours _ _ _ Tryz.func112 rfl (by kernel_rfl)) fun xs hp w => ?_
   match xs, hp with
   | [a, b, c, d, m, n], hp => exact c_pAz a b c d m n w hp.1 hp.2.1 hp.2.2
 · refine plus_new rfl (ours _ _ _ Tryz.func32 rfl (by kernel_rfl)) fun xs hp w => ?_
   match xs, hp with
   | [a, b, c, d, m, n], hp => exact c_pTriV a b c d m n w
def spFP : List Sx.Spec := spProg ++ spP0 ++ spPn
theorem spFP_id : ∀ s ∈ spProg, (s.id ≠ 9 ∧ s.id ≠ 10 ∧ s.id ≠ 11 ∧ s.id ≠ 36) ∧ kF s.id = false := by
 intro s h
 simp only [spProg, List.mem_cons, List.not_mem_nil, or_false] at h
 rcases h with rfl | rfl | rfl | rfl | rfl | rfl | rfl | rfl | rfl <;> exact ⟨by decide, rfl⟩
theorem spFP_ok (args : List Int) : ∀ s ∈ spFP, SpecOK Tryz.prog (cxF args) s := by
 intro s hs
 rcases List.mem_append.1 hs with h | h
 · rcases List.mem_append.1 h with h | h
   · exact plus_old (spFP_id s h).2 (specE (spFP_id s h).1 (spProg_ok args s h))
   · refine plus_old ?_ (spP0_ok args s h)
     simp only [spP0, List.mem_cons, List.not_mem_nil, or_false] at h
     rcases h with rfl | rfl | rfl <;> rfl
 · exact spPn_ok args s h
end Go.Proofs.YtfffpodaabdpfaaGreat
