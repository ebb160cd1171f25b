/- More known functions: products with integers, small roots. -/
import Derived.Test.YtfffpodaabdpfaaGreatSpN
import Derived.Test.YtfffpodaabdpfaaGreatRef2
import Derived.Test.YtfffpodaabdpfaaGreatMake
import Derived.Test.YtfffpodaabdpfaaGreatPAsin
import Derived.Deep.Light
set_option linter.unusedVariables false
set_option linter.unusedSimpArgs false
namespace Alm
theorem rooI_small (n : Int) (h0 : 0 ≤ n) (h1 : n < 4398046511104) : RooI n 0 2097152 := ⟨by omega, by omega, by omega, by omega, by omega⟩
end Alm
namespace Go.Proofs.YtfffpodaabdpfaaGreat
open Go.RowKit Alm Sx
set_option maxRecDepth 100000 in
theorem c_curRoot (n : Int) (w : World) (h0 : 0 ≤ n) (h1 : n < 4398046511104) :
 Calls Tryz.prog 286 #[.int .i64 n] w fun e w' => e = .returned (.int .i64 (rtV n)) ∧ w = w' := by
 have R0 := Lib.hid (rooI_small n h0 h1)
 have FIN := Lib.hid (fun lo hi (h : RooI n lo hi) q => rooI_done h h0 (by omega) q)
 generalize rtV n = R at *
 clear h1
 go_enter Tryz.func286, Tryz.ntmps286
 go_wp2
 go_loop [3, 4] (fun v3 v4 => ∃ lo hi : Int, v3 = .int .i64 lo ∧ v4 = .int .i64 hi ∧ RooI n lo hi) (fun v3 v4 => (intOf v4 - intOf v3).toNat)
 case atStart => exact ⟨0, 2097152, rfl, rfl, R0.out⟩
 case round =>
  obtain ⟨lo, hi, rfl, rfl, hI⟩ := hrel
  have b0 := hI.1
  have b1 := hI.2.1
  have b2 := hI.2.2.1
  have HI := Lib.hid hI; clear hI R0
  by_cases hg : 1 < hi - lo
  · have NX := rooI_next HI.out hg
    obtain ⟨⟨m0, m1⟩, NX⟩ := NX
    replace NX := Lib.hid NX
    clear HI FIN
    by_cases hc : (lo + hi) / 2 * ((lo + hi) / 2) ≤ n
    · go_wp2
      go_light
      exact ⟨⟨(lo + hi) / 2, hi, rfl, rfl, NX.out.1 hc⟩, by simp only [intOf]; omega⟩
    · go_wp2
      go_light
      exact ⟨⟨lo, (lo + hi) / 2, rfl, rfl, NX.out.2 hc⟩, by simp only [intOf]; omega⟩
  · have E := Lib.hid (FIN.out lo hi HI.out (by omega))
    clear HI FIN
    go_wp2
    go_ret
    exact ⟨ret_int E.out, rfl⟩
def semE : Nat → List Int → List Int
 | 9, [a, b, n] => [scLo a b n, scHi a b n, 0]
 | 10, [n] => [rtV n]
 | 11, [x, d] => fit3 (qFl x 1073741824 d) (qCe x 1073741824 d)
 | 36, [a, b] => [if asnE a b = 0 then asnL a else 0, if asnE a b = 0 then asnH b else 0, asnE a b]
 | f, xs => semB f xs
def preE : Nat → List Int → Prop
 | 9, [a, b, n] => fxV a b = true ∧ factB n = true
 | 10, [n] => 0 ≤ n ∧ n < 4398046511104
 | 11, [x, d] => MkP x d
 | 36, [a, b] => fxV a b = true
 | f, xs => preB f xs
def cxE (args : List Int) : Cx := ⟨semE, preE, args⟩
theorem semE_low {f : Nat} (h : f ≠ 9 ∧ f ≠ 10 ∧ f ≠ 11 ∧ f ≠ 36) (xs : List Int) : semE f xs = semB f xs := by
 unfold semE
 split
 · exact absurd rfl h.1
 · exact absurd rfl h.2.1
 · exact absurd rfl h.2.2.1
 · exact absurd rfl h.2.2.2
 · rfl
theorem preE_low {f : Nat} (h : f ≠ 9 ∧ f ≠ 10 ∧ f ≠ 11 ∧ f ≠ 36) (xs : List Int) : preE f xs = preB f xs := by
 unfold preE
 split
 · exact absurd rfl h.1
 · exact absurd rfl h.2.1
 · exact absurd rfl h.2.2.1
 · exact absurd rfl h.2.2.2
 · rfl
def preEb : Nat → List Int → Bool
 | 0, [a, b, c, d] => fxV a b && fxV c d
 | 1, [a, b, c, d] => fxV a b && fxV c d
 | 2, [a, b, c, d] => fxV a b && fxV c d
 | 7, [a, b, c, d] => fxV a b && fxV c d
 | 3, [a, b] => fxV a b
 | 4, [a, b] => fxV a b && decide (0 ≤ b)
 | 5, [a, b] => arcV a b
 | 6, [a, b] => arcV a b
 | 8, [_, _] => true
 | 9, [a, b, n] => fxV a b && factB n
 | 10, [n] => decide (0 ≤ n ∧ n < 4398046511104)
 | 11, [x, d] => decide ((0 < d ∧ d ≤ 1099511627776) ∧ (-1099511627776 ≤ x ∧ x ≤ 1099511627776) ∧ ((-4294967296 ≤ x ∧ x ≤ 4294967296) ∨ (-d ≤ x ∧ x ≤ d)))
 | 36, [a, b] => fxV a b
 | 20, [] => true
 | _, _ => false
theorem preEb_ok (f : Nat) (xs : List Int) (h : preEb f xs = true) : preE f xs := by
 unfold preEb at h
 split at h
 all_goals first
  | (simp only [Bool.and_eq_true] at h; exact h)
  | (simp only [Bool.and_eq_true] at h; exact ⟨h.1, of_decide_eq_true h.2⟩)
  | (have h2 := of_decide_eq_true h; exact h2)
  | exact h
  | trivial
  | cases h
theorem likeE (args : List Int) : Like (cxE args) := ⟨fun f xs h => semE_low (by omega) xs, fun f xs h hp => by
 show preE f xs
 rw [preE_low (by omega)]; exact hp⟩
theorem specE {args : List Int} {s : Sx.Spec} (h : s.id ≠ 9 ∧ s.id ≠ 10 ∧ s.id ≠ 11 ∧ s.id ≠ 36) (H : SpecOK Tryz.prog (cxB args) s) : SpecOK Tryz.prog (cxE args) s := by
 obtain ⟨a, b⟩ := H
 refine ⟨a, fun xs hp w => ?_⟩
 have hp' : preB s.id xs := by
  have : preE s.id xs := hp
  rwa [preE_low h] at this
 have := b xs hp' w
 rw [show (cxE args).sem s.id xs = (cxB args).sem s.id xs from semE_low h xs]
 exact this
theorem preE9 {xs : List Int} (hp : preE 9 xs) : ∃ a b n, xs = [a, b, n] ∧ fxV a b = true ∧ factB n = true := by
 match xs, hp with
 | [a, b, n], hp => exact ⟨a, b, n, rfl, hp⟩
theorem preE10 {xs : List Int} (hp : preE 10 xs) : ∃ n, xs = [n] ∧ 0 ≤ n ∧ n < 4398046511104 := by
 match xs, hp with
 | [n], hp => exact ⟨n, rfl, hp⟩
theorem preE11 {xs : List Int} (hp : preE 11 xs) : ∃ a b, xs = [a, b] ∧ MkP a b := by
 match xs, hp with
 | [a, b], hp => exact ⟨a, b, rfl, hp⟩
theorem preE36 {xs : List Int} (hp : preE 36 xs) : ∃ a b, xs = [a, b] ∧ fxV a b = true := by
 match xs, hp with
 | [a, b], hp => exact ⟨a, b, rfl, hp⟩
def sMake : Sx.Spec := ⟨239, 11, [(false, [some .i64]), (false, [some .i64])], [(true, [some .i64, some .i64]), (false, [some .i64])]⟩
def sAsin36 : Sx.Spec := ⟨145, 36, [(true, [some .i64, some .i64])], [(true, [some .i64, some .i64]), (false, [some .i64])]⟩
def rAsin36 : Sx.Spec := ⟨115, 36, [(true, [some .i64, some .i64])], [(true, [some .i64, some .i64]), (false, [some .i64])]⟩
def sScale : Sx.Spec := ⟨103, 9, [(true, [some .i64, some .i64]), (false, [some .i64])], [(false, [some .i64]), (false, [some .i64]), (false, [some .i64])]⟩
def rScale : Sx.Spec := ⟨248, 9, [(true, [some .i64, some .i64]), (false, [some .i64])], [(false, [some .i64]), (false, [some .i64]), (false, [some .i64])]⟩
def sCurRoot : Sx.Spec := ⟨286, 10, [(false, [some .i64])], [(false, [some .i64])]⟩
def rRoot4 : Sx.Spec := ⟨289, 10, [(false, [some .i64])], [(false, [some .i64])]⟩
def spE : List Sx.Spec := [sScale, rScale, sCurRoot, rRoot4, sMake, sAsin36, rAsin36]
theorem spE_ok (args : List Int) : ∀ s ∈ spE, SpecOK Tryz.prog (cxE args) s := by
 intro s hs
 simp only [spE, List.mem_cons, List.not_mem_nil, or_false] at hs
 rcases hs with rfl | rfl | rfl | rfl | rfl | rfl | rfl
 · refine ⟨ours _ _ _ Tryz.func103 rfl (by kernel_rfl), fun xs hp w => ?_⟩
   obtain ⟨a, b, n, rfl, h1, h2⟩ := preE9 hp
   exact c_Scale a b n w h1 h2
 · refine ⟨ours _ _ _ Tryz.func248 rfl (by kernel_rfl), fun xs hp w => ?_⟩
   obtain ⟨a, b, n, rfl, h1, h2⟩ := preE9 hp
   exact c_r4Scale a b n w h1 h2
 · refine ⟨ours _ _ _ Tryz.func286 rfl (by kernel_rfl), fun xs hp w => ?_⟩
   obtain ⟨n, rfl, h1, h2⟩ := preE10 hp
   refine (c_curRoot n w h1 h2).mono ?_
   rintro e w' ⟨he, hb⟩
   exact ⟨he, by rw [← hb]; exact Below.refl _ _⟩
 · refine ⟨ours _ _ _ Tryz.func289 rfl (by kernel_rfl), fun xs hp w => ?_⟩
   obtain ⟨n, rfl, h1, h2⟩ := preE10 hp
   refine (c_rRoot n w h1 (by omega)).mono ?_
   rintro e w' ⟨he, hb⟩
   exact ⟨he, by rw [← hb]; exact Below.refl _ _⟩
 · refine ⟨ours _ _ _ Tryz.func239 rfl (by kernel_rfl), fun xs hp w => ?_⟩
   obtain ⟨a, b, rfl, h⟩ := preE11 hp
   exact c_Make a b w h
 · refine ⟨ours _ _ _ Tryz.func145 rfl (by kernel_rfl), fun xs hp w => ?_⟩
   obtain ⟨a, b, rfl, h⟩ := preE36 hp
   exact c_pAsin a b w h
 · refine ⟨ours _ _ _ Tryz.func115 rfl (by kernel_rfl), fun xs hp w => ?_⟩
   obtain ⟨a, b, rfl, h⟩ := preE36 hp
   exact c_rAsin a b w h
def extE (t : Tab) : Nd → Option Rf
 | .app 9 2 [_, _, _] => some (.c 0)
 | x => extB t x
theorem extE_ok (args : List Int) : ExtOK (cxE args) extE := by
 intro v t x r ht h
 unfold extE at h
 split at h
 · cases h; rfl
 · exact extX_ok (likeE args) v t x r ht h
def spAll : List Sx.Spec := spProg ++ spRef4 ++ spRef6 ++ spRef7 ++ spE
theorem spAll_ok (args : List Int) : ∀ s ∈ spAll, SpecOK Tryz.prog (cxE args) s := by
 intro s hs
 rcases List.mem_append.1 hs with h | h
 · have id : s.id ≠ 9 ∧ s.id ≠ 10 ∧ s.id ≠ 11 ∧ s.id ≠ 36 := by
    simp only [spProg, spRef4, spRef6, spRef7, List.mem_append, List.mem_cons, List.not_mem_nil, or_false] at h
    rcases h with ((h | h) | h) | h
    · rcases h with rfl | rfl | rfl | rfl | rfl | rfl | rfl | rfl | rfl <;> decide
    · rcases h with rfl | rfl | rfl | rfl <;> decide
    · rcases h with rfl | rfl <;> decide
    · rcases h with rfl | rfl | rfl <;> decide
   refine specE id ?_
   rcases List.mem_append.1 h with h | h
   · rcases List.mem_append.1 h with h | h
     · exact spBoth_ok args s h
     · exact spRef6_ok args s h
   · exact spRef7_ok args s h
 · exact spE_ok args s h
end Go.Proofs.YtfffpodaabdpfaaGreat
