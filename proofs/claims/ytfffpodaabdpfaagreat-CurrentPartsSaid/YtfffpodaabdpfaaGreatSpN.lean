/- The known functions of the symbolic runs: the reference's sine and cosine. -/
import Derived.Test.YtfffpodaabdpfaaGreatSp
import Derived.Test.YtfffpodaabdpfaaGreatRefS
import Derived.Test.YtfffpodaabdpfaaGreatRIn
import Derived.Test.YtfffpodaabdpfaaGreatSxL
set_option linter.unusedVariables false
namespace Go.Proofs.YtfffpodaabdpfaaGreat
open Go.RowKit Alm Sx
theorem c_rSin (lo hi : Int) (w : World) (h : arcV lo hi = true) :
    Calls Tryz.prog 109 #[.agg #[.int .i64 lo, .int .i64 hi]] w fun e w' => e = .returned (.agg #[.int .i64 (enLo lo hi), .int .i64 (enHi lo hi)]) ∧ Below w.heap.size w w' := by
  have hv := (arcV_iff lo hi).1 h
  have C1 := fun w => c_rsine lo hi w ⟨by omega, by omega, by omega⟩
  replace C1 := Lib.hid C1
  clear h
  obtain ⟨v1, v2, v3⟩ := hv
  generalize enLo lo hi = x at *
  generalize enHi lo hi = y at *
  have K0 := Lib.hid (((ks_start w).new w.heap.size rfl /-T-/ 27 #[.int .i64 lo, .int .i64 hi]).new (w.heap.size + 1) (by simp) /-T-/ 23 #[.int .i64 0, .int .i64 0])
  go_enter Tryz.func109, Tryz.ntmps109
  go_wp2_with fail
  refine (C1.out _).mono ?_
  rintro e w1 ⟨rfl, hb1⟩
  have K1 := Lib.hid (K0.out.below hb1); clear hb1 K0
  have q0 := K1.out.c (g := w.heap.size + 1) (t := /-T-/ 23) (cs := #[.int .i64 0, .int .i64 0]) (by simp) (i := 0) rfl
  have q1 := K1.out.c (g := w.heap.size + 1) (t := /-T-/ 23) (cs := #[.int .i64 0, .int .i64 0]) (by simp) (i := 1) rfl
  have g0 := K1.out.f (g := w.heap.size + 1) (t := /-T-/ 23) (cs := #[.int .i64 0, .int .i64 0]) (by simp) 0
  have g1 := K1.out.f (g := w.heap.size + 1) (t := /-T-/ 23) (cs := #[.int .i64 0, .int .i64 0]) (by simp) 1
  go_wp2
  refine bodyPost_ret (by simp [results, Tryz.results109, go_sem, q0, q1]; try rfl) rfl ⟨rfl, by have := K1.out.1; go_light; go_grown⟩
def r6Sin : Sx.Spec := ⟨109, 5, [(true, [some .i64, some .i64])], [(true, [some .i64, some .i64])]⟩
def r6Cos : Sx.Spec := ⟨108, 6, [(true, [some .i64, some .i64])], [(true, [some .i64, some .i64])]⟩
def spRef6 : List Sx.Spec := [r6Sin, r6Cos]
theorem r6Sin_ok (args : List Int) : SpecOK Tryz.prog (cxB args) r6Sin := by
  refine ⟨ours _ _ _ Tryz.func109 rfl (by kernel_rfl), fun xs hp w => ?_⟩
  obtain ⟨a, b, rfl⟩ := pre2 (f := 5) (by simp) hp
  exact c_rSin a b w hp
theorem r6Cos_ok (args : List Int) : SpecOK Tryz.prog (cxB args) r6Cos := by
  refine ⟨ours _ _ _ Tryz.func108 rfl (by kernel_rfl), fun xs hp w => ?_⟩
  obtain ⟨a, b, rfl⟩ := pre2 (f := 6) (by simp) hp
  exact c_rCos a b w hp
theorem spRef6_ok (args : List Int) : ∀ s ∈ spRef6, SpecOK Tryz.prog (cxB args) s := by
  intro s hs
  simp only [spRef6, List.mem_cons, List.not_mem_nil, or_false] at hs
  rcases hs with rfl | rfl
  · exact r6Sin_ok args
  · exact r6Cos_ok args
theorem err_ite {c E : Int} (hc : c = b2i (E == 0)) : (if c ≠ 0 then 0 else E) = E := by
  split
  · rename_i h1
    rw [hc, b2i_iff] at h1
    exact (by simpa using h1 : E = 0).symm
  · rfl
theorem sem5e (a b : Int) : (semB 5 [a, b]).getD 2 0 = 0 := rfl
theorem sem6e (a b : Int) : (semB 6 [a, b]).getD 2 0 = 0 := rfl
theorem sem_fitV5 (a b : Int) : fxV ((semB 5 [a, b]).getD 0 0) ((semB 5 [a, b]).getD 1 0) = true := en_fx _ _
theorem sem_fitV6 (a b : Int) : fxV ((semB 6 [a, b]).getD 0 0) ((semB 6 [a, b]).getD 1 0) = true := en_fx _ _
theorem arc_prog (lo hi : Int) : (if (if b2i (decide (lo ≤ hi)) ≠ 0 then (if b2i (decide (lo ≥ -1099511627776)) ≠ 0 then b2i (decide (lo ≤ 1099511627776)) else 0) else 0) ≠ 0 then (if b2i (decide (hi ≥ -1099511627776)) ≠ 0 then b2i (decide (hi ≤ 1099511627776)) else 0) else 0) = b2i (arcV lo hi) := by
  unfold arcV
  by_cases h1 : lo ≤ hi <;> by_cases h2 : lo ≥ -1099511627776 <;> by_cases h3 : lo ≤ 1099511627776 <;> by_cases h4 : hi ≥ -1099511627776 <;> by_cases h5 : hi ≤ 1099511627776 <;> simp [b2i, h1, h2, h3, h4, h5] <;> omega
theorem arc_ref (lo hi : Int) : (if (if b2i (decide (lo ≤ hi)) ≠ 0 then b2i (decide (lo ≥ -1099511627776)) else 0) ≠ 0 then b2i (decide (hi ≤ 1099511627776)) else 0) = b2i (arcV lo hi) := by
  unfold arcV
  by_cases h1 : lo ≤ hi <;> by_cases h2 : lo ≥ -1099511627776 <;> by_cases h5 : hi ≤ 1099511627776 <;> simp [b2i, h1, h2, h5] <;> omega
end Go.Proofs.YtfffpodaabdpfaaGreat
/- The known functions of the symbolic runs: the reference's square, root, bearing. -/
set_option linter.unusedVariables false
namespace Go.Proofs.YtfffpodaabdpfaaGreat
open Go.RowKit Alm Sx
def rSq4 : Sx.Spec := ⟨222, 3, [(true, [some .i64, some .i64])], [(true, [some .i64, some .i64]), (false, [some .i64])]⟩
def rRt4 : Sx.Spec := ⟨219, 4, [(true, [some .i64, some .i64])], [(true, [some .i64, some .i64]), (false, [some .i64])]⟩
def rBear7 : Sx.Spec := ⟨86, 7, [(true, [some .i64, some .i64]), (true, [some .i64, some .i64])], [(true, [some .i64, some .i64]), (false, [some .i64])]⟩
def spRef7 : List Sx.Spec := [rSq4, rRt4, rBear7]
theorem spRef7_ok (args : List Int) : ∀ s ∈ spRef7, SpecOK Tryz.prog (cxB args) s := by
  intro s hs
  simp only [spRef7, List.mem_cons, List.not_mem_nil, or_false] at hs
  rcases hs with rfl | rfl | rfl
  · refine ⟨ours _ _ _ Tryz.func222 rfl (by kernel_rfl), fun xs hp w => ?_⟩
    obtain ⟨a, b, rfl⟩ := pre2 (f := 3) (by simp) hp
    exact c_rSquare a b w hp
  · refine ⟨ours _ _ _ Tryz.func219 rfl (by kernel_rfl), fun xs hp w => ?_⟩
    obtain ⟨a, b, rfl⟩ := pre2 (f := 4) (by simp) hp
    exact c_rSqrt a b w hp.1 hp.2
  · refine ⟨ours _ _ _ Tryz.func86 rfl (by kernel_rfl), fun xs hp w => ?_⟩
    obtain ⟨a, b, c, d, rfl, h1, h2⟩ := pre4 (f := 7) (by simp) hp
    exact c_rBearing a b c d w h1 h2
theorem sem7e (a b c d : Int) : (semB 7 [a, b, c, d]).getD 2 0 = 0 := rfl
theorem nz_eql {a : Int} (h : a ≠ 0) : b2i (a == 0) = 0 := by simp [b2i, h]
theorem nz_neq {a : Int} (h : a ≠ 0) : b2i (a != 0) = 1 := by simp [b2i, h]
theorem mm_lss (a b : Int) : (if b2i (decide (a < b)) ≠ 0 then b else a) = if b > a then b else a := by rw [b2i_dec]
theorem mm_lss2 (a b : Int) : (if b2i (decide (a < b)) ≠ 0 then b else a) = if a > b then a else b := by rw [b2i_dec]; split <;> split <;> omega
theorem mm_leq (a b : Int) : (if b2i (decide (a ≤ b)) ≠ 0 then b else a) = if b > a then b else a := by rw [b2i_dec]; split <;> split <;> omega
theorem mm_leq2 (a b : Int) : (if b2i (decide (a ≤ b)) ≠ 0 then b else a) = if a > b then a else b := by rw [b2i_dec]; split <;> split <;> omega
theorem mm_gtr (a b : Int) : (if b2i (decide (a > b)) ≠ 0 then b else a) = if b < a then b else a := by rw [b2i_dec]
theorem mm_gtr2 (a b : Int) : (if b2i (decide (a > b)) ≠ 0 then b else a) = if a < b then a else b := by rw [b2i_dec]; split <;> split <;> omega
theorem mm_geq (a b : Int) : (if b2i (decide (a ≥ b)) ≠ 0 then b else a) = if b < a then b else a := by rw [b2i_dec]; split <;> split <;> omega
theorem mm_geq2 (a b : Int) : (if b2i (decide (a ≥ b)) ≠ 0 then b else a) = if a < b then a else b := by rw [b2i_dec]; split <;> split <;> omega
theorem turn_geq (a b x y : Int) : (if b2i (decide (a ≥ b)) ≠ 0 then x else y) = if b2i (decide (a < b)) ≠ 0 then y else x := by rw [b2i_dec, b2i_dec]; split <;> split <;> first | rfl | omega
theorem turn_gtr (a b x y : Int) : (if b2i (decide (a > b)) ≠ 0 then x else y) = if b2i (decide (a ≤ b)) ≠ 0 then y else x := by rw [b2i_dec, b2i_dec]; split <;> split <;> first | rfl | omega
theorem turn_neq (a b x y : Int) : (if b2i (a != b) ≠ 0 then x else y) = if b2i (a == b) ≠ 0 then y else x := by by_cases h : a = b <;> simp [b2i, h]
theorem b2i_id (b : Bool) : (if b2i b ≠ 0 then (1 : Int) else 0) = b2i b := by cases b <;> rfl
theorem ite_fx {c x y : Int} (h : fxV x y = true) : fxV (if c ≠ 0 then 0 else x) (if c ≠ 0 then 0 else y) = true := by split; decide; exact h
theorem ite_nn {c x : Int} (h : 0 ≤ x) : 0 ≤ (if c ≠ 0 then 0 else x) := by split; exact Int.le_refl _; exact h
theorem sem3_pos (a b : Int) : 0 ≤ (semB 3 [a, b]).getD 1 0 := by
  show 0 ≤ fxfH (sqL a b) (sqH a b)
  unfold fxfH
  split
  · rename_i h
    have : 0 ≤ sqL a b := by
      unfold sqL
      split
      · decide
      · have h1 : 0 ≤ a * a := by
          rcases Int.le_total 0 a with q | q
          · exact Int.mul_nonneg q q
          · have := Int.mul_nonneg (show 0 ≤ -a by omega) (show 0 ≤ -a by omega); rwa [Int.neg_mul_neg] at this
        have h2 : 0 ≤ b * b := by
          rcases Int.le_total 0 b with q | q
          · exact Int.mul_nonneg q q
          · have := Int.mul_nonneg (show 0 ≤ -b by omega) (show 0 ≤ -b by omega); rwa [Int.neg_mul_neg] at this
        omega
    omega
  · exact Int.le_refl _
theorem sem1_pos {a b c d : Int} (hb : 0 ≤ b) (hd : 0 ≤ d) : 0 ≤ (semB 1 [a, b, c, d]).getD 1 0 := by
  show 0 ≤ fxfH (a + c) (b + d)
  unfold fxfH
  split <;> omega
theorem sem4_low (a b : Int) : 0 ≤ (semB 4 [a, b]).getD 0 0 := by
  show 0 ≤ fxfL (rtL a b) (rtH a b)
  unfold fxfL
  split
  · rename_i h
    unfold rtL at *
    by_cases q : max 0 a * 1073741824 ≤ 2305843009213693952
    · exact (rtV_is _ (by omega) q).1
    · have z : ∀ (j : Nat) (k n : Int), 0 ≤ k → 0 ≤ rtF j k n := by
        intro j
        induction j with
        | zero => intro k n hk; exact hk
        | succ j ih =>
          intro k n hk
          rw [rtF_succ]
          have hp : (0 : Int) < 2^j := Int.pow_pos (by decide)
          split
          · exact ih _ _ (by omega)
          · exact ih _ _ hk
      exact z 32 0 _ (Int.le_refl _)
  · exact Int.le_refl _
end Go.Proofs.YtfffpodaabdpfaaGreat
/- The normal form of nodes with the known functions of package fixed, trig and arctrig; a check of a run's conditions. -/
set_option linter.unusedVariables false
set_option linter.unusedSimpArgs false
namespace Go.Proofs.YtfffpodaabdpfaaGreat
open Go.RowKit Alm Sx
theorem fitG {f : Nat} (hf : f ≤ 4) (xs : List Int) {i : Nat} (hi : i < 2) (h : (semB f xs).getD 2 0 ≠ 0) : (semB f xs).getD i 0 = 0 := by
  have key : ∀ L H : Int, (fit3 L H).getD 2 0 ≠ 0 → (fit3 L H).getD i 0 = 0 := by
    intro L H h
    have := (fit_e L H).2.1 h
    have hi' : i = 0 ∨ i = 1 := by omega
    rcases hi' with rfl | rfl
    · exact this.1
    · exact this.2
  revert h
  unfold semB
  split
  all_goals intro h
  all_goals first
    | exact key _ _ h
    | exact absurd rfl h
    | omega
theorem fxG {f : Nat} (hf : f ≤ 6) (xs : List Int) : fxV ((semB f xs).getD 0 0) ((semB f xs).getD 1 0) = true := by
  unfold semB
  split
  all_goals first
    | exact (fit_e _ _).2.2
    | exact en_fx _ _
    | omega
    | rfl
theorem e0G {f : Nat} (hf : f = 5 ∨ f = 6 ∨ f = 7) (xs : List Int) : (semB f xs).getD 2 0 = 0 := by
  unfold semB
  split
  all_goals first
    | omega
    | rfl
/-- a context whose first known functions are those of semB -/
structure Like (X : Cx) : Prop where
  sem : ∀ (f : Nat) (xs : List Int), f ≤ 8 → X.sem f xs = semB f xs
  pre : ∀ (f : Nat) (xs : List Int), f ≤ 8 ∨ f = 20 → preB f xs → X.pre f xs
theorem likeB (args : List Int) : Like (cxB args) := ⟨fun _ _ _ => rfl, fun _ _ _ h => h⟩
theorem Like.at {X : Cx} (L : Like X) {v : Nat → Int} {r : Rf} {f i : Nat} {xs : List Rf} (hf : f ≤ 8) (h : r.val v = (Nd.app f i xs).val X v) : r.val v = (semB f (xs.map (Rf.val v))).getD i 0 := by
  rw [h]; simp only [Nd.val]; rw [L.sem _ _ hf]
def extB (t : Tab) : Nd → Option Rf
  | .app f i xs => if Nat.beq i 2 && (Nat.beq f 5 || (Nat.beq f 6 || Nat.beq f 7)) then some (.c 0) else none
  | .ite c (.c (.ofNat 0)) x => match defOf c t with
    | some (.bin .neq _ e (.c (.ofNat 0))) => match defOf e t with
      | some (.app f 2 xs) => match defOf x t with
        | some (.app g i ys) => if Nat.beq f g && (Nat.blt i 2 && (Nat.ble f 4 && rfsEq xs ys)) then some x else none
        | _ => none
      | _ => none
    | _ => none
  | _ => none
theorem extX_ok {X : Cx} (L : Like X) : ExtOK X extB := by
  intro v t x r ht h
  unfold extB at h
  split at h
  · rename_i f i xs
    split at h
    · rename_i hc
      cases h
      simp only [Bool.and_eq_true, Bool.or_eq_true] at hc
      have hi := Nat.eq_of_beq_eq_true hc.1
      subst hi
      have hf : f = 5 ∨ f = 6 ∨ f = 7 := by
        rcases hc.2 with q | q | q
        · exact .inl (Nat.eq_of_beq_eq_true q)
        · exact .inr (.inl (Nat.eq_of_beq_eq_true q))
        · exact .inr (.inr (Nat.eq_of_beq_eq_true q))
      have e : (Nd.app f 2 xs).val X v = (semB f (xs.map (Rf.val v))).getD 2 0 := by simp only [Nd.val]; rw [L.sem _ _ (by omega)]
      rw [e]
      exact (e0G hf _).symm
    · cases h
  · rename_i c x
    split at h
    · rename_i k e hd
      split at h
      · rename_i f xs he
        split at h
        · rename_i g i ys hx
          split at h
          · rename_i hc
            cases h
            simp only [Bool.and_eq_true] at hc
            obtain ⟨h1, h2, h3, h4⟩ := hc
            have hfg := Nat.eq_of_beq_eq_true h1
            subst hfg
            have hxy := rfsEq_eq h4
            subst hxy
            have hi : i < 2 := by simpa using h2
            have hf : f ≤ 4 := Nat.le_of_ble_eq_true h3
            have e1 : c.val v = b2i (e.val v != 0) := defOf_ok ht hd
            have e2 : e.val v = (semB f (xs.map (Rf.val v))).getD 2 0 := L.at (by omega) (defOf_ok ht he)
            have e3 : r.val v = (semB f (xs.map (Rf.val v))).getD i 0 := L.at (by omega) (defOf_ok ht hx)
            show r.val v = if c.val v ≠ 0 then (0 : Int) else r.val v
            split
            · rename_i hq
              rw [e1, b2i_iff] at hq
              rw [e3]
              exact fitG hf _ hi (by rw [← e2]; simpa using hq)
            · rfl
          · cases h
        · cases h
      · cases h
    · cases h
  · cases h
theorem extB_ok (args : List Int) : ExtOK (cxB args) extB := extX_ok (likeB args)
def memP (a b : Rf) : List (Rf × Rf) → Bool
  | [] => false
  | (x, y) :: l => (Rf.eq x a && Rf.eq y b) || memP a b l
theorem memP_mem {a b : Rf} : ∀ {l : List (Rf × Rf)}, memP a b l = true → (a, b) ∈ l
  | (x, y) :: l, h => by
    simp only [memP, Bool.or_eq_true, Bool.and_eq_true] at h
    rcases h with ⟨h, k⟩ | h
    · rw [Rf.eq_eq h, Rf.eq_eq k]; exact List.mem_cons_self ..
    · exact List.mem_cons_of_mem _ (memP_mem h)
/-- surely a valid interval -/
def pairOK (t : Tab) (av : List (Rf × Rf)) : Nat → Rf → Rf → Bool
  | _, .c x, .c y => fxV x y
  | 0, _, _ => false
  | n + 1, a, b => memP a b av || (match defOf a t with
    | some (.app f 0 xs) => (match defOf b t with
      | some (.app g 1 ys) => Nat.beq f g && (Nat.ble f 6 && rfsEq xs ys)
      | _ => false)
    | some (.ite c p x) => (match defOf b t with
      | some (.ite d q y) => Rf.eq c d && (pairOK t av n p q && pairOK t av n x y)
      | _ => false)
    | _ => false)
theorem pairOK_ok {X : Cx} (L : Like X) {v : Nat → Int} {t : Tab} (ht : TabOK X v t) {av : List (Rf × Rf)} (ha : ∀ p ∈ av, fxV (p.1.val v) (p.2.val v) = true) : ∀ (n : Nat) (a b : Rf), pairOK t av n a b = true → fxV (a.val v) (b.val v) = true := by
  intro n
  induction n with
  | zero =>
    intro a b h
    cases a <;> cases b <;> simp only [pairOK] at h
    · exact h
    all_goals cases h
  | succ n ih =>
    intro a b h
    have key : (memP a b av || (match defOf a t with
        | some (.app f 0 xs) => (match defOf b t with
          | some (.app g 1 ys) => Nat.beq f g && (Nat.ble f 6 && rfsEq xs ys)
          | _ => false)
        | some (.ite c p x) => (match defOf b t with
          | some (.ite d q y) => Rf.eq c d && (pairOK t av n p q && pairOK t av n x y)
          | _ => false)
        | _ => false)) = true → fxV (a.val v) (b.val v) = true := by
      intro h
      rw [Bool.or_eq_true] at h
      rcases h with h | h
      · exact ha _ (memP_mem h)
      · split at h
        · rename_i f xs hd
          split at h
          · rename_i g ys hb
            simp only [Bool.and_eq_true] at h
            obtain ⟨h1, h2, h3⟩ := h
            have hfg := Nat.eq_of_beq_eq_true h1
            subst hfg
            have hxy := rfsEq_eq h3
            subst hxy
            have hf6 := Nat.le_of_ble_eq_true h2
            have e1 : a.val v = (semB f (xs.map (Rf.val v))).getD 0 0 := L.at (by omega) (defOf_ok ht hd)
            have e2 : b.val v = (semB f (xs.map (Rf.val v))).getD 1 0 := L.at (by omega) (defOf_ok ht hb)
            rw [e1, e2]
            exact fxG (Nat.le_of_ble_eq_true h2) _
          · cases h
        · rename_i c p x hd
          split at h
          · rename_i d q y hb
            simp only [Bool.and_eq_true] at h
            obtain ⟨h1, h2, h3⟩ := h
            have e1 : a.val v = if c.val v ≠ 0 then p.val v else x.val v := defOf_ok ht hd
            have e2 : b.val v = if d.val v ≠ 0 then q.val v else y.val v := defOf_ok ht hb
            rw [e1, e2, ← Rf.eq_eq h1]
            split
            · exact ih _ _ h2
            · exact ih _ _ h3
          · cases h
        · cases h
    cases a <;> cases b <;> simp only [pairOK] at h
    · exact h
    all_goals exact key h
/-- surely not negative -/
def nnOK (t : Tab) : Nat → Rf → Bool
  | _, .c z => decide (0 ≤ z)
  | 0, _ => false
  | n + 1, a => match defOf a t with
    | some (.app 3 1 _) => true
    | some (.app 4 0 _) => true
    | some (.app 1 1 [_, b, _, d]) => nnOK t n b && nnOK t n d
    | some (.ite _ p x) => nnOK t n p && nnOK t n x
    | _ => false
theorem sem3G (xs : List Int) : 0 ≤ (semB 3 xs).getD 1 0 := by
  match xs with
  | [a, b] => exact sem3_pos a b
  | [] => exact Int.le_refl _
  | [_] => exact Int.le_refl _
  | _ :: _ :: _ :: _ => exact Int.le_refl _
theorem sem4G (xs : List Int) : 0 ≤ (semB 4 xs).getD 0 0 := by
  match xs with
  | [a, b] => exact sem4_low a b
  | [] => exact Int.le_refl _
  | [_] => exact Int.le_refl _
  | _ :: _ :: _ :: _ => exact Int.le_refl _
theorem nnOK_ok {X : Cx} (L : Like X) {v : Nat → Int} {t : Tab} (ht : TabOK X v t) : ∀ (n : Nat) (a : Rf), nnOK t n a = true → 0 ≤ a.val v := by
  intro n
  induction n with
  | zero =>
    intro a h
    cases a <;> simp only [nnOK] at h
    · exact of_decide_eq_true h
    · cases h
  | succ n ih =>
    intro a h
    cases a with
    | c z => simp only [nnOK] at h; exact of_decide_eq_true h
    | n i =>
      simp only [nnOK] at h
      split at h
      · rename_i xs hd
        have e : (Rf.n i).val v = (semB 3 (xs.map (Rf.val v))).getD 1 0 := L.at (by omega) (defOf_ok ht hd)
        rw [e]; exact sem3G _
      · rename_i xs hd
        have e : (Rf.n i).val v = (semB 4 (xs.map (Rf.val v))).getD 0 0 := L.at (by omega) (defOf_ok ht hd)
        rw [e]; exact sem4G _
      · rename_i a b c d hd
        simp only [Bool.and_eq_true] at h
        have e : (Rf.n i).val v = (semB 1 [a.val v, b.val v, c.val v, d.val v]).getD 1 0 := L.at (by omega) (defOf_ok ht hd)
        rw [e]; exact sem1_pos (ih _ h.1) (ih _ h.2)
      · rename_i c p x hd
        simp only [Bool.and_eq_true] at h
        have e : (Rf.n i).val v = if c.val v ≠ 0 then p.val v else x.val v := defOf_ok ht hd
        rw [e]; split
        · exact ih _ h.1
        · exact ih _ h.2
      · cases h
abbrev Fact := (Rf × Bool) × (Rf × Rf)
def inPath (r : Rf) (b : Bool) : Path → Bool
  | [] => false
  | (x, c) :: l => (Rf.eq x r && (b == c)) || inPath r b l
theorem inPath_mem {r : Rf} {b : Bool} : ∀ {p : Path}, inPath r b p = true → (r, b) ∈ p
  | (x, c) :: l, h => by
    simp only [inPath, Bool.or_eq_true, Bool.and_eq_true] at h
    rcases h with ⟨h, k⟩ | h
    · rw [Rf.eq_eq h, eq_of_beq k]; exact List.mem_cons_self ..
    · exact List.mem_cons_of_mem _ (inPath_mem h)
def factsOf (p : Path) : List Fact → List (Rf × Rf)
  | [] => []
  | e :: l => if inPath e.1.1 e.1.2 p then e.2 :: factsOf p l else factsOf p l
theorem factsOf_mem {p : Path} {q : Rf × Rf} : ∀ {fs : List Fact}, q ∈ factsOf p fs → ∃ e ∈ fs, e.2 = q ∧ e.1 ∈ p
  | e :: l, h => by
    simp only [factsOf] at h
    split at h
    · rename_i hp
      rcases List.mem_cons.1 h with rfl | h
      · exact ⟨e, List.mem_cons_self .., rfl, inPath_mem hp⟩
      · obtain ⟨e', a, b⟩ := factsOf_mem h; exact ⟨e', List.mem_cons_of_mem _ a, b⟩
    · obtain ⟨e', a, b⟩ := factsOf_mem h; exact ⟨e', List.mem_cons_of_mem _ a, b⟩
/-- surely the condition holds -/
def preOK (t : Tab) (av ar : List (Rf × Rf)) (f : Nat) : List Rf → Bool
  | [a, b, c, d] => (Nat.beq f 0 || (Nat.beq f 1 || (Nat.beq f 2 || Nat.beq f 7))) && (pairOK t av 20 a b && pairOK t av 20 c d)
  | [a, b] => if Nat.beq f 8 then true else if Nat.beq f 3 then pairOK t av 20 a b else if Nat.beq f 4 then pairOK t av 20 a b && nnOK t 20 b else (Nat.beq f 5 || Nat.beq f 6) && memP a b ar
  | [] => Nat.beq f 20
  | _ => false
theorem preOK_ok {X : Cx} (L : Like X) {v : Nat → Int} {t : Tab} (ht : TabOK X v t) {av ar : List (Rf × Rf)} (ha : ∀ p ∈ av, fxV (p.1.val v) (p.2.val v) = true) (hr : ∀ p ∈ ar, arcV (p.1.val v) (p.2.val v) = true) {f : Nat} {xs : List Rf} (h : preOK t av ar f xs = true) : X.pre f (xs.map (Rf.val v)) := by
  unfold preOK at h
  split at h
  · rename_i a b c d
    simp only [Bool.and_eq_true, Bool.or_eq_true] at h
    obtain ⟨hf, h1, h2⟩ := h
    have p1 := pairOK_ok L ht ha _ _ _ h1
    have p2 := pairOK_ok L ht ha _ _ _ h2
    rcases hf with q | q | q | q <;> (have := Nat.eq_of_beq_eq_true q; subst this; exact L.pre _ _ (by omega) ⟨p1, p2⟩)
  · rename_i a b
    split at h
    · rename_i q; have := Nat.eq_of_beq_eq_true q; subst this; exact L.pre _ _ (by omega) trivial
    · split at h
      · rename_i q; have := Nat.eq_of_beq_eq_true q; subst this; exact L.pre _ _ (by omega) (pairOK_ok L ht ha _ _ _ h)
      · split at h
        · rename_i q; have := Nat.eq_of_beq_eq_true q; subst this
          simp only [Bool.and_eq_true] at h
          exact L.pre _ _ (by omega) ⟨pairOK_ok L ht ha _ _ _ h.1, nnOK_ok L ht _ _ h.2⟩
        · simp only [Bool.and_eq_true, Bool.or_eq_true] at h
          have p := hr _ (memP_mem h.2)
          rcases h.1 with q | q <;> (have := Nat.eq_of_beq_eq_true q; subst this; exact L.pre _ _ (by omega) p)
  · have := Nat.eq_of_beq_eq_true h; subst this; exact L.pre _ _ (by omega) trivial
  · cases h
def memN (n : Nat) : List Nat → Bool
  | [] => false
  | x :: l => Nat.beq x n || memN n l
def vcOK (s : Ns) (fs rs : List Fact) (sk : List Nat) (c : Vc) : Bool := match c.k with
  | .pre f xs => memN f sk || preOK s.tab (factsOf c.path fs) (factsOf c.path rs) f (xs.map s.rep)
  | _ => false
def allVc (s : Ns) (fs rs : List Fact) (sk : List Nat) : List Vc → Bool
  | [] => true
  | c :: l => vcOK s fs rs sk c && allVc s fs rs sk l
def checkV (nd : List Nd) (fs rs : List Fact) (l : List Vc) : Bool := allVc (norm extB [] [] nd) fs rs [] l
/-- the same, but for the conditions of some functions -/
def checkW (nd : List Nd) (fs rs : List Fact) (sk : List Nat) (l : List Vc) : Bool := allVc (norm extB [] [] nd) fs rs sk l
theorem allVc_ok {X : Cx} (L : Like X) {v : Nat → Int} {s : Ns} (h : NsOK X v s) {fs rs : List Fact} {sk : List Nat}
    (hf : ∀ e ∈ fs, decide (e.1.1.val v ≠ 0) = e.1.2 → fxV (e.2.1.val v) (e.2.2.val v) = true) (hr : ∀ e ∈ rs, decide (e.1.1.val v ≠ 0) = e.1.2 → arcV (e.2.1.val v) (e.2.2.val v) = true) : ∀ (l : List Vc), (∀ c ∈ l, ∀ f xs, c.k = .pre f xs → memN f sk = true → c.holds X v) → allVc s fs rs sk l = true → ∀ c ∈ l, c.holds X v
  | [], _, _ => fun c hc => by cases hc
  | c :: l, hk, ha => by
    simp only [allVc, Bool.and_eq_true] at ha
    intro d hd
    rcases List.mem_cons.1 hd with rfl | hd
    · have h1 := ha.1
      have hkd := hk d (List.mem_cons_self ..)
      obtain ⟨path, k⟩ := d
      unfold vcOK at h1
      split at h1
      · rename_i f xs hk
        simp only at hk
        subst hk
        rw [Bool.or_eq_true] at h1
        rcases h1 with h1 | h1
        · exact hkd f xs rfl h1
        · intro hp
          have q := preOK_ok L h.2.2 (av := factsOf path fs) (ar := factsOf path rs) (fun p hp' => by
              obtain ⟨e, a, b, c⟩ := factsOf_mem hp'
              rw [← b]; exact hf e a (hp _ c)) (fun p hp' => by
              obtain ⟨e, a, b, c⟩ := factsOf_mem hp'
              rw [← b]; exact hr e a (hp _ c)) h1
          rw [List.map_map] at q
          have e : xs.map (Rf.val v ∘ s.rep) = xs.map (Rf.val v) := List.map_congr_left fun r _ => rep_ok h r
          rw [e] at q
          exact q
      · cases h1
    · exact allVc_ok L h hf hr l (fun c hc => hk c (List.mem_cons_of_mem _ hc)) ha.2 d hd
/-- **The conditions of a run hold** -/
theorem checkV_ok {args : List Int} {v : Nat → Int} {nd : List Nd} (hs : SatN (cxB args) v nd.reverse) {fs rs : List Fact} {l : List Vc}
    (hf : ∀ e ∈ fs, decide (e.1.1.val v ≠ 0) = e.1.2 → fxV (e.2.1.val v) (e.2.2.val v) = true) (hr : ∀ e ∈ rs, decide (e.1.1.val v ≠ 0) = e.1.2 → arcV (e.2.1.val v) (e.2.2.val v) = true) (h : checkV nd fs rs l = true) : ∀ c ∈ l, c.holds (cxB args) v :=
  allVc_ok (likeB args) (norm_ok (extB_ok args) hs ps_nil nz_nil) hf hr l (fun _ _ _ _ _ q => by cases q) h
theorem checkW_ok {X : Cx} (L : Like X) {v : Nat → Int} {nd : List Nd} (hs : SatN X v nd.reverse) {fs rs : List Fact} {sk : List Nat} {l : List Vc}
    (hf : ∀ e ∈ fs, decide (e.1.1.val v ≠ 0) = e.1.2 → fxV (e.2.1.val v) (e.2.2.val v) = true) (hr : ∀ e ∈ rs, decide (e.1.1.val v ≠ 0) = e.1.2 → arcV (e.2.1.val v) (e.2.2.val v) = true) (hk : ∀ c ∈ l, ∀ f xs, c.k = .pre f xs → memN f sk = true → c.holds X v) (h : checkW nd fs rs sk l = true) : ∀ c ∈ l, c.holds X v :=
  allVc_ok L (norm_ok (extX_ok L) hs ps_nil nz_nil) hf hr l hk h
end Go.Proofs.YtfffpodaabdpfaaGreat
