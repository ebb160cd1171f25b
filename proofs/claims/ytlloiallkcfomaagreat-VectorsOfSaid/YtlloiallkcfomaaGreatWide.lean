/- The contracts of package wide: products and quotients. -/
import Derived.Test.YtlloiallkcfomaaGreatTrigTop
set_option linter.unusedVariables false
namespace Go.Proofs.YtlloiallkcfomaaGreat
open Go.RowKit Alm

theorem and60 (x : Int) (h : I64 x) : bits .and .i64 x 1152921504606846975 = x % 1152921504606846976 := by
  obtain ⟨h1, h2⟩ := h
  show IntKind.i64.wrap ((BitVec.ofInt 64 x &&& BitVec.ofInt 64 1152921504606846975).toNat : Int) = _
  have e1 : (BitVec.ofInt 64 1152921504606846975).toNat = 2^60 - 1 := by decide
  rw [BitVec.toNat_and, e1, Nat.and_two_pow_sub_one_eq_mod, BitVec.toNat_ofInt, IntKind.wrap_i64]
  omega
theorem and60u (x : Int) (h : U64 x) : bits .and .u64 x 1152921504606846975 = x % 1152921504606846976 := by
  obtain ⟨h1, h2⟩ := h
  show IntKind.u64.wrap ((BitVec.ofInt 64 x &&& BitVec.ofInt 64 1152921504606846975).toNat : Int) = _
  have e1 : (BitVec.ofInt 64 1152921504606846975).toNat = 2^60 - 1 := by decide
  rw [BitVec.toNat_and, e1, Nat.and_two_pow_sub_one_eq_mod, BitVec.toNat_ofInt, IntKind.wrap_u64]
  omega
theorem or_add (x y : Nat) (k : Nat) (hy : y < 2^k) (hx : x * 2^k + y < 18446744073709551616) : bits .or .u64 ((x * 2^k : Nat) : Int) (y : Int) = ((x * 2^k + y : Nat) : Int) := by
  show IntKind.u64.wrap ((BitVec.ofInt 64 ((x * 2^k : Nat) : Int) ||| BitVec.ofInt 64 (y : Int)).toNat : Int) = _
  have e : ∀ a : Nat, a < 18446744073709551616 → (BitVec.ofInt 64 (a : Int)).toNat = a := by
    intro a ha
    rw [BitVec.ofInt_natCast, BitVec.toNat_ofNat]; exact Nat.mod_eq_of_lt (by omega)
  rw [BitVec.toNat_or, e _ (by omega), e _ (by omega), IntKind.wrap_u64]
  have h2 : x * 2^k ||| y = x * 2^k + y := by
    rw [Nat.mul_comm x, ← Nat.two_pow_add_eq_or_of_lt hy]
  rw [h2]; omega

theorem c_wabs (n : Int) (w : World) (h : I64 n) :
    Calls Tryz.prog 172 #[.int .i64 n] w fun e w' => e = .returned (.int .u64 (n.natAbs : Int)) ∧ w = w' := by
  obtain ⟨h1, h2⟩ := h
  go_enter Tryz.func172, Tryz.ntmps172
  go_wp2
  · go_ret
    exact ⟨ret_int (by have : n < 0 := by assumption
                       rw [IntKind.wrap_u64, IntKind.wrap_u64]; omega), rfl⟩
  · go_ret
    exact ⟨ret_int (by have : 0 ≤ n := by assumption
                       omega), rfl⟩

/-- a wide integer -/
structure WV (hi lo V : Int) : Prop where
  h0 : 0 ≤ lo
  h1 : lo < 1152921504606846976
  hv : V = hi * 1152921504606846976 + lo
  v0 : -1267650600228229401496703205376 ≤ V
  v1 : V ≤ 1267650600228229401496703205376
theorem wv_mk (V : Int) (v0 : -1267650600228229401496703205376 ≤ V) (v1 : V ≤ 1267650600228229401496703205376) : WV (V / 1152921504606846976) (V % 1152921504606846976) V :=
  ⟨by omega, by omega, by omega, v0, v1⟩
theorem WV.hi {hi lo V : Int} (h : WV hi lo V) : -1099511627776 ≤ hi ∧ hi ≤ 1099511627776 := by
  obtain ⟨a, b, c, d, e⟩ := h; omega
theorem c_wValid (hi lo V : Int) (w : World) (h : WV hi lo V) :
    Calls Tryz.prog 191 #[.agg #[.int .i64 hi, .int .i64 lo]] w fun e w' => e = .returned (.bool true) ∧ Below w.heap.size w w' := by
  have h1 := h.hi
  have h2 := h.h0; have h3 := h.h1
  go_enter Tryz.func191, Tryz.ntmps191
  go_wp2
  all_goals first
    | (exfalso; omega)
    | (go_ret; exact ⟨rfl, by go_grown⟩)
set_option maxRecDepth 100000 in
theorem c_wfit (hi lo V : Int) (w : World) (h1 : I64 lo) (h2 : V = hi * 1152921504606846976 + lo) (v0 : -1267650600228229401496703205376 ≤ V) (v1 : V ≤ 1267650600228229401496703205376) :
    Calls Tryz.prog 190 #[.int .i64 hi, .int .i64 lo] w fun e w' => e = .returned (.tuple #[.agg #[.int .i64 (V / 1152921504606846976), .int .i64 (V % 1152921504606846976)], .int .i64 0]) ∧ Below w.heap.size w w' := by
  have hw := wv_mk V v0 v1
  have CV := Lib.hid (fun w => c_wValid _ _ V w hw)
  have ha := Lib.hid (and60 lo h1)
  obtain ⟨h3, h4⟩ := h1
  have b1 : -2199023255552 ≤ hi ∧ hi ≤ 2199023255552 := by omega
  obtain ⟨b2, b3⟩ := b1
  have e1 : hi + lo / 1152921504606846976 = V / 1152921504606846976 := by omega
  have e2 : lo % 1152921504606846976 = V % 1152921504606846976 := by omega
  have E1 := Lib.hid e1; have E2 := Lib.hid e2; clear e1 e2 h2 v0 v1 hw
  generalize V / 1152921504606846976 = x at *
  generalize V % 1152921504606846976 = y at *
  have PR := Lib.hid (p2_new w (.int .i64 0) (.int .i64 0) /-T-/ 156)
  have PB := Lib.hid (p2_new (w.alloc (.cells #[.int .i64 0, .int .i64 0] /-T-/ 156)) (.int .i64 x) (.int .i64 y) /-T-/ 156)
  go_enter Tryz.func190, Tryz.ntmps190
  go_wp2_with fail
  rw [ha.out, E1.out, E2.out]
  refine (CV.out _).mono ?_
  rintro e w1 ⟨rfl, hb1⟩
  have H1 := Lib.hid hb1; clear hb1
  have PR1 := Lib.hid ((PR.out.alloc (by simp) _).below H1.out (by simp; omega))
  have PB1 := Lib.hid (PB.out.below H1.out (by simp))
  obtain ⟨r0, r1, g0, g1⟩ := PR1.out
  obtain ⟨p0, p1, _, _⟩ := PB1.out
  simp only [World.size_alloc] at p0 p1
  have HB1 : Hid (Below w.heap.size w w1) := (((Below.refl _ _).alloc (Nat.le_refl _) _).alloc (by simp) _).trans (H1.out.mono (by simp; omega))
  go_wp2
  refine bodyPost_ret (v := .tuple #[.agg #[.int .i64 x, .int .i64 y], .int .i64 0]) (by simp [results, Tryz.results190, go_sem, r0, r1]) rfl ⟨rfl, by have := HB1.out; go_grown⟩

theorem or60 (M L : Int) (h0 : 0 ≤ M) (h1 : M < 18446744073709551616) (h2 : 0 ≤ L) (h3 : L < 1152921504606846976) :
    bits .or .u64 (IntKind.u64.wrap (M * 1152921504606846976)) L = (M * 1152921504606846976 + L) % 18446744073709551616 := by
  obtain ⟨l, rfl⟩ := Int.eq_ofNat_of_zero_le h2
  obtain ⟨m, rfl⟩ := Int.eq_ofNat_of_zero_le h0
  have e : IntKind.u64.wrap ((m : Int) * 1152921504606846976) = (((m % 16) * 2^60 : Nat) : Int) := by rw [IntKind.wrap_u64]; omega
  rw [e, or_add _ _ _ (by omega) (by omega)]
  omega
theorem ret_s3 {k k' : IntKind} {a b c d : Int} {p q : Bool} (h : a = b) (h' : c = d) (h'' : p = q) : Ending.returned (.agg #[.int k a, .int k' c, .bool p]) = .returned (.agg #[.int k b, .int k' d, .bool q]) := by rw [h, h', h'']
/-- the size of a wide integer -/
theorem c_wsizeOf (hi lo V : Int) (w : World) (h : WV hi lo V) :
    Calls Tryz.prog 192 #[.agg #[.int .i64 hi, .int .i64 lo]] w fun e w' => e = .returned (.agg #[.int .u64 ((V.natAbs / 18446744073709551616 : Nat) : Int), .int .u64 ((V.natAbs % 18446744073709551616 : Nat) : Int), .bool (decide (V < 0))]) ∧ Below w.heap.size w w' := by
  obtain ⟨h1, h2⟩ := h.hi
  obtain ⟨h3, h4, hv, v0, v1⟩ := h
  by_cases hneg : hi < 0
  · have ha := and60 (-lo) ⟨by omega, by omega⟩
    have k1 : (-hi + -lo / 1152921504606846976) * 1152921504606846976 + -lo % 1152921504606846976 = -V := by omega
    have k2 : 0 ≤ -hi + -lo / 1152921504606846976 ∧ -hi + -lo / 1152921504606846976 ≤ 1099511627776 := by omega
    have ho := or60 (-hi + -lo / 1152921504606846976) (-lo % 1152921504606846976) (by omega) (by omega) (by omega) (by omega)
    have hw : IntKind.u64.wrap (-lo % 1152921504606846976) = -lo % 1152921504606846976 := by rw [IntKind.wrap_u64]; omega
    have HA := Lib.hid ha; have HO := Lib.hid ho; have HW := Lib.hid hw; have K1 := Lib.hid k1; have K2 := Lib.hid k2; have HV := Lib.hid hv
    clear ha ho hw k1 k2 hv v0 v1
    have hd : decide (hi < 0) = true := by simpa using hneg
    go_enter Tryz.func192, Tryz.ntmps192
    go_wp2
    go_quiet (fail)
    go_wp2
    refine bodyPost_ret (by simp [results, Tryz.results192, go_sem]; try rfl) rfl ?_
    have k1 := K1.out; have k2 := K2.out
    refine ⟨ret_s3 ?_ ?_ ?_, by (go_grown; exact below_drewN (by go_grown) _)⟩
    · have hv := HV.out; omega
    · rw [HA.out, HW.out, HO.out]; have hv := HV.out; omega
    · have hv := HV.out; simp; omega
  · have ho := or60 hi lo (by omega) (by omega) (by omega) (by omega)
    have HO := Lib.hid ho; have HV := Lib.hid hv
    clear ho hv v0 v1
    have hd : decide (hi < 0) = false := by simpa using hneg
    go_enter Tryz.func192, Tryz.ntmps192
    go_wp2
    go_quiet (fail)
    go_wp2
    refine bodyPost_ret (by simp [results, Tryz.results192, go_sem]; try rfl) rfl ?_
    refine ⟨ret_s3 ?_ ?_ ?_, by (go_grown; exact below_drewN (by go_grown) _)⟩
    · have hv := HV.out; omega
    · rw [HO.out]; have hv := HV.out; omega
    · have hv := HV.out; simp; omega
theorem orS4 (P : Nat) (hP : P ≤ 1267650600228229401496703205376) : bits .or .u64 (((P / 18446744073709551616 : Nat) : Int) * 16) (((P % 18446744073709551616 : Nat) : Int) / 1152921504606846976) = ((P / 1152921504606846976 : Nat) : Int) := by
  have e : ((P / 18446744073709551616 : Nat) : Int) * 16 = (((P / 18446744073709551616) * 2^4 : Nat) : Int) := by omega
  have e2 : ((P % 18446744073709551616 : Nat) : Int) / 1152921504606846976 = ((P % 18446744073709551616 / 1152921504606846976 : Nat) : Int) := by omega
  rw [e, e2, or_add _ _ _ (by omega) (by omega)]
  omega
theorem w64i (x : Int) (h : -9223372036854775808 ≤ x ∧ x ≤ 9223372036854775807) : wrap64 x = x := by unfold wrap64; omega
set_option maxRecDepth 100000 in
/-- a size as a wide integer -/
theorem c_wsize (P : Nat) (neg : Bool) (w : World) (hP : P ≤ 1267650600228229401496703205376) :
    Calls Tryz.prog 173 #[.agg #[.int .u64 ((P / 18446744073709551616 : Nat) : Int), .int .u64 ((P % 18446744073709551616 : Nat) : Int), .bool neg]] w fun e w' =>
      e = .returned (.tuple #[.agg #[.int .i64 ((if neg then -(P : Int) else P) / 1152921504606846976), .int .i64 ((if neg then -(P : Int) else P) % 1152921504606846976)], .int .i64 0]) ∧ Below w.heap.size w w' := by
  have b1 : ((P / 18446744073709551616 : Nat) : Int) ≤ 68719476736 := by omega
  have b2 : ((P % 18446744073709551616 : Nat) : Int) < 18446744073709551616 := by omega
  have b3 : (0 : Int) ≤ ((P / 18446744073709551616 : Nat) : Int) := by omega
  have b4 : (0 : Int) ≤ ((P % 18446744073709551616 : Nat) : Int) := by omega
  have HO := Lib.hid (orS4 P hP)
  have HA := Lib.hid (and60u ((P % 18446744073709551616 : Nat) : Int) ⟨by omega, by omega⟩)
  have HF := Lib.hid (fun w hi lo V h1 h2 h3 h4 => c_wfit hi lo V w h1 h2 h3 h4)
  have E1 := Lib.hid (show ((P / 1152921504606846976 : Nat) : Int) * 1152921504606846976 + ((P % 18446744073709551616 : Nat) : Int) % 1152921504606846976 = P by omega)
  have B1 := Lib.hid (show 0 ≤ ((P / 1152921504606846976 : Nat) : Int) ∧ ((P / 1152921504606846976 : Nat) : Int) ≤ 1099511627776 by omega)
  have B2 := Lib.hid (show 0 ≤ ((P % 18446744073709551616 : Nat) : Int) % 1152921504606846976 ∧ ((P % 18446744073709551616 : Nat) : Int) % 1152921504606846976 < 1152921504606846976 by omega)
  generalize ((P / 18446744073709551616 : Nat) : Int) = x at *
  generalize ((P % 18446744073709551616 : Nat) : Int) = y at *
  have B1' := B1.out; have B2' := B2.out; have E1' := E1.out
  generalize ((P / 1152921504606846976 : Nat) : Int) = p at *
  have W1 := Lib.hid (w64i p (by omega))
  have W2 := Lib.hid (w64i (y % 1152921504606846976) (by omega))
  have W3 := Lib.hid (w64i (-p) (by omega))
  have W4 := Lib.hid (w64i (-(y % 1152921504606846976)) (by omega))
  have F1 := Lib.hid (fun w => HF.out w p (y % 1152921504606846976) P ⟨by omega, by omega⟩ (by omega) (by omega) (by omega))
  have F2 := Lib.hid (fun w => HF.out w (-p) (-(y % 1152921504606846976)) (-(P : Int)) ⟨by omega, by omega⟩ (by omega) (by omega) (by omega))
  clear HF B1 B2 E1 B1' B2' E1'
  cases neg
  · simp only [Bool.false_eq_true, if_false]
    have PR := Lib.hid (p2_new (w.alloc (.cells #[.int .u64 x, .int .u64 y, .bool false] /-T-/ 171)) (.int .i64 0) (.int .i64 0) /-T-/ 156)
    go_enter Tryz.func173, Tryz.ntmps173
    go_wp2_with fail
    go_quiet (fail)
    go_wp2_with fail
    rw [HO.out, HA.out, W1.out, W2.out]
    refine (F1.out _).mono ?_
    rintro e w1 ⟨rfl, hb1⟩
    have H1 := Lib.hid hb1; clear hb1
    have PR1 := Lib.hid ((PR.out.drewN _).below H1.out (by simp))
    obtain ⟨r0, r1, g0, g1⟩ := PR1.out
    simp only [World.size_alloc] at r0 r1 g0 g1
    have HB1 : Hid (Below w.heap.size w w1) := (below_drewN (((Below.refl _ _).alloc (Nat.le_refl _) _).alloc (by simp) _) _).trans (H1.out.mono (by simp; omega))
    go_wp2
    refine bodyPost_ret (by simp [results, Tryz.results173, go_sem, r0, r1]; try rfl) rfl ⟨rfl, by have := HB1.out; go_grown⟩
  · simp only [if_true]
    have PR := Lib.hid (p2_new (w.alloc (.cells #[.int .u64 x, .int .u64 y, .bool true] /-T-/ 171)) (.int .i64 0) (.int .i64 0) /-T-/ 156)
    go_enter Tryz.func173, Tryz.ntmps173
    go_wp2_with fail
    go_quiet (fail)
    go_wp2_with fail
    rw [HO.out, HA.out, W1.out, W2.out, W3.out, W4.out]
    refine (F2.out _).mono ?_
    rintro e w1 ⟨rfl, hb1⟩
    have H1 := Lib.hid hb1; clear hb1
    have PR1 := Lib.hid ((PR.out.drewN _).below H1.out (by simp))
    obtain ⟨r0, r1, g0, g1⟩ := PR1.out
    simp only [World.size_alloc] at r0 r1 g0 g1
    have HB1 : Hid (Below w.heap.size w w1) := (below_drewN (((Below.refl _ _).alloc (Nat.le_refl _) _).alloc (by simp) _) _).trans (H1.out.mono (by simp; omega))
    go_wp2
    refine bodyPost_ret (by simp [results, Tryz.results173, go_sem, r0, r1]; try rfl) rfl ⟨rfl, by have := HB1.out; go_grown⟩

/-- the product of the sizes, with a sign, is the product -/
theorem prod_sign (a b : Int) : (a < 0 → b < 0 → ((a.natAbs * b.natAbs : Nat) : Int) = a * b) ∧ (0 ≤ a → 0 ≤ b → ((a.natAbs * b.natAbs : Nat) : Int) = a * b) ∧
    (a < 0 → 0 ≤ b → -((a.natAbs * b.natAbs : Nat) : Int) = a * b) ∧ (0 ≤ a → b < 0 → -((a.natAbs * b.natAbs : Nat) : Int) = a * b) := by
  have e : ((a.natAbs * b.natAbs : Nat) : Int) = (a.natAbs : Int) * (b.natAbs : Int) := Int.natCast_mul _ _
  refine ⟨fun h1 h2 => ?_, fun h1 h2 => ?_, fun h1 h2 => ?_, fun h1 h2 => ?_⟩
  · rw [e, show (a.natAbs : Int) = -a by omega, show (b.natAbs : Int) = -b by omega]; grind
  · rw [e, show (a.natAbs : Int) = a by omega, show (b.natAbs : Int) = b by omega]
  · rw [e, show (a.natAbs : Int) = -a by omega, show (b.natAbs : Int) = b by omega]; grind
  · rw [e, show (a.natAbs : Int) = a by omega, show (b.natAbs : Int) = -b by omega]; grind
theorem flag_val (a b P : Int) (z1 : a = 0 → P = a * b) (z2 : b = 0 → P = a * b) (s1 : a < 0 → b < 0 → P = a * b) (s2 : 0 ≤ a → 0 ≤ b → P = a * b) (s3 : a < 0 → 0 ≤ b → -P = a * b) (s4 : 0 ≤ a → b < 0 → -P = a * b) :
    ((a < 0 ↔ b < 0) → (if false = true then -P else P) = a * b) ∧ (a = 0 → (if false = true then -P else P) = a * b) ∧ (¬(a < 0 ↔ b < 0) → ¬ a = 0 → (if (!decide (a < 0) == decide (b < 0) && a != 0 && b != 0) = true then -P else P) = a * b) := by
  refine ⟨fun h => ?_, fun h => ?_, fun h h2 => ?_⟩
  · simp only [Bool.false_eq_true, if_false]
    by_cases ha : a < 0
    · exact s1 ha (h.1 ha)
    · exact s2 (by omega) (by have := mt h.2 ha; omega)
  · simp only [Bool.false_eq_true, if_false]; exact z1 h
  · by_cases hb0 : b = 0
    · subst hb0; simp [z2 rfl]
    · have e : (!decide (a < 0) == decide (b < 0) && a != 0 && b != 0) = true := by
        by_cases ha : a < 0 <;> by_cases hb : b < 0 <;> simp_all
      rw [e, if_pos rfl]
      by_cases ha : a < 0
      · exact s3 ha (by by_cases hb : b < 0; exact absurd ⟨fun _ => hb, fun _ => ha⟩ h; omega)
      · by_cases hb : b < 0
        · exact s4 (by omega) hb
        · exact absurd ⟨fun h => absurd h ha, fun h => absurd h hb⟩ h
theorem c_Product (a b : Int) (w : World) (ha : I64 a) (hb : I64 b) (hP : a.natAbs * b.natAbs ≤ 1267650600228229401496703205376) :
    Calls Tryz.prog 146 #[.int .i64 a, .int .i64 b] w fun e w' =>
      e = .returned (.tuple #[.agg #[.int .i64 (a * b / 1152921504606846976), .int .i64 (a * b % 1152921504606846976)], .int .i64 0]) ∧ Below w.heap.size w w' := by
  have A1 := Lib.hid (fun w => c_wabs a w ha)
  have A2 := Lib.hid (fun w => c_wabs b w hb)
  have A3 := Lib.hid (fun w => c_Mul64 (a.natAbs : Int) (b.natAbs : Int) ⟨by omega, by unfold I64 at *; omega⟩ ⟨by omega, by unfold I64 at *; omega⟩ w)
  have A4 := Lib.hid (fun n w => c_wsize (a.natAbs * b.natAbs) n w hP)
  have hs := Lib.hid (prod_sign a b)
  have m1 : mh (a.natAbs : Int) (b.natAbs : Int) = ((a.natAbs * b.natAbs / 18446744073709551616 : Nat) : Int) := by unfold mh; rw [← Int.natCast_mul]; omega
  have m2 : ml (a.natAbs : Int) (b.natAbs : Int) = ((a.natAbs * b.natAbs % 18446744073709551616 : Nat) : Int) := by unfold ml; rw [← Int.natCast_mul]; omega
  rw [m1, m2] at A3
  clear m1 m2
  have K : ∀ n : Bool, (if n then -((a.natAbs * b.natAbs : Nat) : Int) else ((a.natAbs * b.natAbs : Nat) : Int)) = a * b → ∀ w, Calls Tryz.prog 173 #[.agg #[.int .u64 ((a.natAbs * b.natAbs / 18446744073709551616 : Nat) : Int), .int .u64 ((a.natAbs * b.natAbs % 18446744073709551616 : Nat) : Int), .bool n]] w fun e w' =>
      e = .returned (.tuple #[.agg #[.int .i64 (a * b / 1152921504606846976), .int .i64 (a * b % 1152921504606846976)], .int .i64 0]) ∧ Below w.heap.size w w' := by
    intro n hn w
    have h := A4.out n w
    rw [hn] at h; exact h
  have z1 : a = 0 → ((a.natAbs * b.natAbs : Nat) : Int) = a * b := by intro h; subst h; simp
  have z2 : b = 0 → ((a.natAbs * b.natAbs : Nat) : Int) = a * b := by intro h; subst h; simp
  obtain ⟨s1, s2, s3, s4⟩ := hs.out
  clear hs A4
  generalize a.natAbs * b.natAbs / 18446744073709551616 = p1 at *
  generalize a.natAbs * b.natAbs % 18446744073709551616 = p2 at *
  generalize ((a.natAbs * b.natAbs : Nat) : Int) = P at *
  generalize a.natAbs = na at *
  generalize b.natAbs = nb at *
  have FV := Lib.hid (flag_val a b P z1 z2 s1 s2 s3 s4); have KK := Lib.hid K
  clear z1 z2 s1 s2 s3 s4 K hP ha hb
  generalize a * b / 1152921504606846976 = x at *
  generalize a * b % 1152921504606846976 = y at *
  have PR := Lib.hid (p2_new w (.int .i64 0) (.int .i64 0) /-T-/ 156)
  go_enter Tryz.func146, Tryz.ntmps146
  go_wp2_with fail
  refine (A1.out _).mono ?_
  rintro e w' ⟨rfl, rfl⟩
  go_wp2_with fail
  refine (A2.out _).mono ?_
  rintro e w' ⟨rfl, rfl⟩
  go_wp2_with fail
  refine (A3.out _).mono ?_
  rintro e w' ⟨rfl, rfl⟩
  go_wp2_with fail
  all_goals
    refine (KK.out _ (by first | exact FV.out.1 (by assumption) | exact FV.out.2.1 (by assumption) | exact FV.out.2.2 (by assumption) (by assumption)) _).mono ?_
    rintro e w1 ⟨rfl, hb1⟩
    have H1 := Lib.hid hb1; clear hb1
    have PR1 := Lib.hid (PR.out.below H1.out (by simp))
    obtain ⟨r0, r1, g0, g1⟩ := PR1.out
    have HB1 : Hid (Below w.heap.size w w1) := ((Below.refl _ _).alloc (Nat.le_refl _) _).trans (H1.out.mono (by simp))
    go_wp2
    refine bodyPost_ret (by simp [results, Tryz.results146, go_sem, r0, r1]; try rfl) rfl ⟨rfl, by have := HB1.out; go_grown⟩
end Go.Proofs.YtlloiallkcfomaaGreat
