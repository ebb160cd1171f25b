/- The contracts of math/bits that the program needs. -/
import Derived.Test.YtlloiallkcfomaaGreatProg
import Derived.WalkKit
import Derived.WalkLawsBesides
import Derived.WalkSpells
import Derived.Handy
import Derived.BigRegion
import Derived.BigQuiet
import Derived.Deep.QuietTactic
import Derived.Lib.Hide
import Derived.Lib.Mul64
import Derived.Laws.Bits64b
import Derived.Laws.Externs
import Derived.Outline
set_option linter.unusedVariables false
namespace Go.Proofs.YtlloiallkcfomaaGreat
open Go.RowKit

/-! numbers of 64 bits -/
def U64 (x : Int) : Prop := 0 ≤ x ∧ x < 18446744073709551616
def Bit (x : Int) : Prop := 0 ≤ x ∧ x ≤ 1
/-- difference, borrow; sum, carry; product: high and low half -/
def sb (x y c : Int) : Int := (x + 18446744073709551616 - y - c) % 18446744073709551616
def sbc (x y c : Int) : Int := if x < y + c then 1 else 0
def ad (x y c : Int) : Int := (x + y + c) % 18446744073709551616
def adc (x y c : Int) : Int := (x + y + c) / 18446744073709551616
def mh (x y : Int) : Int := x * y / 18446744073709551616
def ml (x y : Int) : Int := x * y % 18446744073709551616

theorem sb_fact (x y c : Int) (hx : U64 x) (hy : U64 y) (hc : Bit c) : U64 (sb x y c) ∧ Bit (sbc x y c) ∧ sb x y c = x - y - c + 18446744073709551616 * sbc x y c := by
  unfold U64 Bit sb sbc at *; split <;> omega
theorem ad_fact (x y c : Int) (hx : U64 x) (hy : U64 y) (hc : Bit c) : U64 (ad x y c) ∧ Bit (adc x y c) ∧ ad x y c = x + y + c - 18446744073709551616 * adc x y c := by
  unfold U64 Bit ad adc at *; omega
theorem ml_fact (x y : Int) (hx : U64 x) (hy : U64 y) : U64 (mh x y) ∧ U64 (ml x y) ∧ ml x y = x * y - 18446744073709551616 * mh x y ∧ mh x y ≤ 18446744073709551614 := by
  unfold U64 mh ml at *
  have h0 : 0 ≤ x * y := Int.mul_nonneg hx.1 hy.1
  have h1 : x * y ≤ 18446744073709551615 * 18446744073709551615 := Int.mul_le_mul (by omega) (by omega) (by omega) (by omega)
  generalize x * y = p at *
  omega

/-! the model stands in for these two -/
def sub64E : Array Value → Sem Value := fun args => do
  let (x, y, b) ← Extern.MathBitsCarry.three "Sub64" args
  pure (Extern.MathBitsCarry.pair ((x + Extern.MathBitsCarry.m64 - y - b) % Extern.MathBitsCarry.m64) (if x < y + b then 1 else 0))
theorem run_sub64E {P : Program} (x y b : Nat) (hb : b ≤ 1) (w : World) :
    (sub64E #[.int .u64 x, .int .u64 y, .int .u64 b]).run P w =
      .ok (.tuple #[.int .u64 (((x + 18446744073709551616 - y - b) % 18446744073709551616 : Nat) : Int), .int .u64 ((if x < y + b then 1 else 0 : Nat) : Int)]) w := by
  have : b = 0 ∨ b = 1 := by omega
  rcases this with rfl | rfl <;> rfl
theorem run_Sub64 (x y b : Int) (hx : U64 x) (hy : U64 y) (hb : Bit b) (w : World) :
    (callFunc 218 #[.int .u64 x, .int .u64 y, .int .u64 b]).run Tryz.prog w =
      .ok (.value (.tuple #[.int .u64 (sb x y b), .int .u64 (sbc x y b)])) w := by
  unfold U64 Bit at *
  obtain ⟨X, rfl⟩ := Int.eq_ofNat_of_zero_le hx.1
  obtain ⟨Y, rfl⟩ := Int.eq_ofNat_of_zero_le hy.1
  obtain ⟨B, rfl⟩ := Int.eq_ofNat_of_zero_le hb.1
  rw [run_callFunc_extern Tryz.func218 (by kernel_rfl) (by kernel_rfl) (by kernel_rfl) (e := sub64E) (by kernel_rfl), run_sub64E X Y B (by omega)]
  have e1 : (((X + 18446744073709551616 - Y - B) % 18446744073709551616 : Nat) : Int) = sb X Y B := by unfold sb; omega
  have e2 : ((if X < Y + B then 1 else 0 : Nat) : Int) = sbc X Y B := by unfold sbc; split <;> split <;> omega
  rw [e1, e2]; rfl
theorem run_Add64 (x y b : Int) (hx : U64 x) (hy : U64 y) (hb : Bit b) (w : World) :
    (callFunc 212 #[.int .u64 x, .int .u64 y, .int .u64 b]).run Tryz.prog w =
      .ok (.value (.tuple #[.int .u64 (ad x y b), .int .u64 (adc x y b)])) w := by
  unfold U64 Bit at *
  rw [run_callFunc_extern Tryz.func212 (by kernel_rfl) (by kernel_rfl) (by kernel_rfl) (e := add64Entry) (by kernel_rfl), run_add64 x y b hx.1 hy.1 hb.1 hb.2]
  rfl

/-! the pure Go text -/
theorem maskN (a : Nat) (ha : a < 18446744073709551616) : bits .and .u64 (a : Int) 4294967295 = ((a % 4294967296 : Nat) : Int) := by
  have h := bits_and_u64_nat a 4294967295 ha (by omega)
  have e : a &&& 4294967295 = a % 4294967296 := Nat.and_two_pow_sub_one_eq_mod a 32
  rw [e] at h
  exact h
theorem divN (a : Nat) : (a : Int) / 4294967296 = ((a / 4294967296 : Nat) : Int) := by omega
theorem mulN' (a b : Nat) : (a : Int) * (b : Int) = ((a * b : Nat) : Int) := (Int.natCast_mul a b).symm
theorem addN' (a b : Nat) : (a : Int) + (b : Int) = ((a + b : Nat) : Int) := (Int.natCast_add a b).symm
theorem wrapN (a : Nat) (ha : a < 18446744073709551616) : IntKind.u64.wrap (a : Int) = (a : Int) := by rw [IntKind.wrap_u64]; omega
theorem wrapM (a : Nat) : IntKind.u64.wrap (a : Int) = ((a % 18446744073709551616 : Nat) : Int) := by rw [IntKind.wrap_u64]; omega

set_option maxHeartbeats 1000000 in
theorem mul64_nat (x y : Nat) (hx : x < 18446744073709551616) (hy : y < 18446744073709551616) (w : World) :
    Calls Tryz.prog 171 #[.int .u64 x, .int .u64 y] w fun e w' => e = .returned (.tuple #[.int .u64 ((x * y / 18446744073709551616 : Nat) : Int), .int .u64 ((x * y % 18446744073709551616 : Nat) : Int)]) ∧ w = w' := by
  obtain ⟨bd, bt, bw, hhi⟩ := Lib.mul64_hi x y hx hy
  have ba := Lib.half_mul_le (a := x / 4294967296) (b := y / 4294967296) (by omega) (by omega)
  have bb := Lib.half_mul_le (a := x / 4294967296) (b := y % 4294967296) (by omega) (by omega)
  have bc := Lib.half_mul_le (a := x % 4294967296) (b := y / 4294967296) (by omega) (by omega)
  have ba' : x / 4294967296 * (y / 4294967296) < 18446744073709551616 := by omega
  have bb' : x / 4294967296 * (y % 4294967296) < 18446744073709551616 := by omega
  have bc' : x % 4294967296 * (y / 4294967296) < 18446744073709551616 := by omega
  have bh1 : x / 4294967296 * (y / 4294967296) + (x / 4294967296 * (y % 4294967296) + x % 4294967296 * (y % 4294967296) / 4294967296) / 4294967296 < 18446744073709551616 := by omega
  have bh : x / 4294967296 * (y / 4294967296) + (x / 4294967296 * (y % 4294967296) + x % 4294967296 * (y % 4294967296) / 4294967296) / 4294967296 + ((x / 4294967296 * (y % 4294967296) + x % 4294967296 * (y % 4294967296) / 4294967296) % 4294967296 + x % 4294967296 * (y / 4294967296)) / 4294967296 < 18446744073709551616 := by omega
  go_enter Tryz.func171, Tryz.ntmps171
  go_wp2
  simp only [maskN x hx, maskN y hy, divN, mulN', addN', wrapN _ bd, wrapN _ bb', wrapN _ bt, maskN _ bt, wrapN _ bc', wrapN _ bw, wrapN _ ba', wrapN _ bh1, wrapN _ bh, wrapM (x * y)]
  rw [hhi]
  go_ret2
  exact ⟨rfl, rfl⟩

theorem c_Mul64 (x y : Int) (hx : U64 x) (hy : U64 y) (w : World) :
    Calls Tryz.prog 171 #[.int .u64 x, .int .u64 y] w fun e w' => e = .returned (.tuple #[.int .u64 (mh x y), .int .u64 (ml x y)]) ∧ w = w' := by
  unfold U64 at *
  obtain ⟨X, rfl⟩ := Int.eq_ofNat_of_zero_le hx.1
  obtain ⟨Y, rfl⟩ := Int.eq_ofNat_of_zero_le hy.1
  have h := mul64_nat X Y (by omega) (by omega) w
  have e1 : ((X * Y / 18446744073709551616 : Nat) : Int) = mh X Y := by unfold mh; rw [← Int.natCast_mul]; omega
  have e2 : ((X * Y % 18446744073709551616 : Nat) : Int) = ml X Y := by unfold ml; rw [← Int.natCast_mul]; omega
  rw [e1, e2] at h
  exact h
theorem ret_int {k : IntKind} {a b : Int} (h : a = b) : Ending.returned (.int k a) = .returned (.int k b) := by rw [h]
theorem tab_all (t : ByteArray) (f : Nat → Nat) (hsz : t.size = 256) (h : ∀ k : Fin 256, (t[k.1]!).toNat = f k.1) (k : Nat) (hk : k < t.size) : t[k].toNat = f k := by
  have := h ⟨k, by omega⟩
  simp only at this
  rw [← this, getElem!_pos t k hk]
def blen8 (k : Nat) : Nat := if k = 0 then 0 else Nat.log2 k + 1
theorem blen8_fact (k : Nat) (hk : k < 256) : blen8 k ≤ 8 ∧ k < 2^(blen8 k) ∧ (0 < k → 2^(blen8 k) ≤ 2 * k) := by
  unfold blen8
  split
  · subst k; simp
  · rename_i h0
    refine ⟨?_, Nat.lt_log2_self, fun _ => ?_⟩
    · have := (Nat.log2_lt h0 (k := 8)).2 (by omega); omega
    · have := Nat.log2_self_le h0; rw [Nat.pow_succ]; omega
/-- what Len64 gives: the length in bits -/
def IsLen (x : Int) (n : Nat) : Prop := n ≤ 64 ∧ x < 2^n ∧ (0 < x → (2^n : Int) ≤ 2 * x)
theorem len_close (x : Int) (c k : Nat) (hx : 0 ≤ x) (hc : c ≤ 56) (h1 : (k : Int) * 2^c ≤ x) (h2 : x < ((k : Int) + 1) * 2^c) (hk : k < 256) (h0 : 0 < k ∨ c = 0) : IsLen x (c + blen8 k) := by
  obtain ⟨f1, f2, f3⟩ := blen8_fact k hk
  have e : (2 : Int)^(c + blen8 k) = 2^(blen8 k) * 2^c := by rw [Int.pow_add, Int.mul_comm]
  have hp : (0 : Int) < 2^c := Int.pow_pos (by decide)
  have g2 : (k : Int) + 1 ≤ 2^(blen8 k) := by exact_mod_cast f2
  refine ⟨by omega, ?_, fun hx0 => ?_⟩
  · rw [e]
    have := Int.mul_le_mul_of_nonneg_right g2 (show (0 : Int) ≤ 2^c by omega)
    omega
  · rw [e]
    rcases Nat.eq_zero_or_pos k with hk0 | hk0
    · subst hk0
      rcases h0 with h0 | h0
      · omega
      · subst h0; simp at h2; omega
    · have g3 : (2 : Int)^(blen8 k) ≤ 2 * k := by exact_mod_cast f3 hk0
      have := Int.mul_le_mul_of_nonneg_right g3 (show (0 : Int) ≤ 2^c by omega)
      rw [Int.mul_assoc] at this
      omega
set_option maxRecDepth 100000 in
set_option maxHeartbeats 1000000 in
theorem c_Len64 (x : Int) (w : World) (hx : U64 x) :
    Calls Tryz.prog 229 #[.int .u64 x] w fun e w' => (∃ n : Nat, e = .returned (.int .i64 n) ∧ IsLen x n) ∧ w = w' := by
  obtain ⟨hx0, hx1⟩ := hx
  have hP : ∀ (e : Ending), (∃ (n : Int) (c k : Nat), e = .returned (.int .i64 n) ∧ n = ((c + blen8 k : Nat) : Int) ∧ c ≤ 56 ∧ (k : Int) * 2^c ≤ x ∧ x < ((k : Int) + 1) * 2^c ∧ k < 256 ∧ (0 < k ∨ c = 0)) → (∃ n : Nat, e = .returned (.int .i64 n) ∧ IsLen x n) := by
    rintro e ⟨n, c, k, rfl, rfl, h1, h2, h3, h4, h5⟩
    exact ⟨_, rfl, len_close x c k hx0 h1 h2 h3 h4 h5⟩
  have hw : ∀ (c k : Nat), c ≤ 56 → k < 256 → wrap64 ((c : Int) + wrap64 ((blen8 k : Nat) : Int)) = ((c + blen8 k : Nat) : Int) := by
    intro c k hc hk; have := (blen8_fact k hk).1; simp only [wrap64]; omega
  have HP := Lib.hid hP; clear hP
  have HW := Lib.hid hw; clear hw
  go_enter Tryz.func229, Tryz.ntmps229
  go_wp2
  all_goals go_ret
  all_goals refine ⟨HP.out _ ?_, rfl⟩
  · refine ⟨_, 56, (x / 4294967296 / 65536 / 256).toNat, rfl, ?_⟩
    rw [tab_all _ blen8 (by decide +kernel) (by decide +kernel)]
    have hk : (x / 4294967296 / 65536 / 256).toNat < 256 := by omega
    have hw := HW.out 56 _ (by decide) hk
    exact ⟨by first | exact hw | (rw [← hw]; simp), by omega, by omega, by omega, hk, by omega⟩
  · refine ⟨_, 48, (x / 4294967296 / 65536).toNat, rfl, ?_⟩
    rw [tab_all _ blen8 (by decide +kernel) (by decide +kernel)]
    have hk : (x / 4294967296 / 65536).toNat < 256 := by omega
    have hw := HW.out 48 _ (by decide) hk
    exact ⟨by first | exact hw | (rw [← hw]; simp), by omega, by omega, by omega, hk, by omega⟩
  · refine ⟨_, 40, (x / 4294967296 / 256).toNat, rfl, ?_⟩
    rw [tab_all _ blen8 (by decide +kernel) (by decide +kernel)]
    have hk : (x / 4294967296 / 256).toNat < 256 := by omega
    have hw := HW.out 40 _ (by decide) hk
    exact ⟨by first | exact hw | (rw [← hw]; simp), by omega, by omega, by omega, hk, by omega⟩
  · refine ⟨_, 32, (x / 4294967296).toNat, rfl, ?_⟩
    rw [tab_all _ blen8 (by decide +kernel) (by decide +kernel)]
    have hk : (x / 4294967296).toNat < 256 := by omega
    have hw := HW.out 32 _ (by decide) hk
    exact ⟨by first | exact hw | (rw [← hw]; simp), by omega, by omega, by omega, hk, by omega⟩
  · refine ⟨_, 24, (x / 65536 / 256).toNat, rfl, ?_⟩
    rw [tab_all _ blen8 (by decide +kernel) (by decide +kernel)]
    have hk : (x / 65536 / 256).toNat < 256 := by omega
    have hw := HW.out 24 _ (by decide) hk
    exact ⟨by first | exact hw | (rw [← hw]; simp), by omega, by omega, by omega, hk, by omega⟩
  · refine ⟨_, 16, (x / 65536).toNat, rfl, ?_⟩
    rw [tab_all _ blen8 (by decide +kernel) (by decide +kernel)]
    have hk : (x / 65536).toNat < 256 := by omega
    have hw := HW.out 16 _ (by decide) hk
    exact ⟨by first | exact hw | (rw [← hw]; simp), by omega, by omega, by omega, hk, by omega⟩
  · refine ⟨_, 8, (x / 256).toNat, rfl, ?_⟩
    rw [tab_all _ blen8 (by decide +kernel) (by decide +kernel)]
    have hk : (x / 256).toNat < 256 := by omega
    have hw := HW.out 8 _ (by decide) hk
    exact ⟨by first | exact hw | (rw [← hw]; simp), by omega, by omega, by omega, hk, by omega⟩
  · refine ⟨_, 0, (x).toNat, rfl, ?_⟩
    rw [tab_all _ blen8 (by decide +kernel) (by decide +kernel)]
    have hk : (x).toNat < 256 := by omega
    have hw := HW.out 0 _ (by decide) hk
    exact ⟨by first | exact hw | (rw [← hw]; simp), by omega, by omega, by omega, hk, by omega⟩
theorem two_pow_split (n : Nat) (h : n ≤ 64) : (2 : Int)^n * 2^(64 - n) = 18446744073709551616 := by
  rw [← Int.pow_add, show n + (64 - n) = 64 from by omega]; rfl
theorem c_LeadingZeros64 (x : Int) (w : World) (hx : U64 x) (h0 : 0 < x) :
    Calls Tryz.prog 219 #[.int .u64 x] w fun e w' => (∃ s : Nat, e = .returned (.int .i64 s) ∧ s ≤ 63 ∧ 9223372036854775808 ≤ x * 2^s ∧ x * 2^s < 18446744073709551616) ∧ w = w' := by
  have key : ∀ n : Nat, IsLen x n → ∃ s : Nat, wrap64 (64 - (n : Int)) = (s : Int) ∧ s ≤ 63 ∧ 9223372036854775808 ≤ x * 2^s ∧ x * 2^s < 18446744073709551616 := by
    rintro n ⟨h1, h2, h3⟩
    have h3 := h3 h0
    have e := two_pow_split n h1
    have hp : (0 : Int) < 2^(64 - n) := Int.pow_pos (by decide)
    have g1 := Int.mul_lt_mul_of_pos_right h2 hp
    have g2 := Int.mul_le_mul_of_nonneg_right h3 (Int.le_of_lt hp)
    rw [e] at g1 g2
    rw [Int.mul_assoc] at g2
    have hn : n ≠ 0 := by intro h; subst h; simp at h2; omega
    exact ⟨64 - n, by simp only [wrap64]; omega, by omega, by omega, by omega⟩
  have K := Lib.hid key; clear key
  go_enter Tryz.func219, Tryz.ntmps219
  go_wp2_with fail
  refine (c_Len64 x w hx).mono ?_
  rintro e w' ⟨⟨n, rfl, hn⟩, rfl⟩
  obtain ⟨s, hs, hs2⟩ := K.out n hn
  have HS := Lib.hid hs; clear hs
  go_wp2
  go_ret
  exact ⟨⟨s, ret_int HS.out, hs2⟩, rfl⟩

end Go.Proofs.YtlloiallkcfomaaGreat
