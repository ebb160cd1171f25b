/- The law of sums: the cases that end early. -/
import Derived.Test.YtlloiallkcfomaaSum7
import Derived.Test.YtlloiallkcfomaaAwake44
import Derived.Laws.StructEq
set_option linter.unusedVariables false
set_option linter.unusedSimpArgs false
namespace Go.Proofs.Ytlloiallkcfomaa
open Go.RowKit Alm
set_option maxRecDepth 100000 in
set_option maxHeartbeats 2000000 in
theorem sums_long (a : Option Addr) (cap n : Nat) (cut : Int) (w : World) (hn : 20 < n) :
    Calls Try.prog 4 #[.slice a n cap, .int .u8 cut] w fun e w' => e = .returned (.bool true) ∧ Below w.heap.size w w' := by
  have C0 := Lib.hid c_awake44
  have K0 := Lib.hid (ks_start w)
  have hn' : (20 : Int) < (n : Int) := by omega
  go_enter Try.func4, Try.ntmps4
  go_wp2_with fail
  refine (C0.out _).mono ?_
  rintro e w1 ⟨rfl, hb1⟩
  have K1 := Lib.hid (K0.out.below hb1); clear hb1 K0
  go_wp2
  go_ret
  exact ⟨rfl, K1.out.1⟩
set_option maxRecDepth 100000 in
set_option maxHeartbeats 2000000 in
theorem sums_big (a : Option Addr) (cap : Nat) (L : List Leg4) (cut : Int) (w : World) (hL : Legs w a L) (hn : L.length ≤ 20) (hs : L.all Leg4.small = false) :
    Calls Try.prog 4 #[.slice a L.length cap, .int .u8 cut] w fun e w' => e = .returned (.bool true) ∧ Below w.heap.size w w' := by
  have C0 := Lib.hid c_awake44
  have HL := Lib.hid hL; clear hL
  have HS := Lib.hid hs; clear hs
  have K0 := Lib.hid (ks_start w)
  have hn' : ¬ (20 : Int) < (L.length : Int) := by omega
  go_enter Try.func4, Try.ntmps4
  go_wp2_with fail
  refine (C0.out _).mono ?_
  rintro e w1 ⟨rfl, hb1⟩
  have K1 := Lib.hid (K0.out.below hb1); clear hb1 K0
  have C1 := Lib.hid (c_contains a cap L w1 (HL.out.below K1.out.1) (by omega))
  rw [HS.out] at C1
  go_wp2_with fail
  refine C1.out.mono ?_
  rintro e w2 ⟨rfl, hb1⟩
  have K2 := Lib.hid (K1.out.below hb1); clear hb1 K1 C1
  go_wp2
  go_ret
  exact ⟨rfl, K2.out.1⟩
set_option maxRecDepth 100000 in
set_option maxHeartbeats 2000000 in
theorem sums_bad (a : Option Addr) (cap : Nat) (L : List Leg4) (cut : Int) (w : World) (hL : Legs w a L) (hn : L.length ≤ 20) (hs : L.all Leg4.small = true) (hb : L.all Leg4.ok = false) :
    Calls Try.prog 4 #[.slice a L.length cap, .int .u8 cut] w fun e w' => e = .returned (.bool true) ∧ Below w.heap.size w w' := by
  have E1 : ∀ w, (binOp .eql /-T-/ 37 (.agg #[.int .i64 0, .int .i64 0]) (.agg #[.int .i64 0, .int .i64 0])).run Try.prog w = .ok (.bool true) w := fun _ => by kernel_rfl
  have C0 := Lib.hid c_awake44
  have HL := Lib.hid hL; clear hL
  have HS := Lib.hid hs; clear hs
  have HB := Lib.hid hb; clear hb
  have K0 := Lib.hid (ks_start w)
  have hn' : ¬ (20 : Int) < (L.length : Int) := by omega
  go_enter Try.func4, Try.ntmps4
  go_wp2_with fail
  refine (C0.out _).mono ?_
  rintro e w1 ⟨rfl, hb1⟩
  have K1 := Lib.hid (K0.out.below hb1); clear hb1 K0
  have C1 := Lib.hid (c_contains a cap L w1 (HL.out.below K1.out.1) (by omega))
  rw [HS.out] at C1
  go_wp2_with fail
  refine C1.out.mono ?_
  rintro e w2 ⟨rfl, hb1⟩
  have K2 := Lib.hid (K1.out.below hb1); clear hb1 K1 C1
  have C2 := Lib.hid (c_trav_bad a cap L w2 (HL.out.below K2.out.1) (by omega) HB.out)
  go_wp2_with fail
  refine C2.out.mono ?_
  rintro e w3 ⟨rfl, hb1⟩
  have K3 := Lib.hid (((K2.out.below hb1).new w3.heap.size rfl /-T-/ 37 #[.int .i64 0, .int .i64 0]).new (w3.heap.size + 1) (by simp) /-T-/ 37 #[.int .i64 0, .int .i64 0]); clear hb1 K2 C2
  go_wp2
  go_ret
  exact ⟨rfl, K3.out.1⟩
end Go.Proofs.Ytlloiallkcfomaa
