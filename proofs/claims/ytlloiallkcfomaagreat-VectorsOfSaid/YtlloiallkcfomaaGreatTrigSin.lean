/- The contracts of package trig: sine, bounds, enclosures. -/
import Derived.Test.YtlloiallkcfomaaGreatTrig
import Derived.Deep.RegionHeld3
set_option linter.unusedVariables false
namespace Go.Proofs.YtlloiallkcfomaaGreat
open Go.RowKit Alm

/-- One times the sine of n from 0 to Quarter, rounded down, as the program has it -/
def sinFl (n : Nat) : Nat := if 2 * n ≤ 5400000 then sinW n / 2^226 else cosW (5400000 - n) % W / 2^226
theorem nl_head (A : Nat) (h : A < W) : nl A 0 / 17179869184 = ((A / 2^226 : Nat) : Int) := by
  obtain ⟨h0, _, _, _⟩ := nl_vals A
  rw [h0]
  have hW : W = 115792089237316195423570985008687907853269984665640564039457584007913129639936 := by unfold W; decide +kernel
  rw [hW] at h
  omega
theorem ret_ib {k : IntKind} {a b : Int} {c : Bool} (h : a = b) : Ending.returned (.tuple #[.int k a, .bool c]) = .returned (.tuple #[.int k b, .bool c]) := by rw [h]
set_option maxRecDepth 100000 in
set_option maxHeartbeats 4000000 in
theorem sine_low (n : Int) (w : World) (h0 : 0 < n) (h1 : 2 * n ≤ 5400000) (h2 : (n == 1800000) = false) :
    Calls Tryz.prog 170 #[.int .i64 n] w fun e w' => e = .returned (.tuple #[.int .i64 ((sinW n.toNat / 2^226 : Nat) : Int), .bool false]) ∧ Below w.heap.size w w' := by
  have g0 : (n == 0) = false := by simp; omega
  have g1 : (n == 5400000) = false := by simp; omega
  have h3 : (2 * n ≤ 5400000) := h1
  go_enter Tryz.func170, Tryz.ntmps170
  go_wp2_with fail
  refine (c_radians n _ (by omega) (by omega)).mono ?_
  rintro e w1 ⟨rfl, hb1⟩
  have hb2 := hb1.alloc hb1.size (Obj.cells #[.int .u64 (nl (radN n.toNat) 0), .int .u64 (nl (radN n.toNat) 1), .int .u64 (nl (radN n.toNat) 2), .int .u64 (nl (radN n.toNat) 3)] /-T-/ 183)
  have hx : NRow (w1.alloc (Obj.cells #[.int .u64 (nl (radN n.toNat) 0), .int .u64 (nl (radN n.toNat) 1), .int .u64 (nl (radN n.toNat) 2), .int .u64 (nl (radN n.toNat) 3)] /-T-/ 183)) w1.heap.size (radN n.toNat) := nrow_new _ _ _
  have hz := hb1.size
  have hsz : (w1.alloc (Obj.cells #[.int .u64 (nl (radN n.toNat) 0), .int .u64 (nl (radN n.toNat) 1), .int .u64 (nl (radN n.toNat) 2), .int .u64 (nl (radN n.toNat) 3)] /-T-/ 183)).heap.size = w1.heap.size + 1 := by simp
  have hs0 := nrow_zero w /-T-/ 183
  have HB2 := Lib.hid hb2; have HX := Lib.hid hx; have HS0 := Lib.hid hs0; have HZ := Lib.hid hz; have HSZ := Lib.hid hsz
  clear hb1 hb2 hx hs0 hz hsz
  go_wp2
  generalize (w1.alloc (Obj.cells #[.int .u64 (nl (radN n.toNat) 0), .int .u64 (nl (radN n.toNat) 1), .int .u64 (nl (radN n.toNat) 2), .int .u64 (nl (radN n.toNat) 3)] /-T-/ 183)) = wx at *
  generalize w1.heap.size = bx at *
  have HS : Hid (NRow wx w.heap.size 0) := HS0.out.below HB2.out (by simp)
  have HL : Hid (w.heap.size < bx ∧ bx < wx.heap.size ∧ w.heap.size < wx.heap.size) := by
    have a := HZ.out; have b := HSZ.out; simp at a; exact ⟨by omega, by omega, by omega⟩
  obtain ⟨x0, x1, x2, x3⟩ := HX.out.cells
  have hR : radN n.toNat < W := radN_lt _ (by omega)
  have hY : mulN (radN n.toNat) (radN n.toNat) < W := mulN_lt_W _ _ hR hR
  have hL1 : lessR 34 1 (mulN (radN n.toNat) (radN n.toNat)) < W := lessR_lt _ _ _ hY
  have hM : mulN (radN n.toNat) (lessR 34 1 (mulN (radN n.toNat) (radN n.toNat))) < W := mulN_lt_W _ _ hR hL1
  have hS : sinW n.toNat = subN (radN n.toNat) (mulN (radN n.toNat) (lessR 34 1 (mulN (radN n.toNat) (radN n.toNat)))) := by
    rw [subN_eq _ _ hR (mulN_lt _ _ hR (Nat.le_of_lt hL1))]; unfold sinW; rfl
  have HR := Lib.hid hR; have HY := Lib.hid hY; have HL1 := Lib.hid hL1; have HM := Lib.hid hM; have HSS := Lib.hid hS
  clear hR hY hL1 hM hS
  have hne : w.heap.size ≠ bx := by have := HL.out.1; omega
  generalize hRe : radN n.toNat = R at *
  have HRe := Lib.hid hRe; clear hRe
  have hval : nl (subN R (mulN R (lessR 34 1 (mulN R R)))) 0 / 17179869184 = ((sinW n.toNat / 2^226 : Nat) : Int) := by
    rw [HSS.out]; apply nl_head; rw [subN_eq _ _ HR.out (mulN_lt _ _ HR.out (Nat.le_of_lt HL1.out))]; have := HR.out; omega
  have hvb : (sinW n.toNat / 2^226 : Nat) < 2^30 := by
    apply Nat.div_lt_of_lt_mul
    have : sinW n.toNat < W := by rw [HSS.out, subN_eq _ _ HR.out (mulN_lt _ _ HR.out (Nat.le_of_lt HL1.out))]; have := HR.out; omega
    have hW : W = 2^226 * 2^30 := by unfold W; decide +kernel
    omega
  generalize hve : (sinW n.toNat / 2^226 : Nat) = V at *
  have HVE := Lib.hid hve; clear hve
  have hvb2 : (V : Int) < 1073741824 := by omega
  clear hvb
  go_region_held3 (fun w' => w'.cell? ⟨bx, 0, none⟩ = some (.int .u64 (nl (R) 0)) ∧ w'.cell? ⟨bx, 1, none⟩ = some (.int .u64 (nl (R) 1)) ∧ w'.cell? ⟨bx, 2, none⟩ = some (.int .u64 (nl (R) 2)) ∧ w'.cell? ⟨bx, 3, none⟩ = some (.int .u64 (nl (R) 3)))
    (first | go_keep | (refine ⟨?_, ?_, ?_, ?_⟩ <;> assumption))
    (first
      | (go_at_call 189; refine (less_core R _ 1 _ HR.out HY.out (by omega) rfl).mono ?_; rintro e w2 ⟨rfl, hb⟩; have HA := Lib.hid hb; clear hb; obtain ⟨x0, x1, x2, x3⟩ := (HX.out.drew.below HA.out HL.out.2.1).cells)
      | (go_at_call 188; refine (c_mul R _ HR.out HL1.out _).mono ?_; rintro e w3 ⟨rfl, hb⟩; have HB := Lib.hid hb; clear hb; obtain ⟨x0, x1, x2, x3⟩ := ((HX.out.drew.below HA.out HL.out.2.1).below HB.out (Nat.lt_of_lt_of_le HL.out.2.1 HA.out.size)).cells)
      | (go_at_call 187; refine (c_sub R _ HR.out HM.out _).mono ?_; rintro e w4 ⟨rfl, hb⟩; have HC := Lib.hid hb; clear hb; obtain ⟨x0, x1, x2, x3⟩ := (((HX.out.drew.below HA.out HL.out.2.1).below HB.out (Nat.lt_of_lt_of_le HL.out.2.1 HA.out.size)).below HC.out (Nat.lt_of_lt_of_le HL.out.2.1 (Nat.le_trans HA.out.size HB.out.size))).cells; have HS4 := Lib.hid (((HS.out.drew.below HA.out HL.out.2.2).below HB.out (Nat.lt_of_lt_of_le HL.out.2.2 HA.out.size)).below HC.out (Nat.lt_of_lt_of_le HL.out.2.2 (Nat.le_trans HA.out.size HB.out.size))); obtain ⟨z0, z1, z2, z3⟩ := HS4.out.cells; obtain ⟨f0, f1, f2, f3⟩ := HS4.out.free))
  go_wp2
  go_ret2
  refine ⟨ret_ib (by rw [HVE.out]), ?_⟩
  have hA := HA.out; have hB := HB.out; have hC := HC.out; have h2 := HB2.out; have hl := HL.out
  have e1 := hA.size; have e2 := hB.size; have e3 := hC.size
  have hxz : wx.drew.heap.size = wx.heap.size := rfl
  have k : Below w.heap.size w w4 := by
    refine Below.trans ?_ (hC.mono (by omega))
    refine Below.trans ?_ (hB.mono (by omega))
    refine Below.trans ?_ (hA.mono (by omega))
    refine Below.drew ?_
    exact ((Below.refl _ _).alloc (Nat.le_refl _) _).trans (h2.mono (by simp))
  go_grown

theorem cosW_sub (m : Nat) (L : Nat) (hL : L = lessR 34 0 (mulN (radN m) (radN m))) (hlt : L < W) : subN 0 L = cosW m % W := by
  unfold subN
  have e : cosW m = W - L := by subst hL; unfold cosW; rfl
  rw [e, Nat.zero_add]
set_option maxRecDepth 100000 in
set_option maxHeartbeats 4000000 in
theorem sine_high (n : Int) (w : World) (h0 : 5400000 < 2 * n) (h1 : n < 5400000) :
    Calls Tryz.prog 170 #[.int .i64 n] w fun e w' => e = .returned (.tuple #[.int .i64 ((cosW (5400000 - n).toNat % W / 2^226 : Nat) : Int), .bool false]) ∧ Below w.heap.size w w' := by
  have g0 : (n == 0) = false := by simp; omega
  have g1 : (n == 5400000) = false := by simp; omega
  have g2 : (n == 1800000) = false := by simp; omega
  have h3 : ¬ (2 * n ≤ 5400000) := by omega
  have hR : radN (5400000 - n).toNat < W := radN_lt _ (by omega)
  have hY : mulN (radN (5400000 - n).toNat) (radN (5400000 - n).toNat) < W := mulN_lt_W _ _ hR hR
  have hL1 : lessR 34 0 (mulN (radN (5400000 - n).toNat) (radN (5400000 - n).toNat)) < W := lessR_lt _ _ _ hY
  have hc := cosW_sub (5400000 - n).toNat _ rfl hL1
  have hlt : cosW (5400000 - n).toNat % W < W := Nat.mod_lt _ W_pos
  have hval := nl_head (cosW (5400000 - n).toNat % W) hlt
  rw [← hc] at hval
  have hvb : ((cosW (5400000 - n).toNat % W / 2^226 : Nat) : Int) < 1073741824 := by
    have : cosW (5400000 - n).toNat % W / 2^226 < 2^30 := by
      apply Nat.div_lt_of_lt_mul
      have hW : W = 2^226 * 2^30 := by unfold W; decide +kernel
      omega
    omega
  rw [← hc] at hvb ⊢
  have CR := Lib.hid (fun w => c_radians (5400000 - n) w (by omega) (by omega))
  generalize radN (5400000 - n).toNat = R at *
  have CL := Lib.hid (fun w => less_core R _ 0 w hR hY (by omega) rfl)
  generalize lessR 34 0 (mulN R R) = L at *
  have cs := fun w => c_sub 0 L W_pos hL1 w
  have hn0 : ∀ k, nl 0 k = 0 := by intro k; simp [nl]
  simp only [hn0] at cs
  have CS := Lib.hid cs
  clear cs hn0
  generalize subN 0 L = S at *
  generalize (S / 2^226 : Nat) = V at *
  clear hR hY hL1 hc hlt
  go_enter Tryz.func170, Tryz.ntmps170
  go_wp2_with fail
  refine (CR.out _).mono ?_
  rintro e w1 ⟨rfl, hb1⟩
  have H1 := Lib.hid hb1; clear hb1
  go_wp2_with fail
  refine (CL.out _).mono ?_
  rintro e w2 ⟨rfl, hb1⟩
  have H2 := Lib.hid hb1; clear hb1
  go_wp2_with fail
  refine (CS.out _).mono ?_
  rintro e w3 ⟨rfl, hb1⟩
  have H3 := Lib.hid hb1; clear hb1
  have hs1 := H1.out.size; have hs2 := H2.out.size
  simp at hs1
  have HS0 := Lib.hid (nrow_zero w /-T-/ 183)
  have HS3 := Lib.hid (((HS0.out.below H1.out (by simp)).below H2.out (by omega)).below H3.out (by omega))
  have HSZ := Lib.hid (And.intro hs1 hs2)
  clear hs1 hs2
  obtain ⟨z0, z1, z2, z3⟩ := HS3.out.cells; obtain ⟨f0, f1, f2, f3⟩ := HS3.out.free
  go_wp2
  go_ret2
  refine ⟨rfl, ?_⟩
  have hA := H1.out; have hB := H2.out; have hC := H3.out; have hz := HSZ.out
  have k : Below w.heap.size w w3 := by
    refine Below.trans ?_ (hC.mono (by omega))
    refine Below.trans ?_ (hB.mono (by omega))
    refine Below.trans ?_ (hA.mono (by simp))
    exact (Below.refl _ _).alloc (Nat.le_refl _) _
  go_grown

/-! the spec: what sine gives -/
def sinV (n : Int) : Int := if n = 0 then 0 else if n = 1800000 then 536870912 else if n = 5400000 then 1073741824 else (sinFl n.toNat : Int)
def sinE (n : Int) : Bool := n == 0 || n == 1800000 || n == 5400000
set_option maxRecDepth 100000 in
set_option maxHeartbeats 1000000 in
theorem c_sine (n : Int) (w : World) (h0 : 0 ≤ n) (h1 : n ≤ 5400000) :
    Calls Tryz.prog 170 #[.int .i64 n] w fun e w' => e = .returned (.tuple #[.int .i64 (sinV n), .bool (sinE n)]) ∧ Below w.heap.size w w' := by
  by_cases a0 : n = 0
  · subst a0
    have e1 : sinV 0 = 0 := rfl
    have e2 : sinE 0 = true := rfl
    rw [e1, e2]
    go_enter Tryz.func170, Tryz.ntmps170
    go_wp2
    go_ret2
    exact ⟨rfl, Below.refl _ _⟩
  by_cases a1 : n = 1800000
  · subst a1
    have e1 : sinV 1800000 = 536870912 := rfl
    have e2 : sinE 1800000 = true := rfl
    rw [e1, e2]
    go_enter Tryz.func170, Tryz.ntmps170
    go_wp2
    go_ret2
    exact ⟨rfl, Below.refl _ _⟩
  by_cases a2 : n = 5400000
  · subst a2
    have e1 : sinV 5400000 = 1073741824 := rfl
    have e2 : sinE 5400000 = true := rfl
    rw [e1, e2]
    go_enter Tryz.func170, Tryz.ntmps170
    go_wp2
    go_ret2
    exact ⟨rfl, Below.refl _ _⟩
  have e2 : sinE n = false := by unfold sinE; simp [a0, a1, a2]
  have e1 : sinV n = (sinFl n.toNat : Int) := by unfold sinV; rw [if_neg a0, if_neg a1, if_neg a2]
  rw [e1, e2]
  by_cases hl : 2 * n ≤ 5400000
  · have e3 : sinFl n.toNat = sinW n.toNat / 2^226 := by unfold sinFl; rw [if_pos (by omega)]
    rw [e3]
    exact sine_low n w (by omega) hl (by simpa using a1)
  · have e3 : sinFl n.toNat = cosW (5400000 - n).toNat % W / 2^226 := by
      unfold sinFl; rw [if_neg (by omega)]
      rw [show 5400000 - n.toNat = (5400000 - n).toNat by omega]
    rw [e3]
    exact sine_high n w (by omega) (by omega)
end Go.Proofs.YtlloiallkcfomaaGreat
