import Derived.Test.YtlloiallkcfomaaGreatBits
import Derived.Test.YtlloiallkcfomaaGreatMulM
import Derived.Test.YtlloiallkcfomaaGreatWorld
set_option linter.unusedVariables false
namespace Go.Proofs.YtlloiallkcfomaaGreat
open Go.RowKit Alm

/-- the relations of the loops of mul: B is the number of the first new block -/
structure MulR (a b : Nat → Int) (w wr : World) (o : Nat → Int) : Prop where
  below : Below w.heap.size w wr
  ra : Row wr w.heap.size 4 a
  rb : Row wr (w.heap.size + 1) 4 b
  rr : Row wr (w.heap.size + 1 + 1) 4 (fun _ => 0)
  ro : Row wr (w.heap.size + 1 + 1 + 1) 6 o
def MulOut (a b : Nat → Int) (w : World) (v : Value) (wr : World) : Prop :=
  ∃ (z : Int) (o : Nat → Int), v = .int .i64 z ∧ -1 ≤ z ∧ z ≤ 3 ∧ MulR a b w wr o ∧ V6 o = tot a b (3 - z).toNat
def MulIn (a b : Nat → Int) (w : World) (i : Nat) (v7 v8 : Value) (wr : World) : Prop :=
  ∃ (c z : Int) (o : Nat → Int), v7 = .int .u64 c ∧ v8 = .int .i64 z ∧ -1 ≤ z ∧ z ≤ 3 ∧ U64 c ∧ (5 ≤ z + i → c = 0) ∧ MulR a b w wr o ∧ V6 o + c * wt (z + 1 + i).toNat = tot a b (3 - i) + rp a b i (3 - z).toNat
def MulUp (a b : Nat → Int) (w : World) (i : Nat) (v7 v13 : Value) (wr : World) : Prop :=
  ∃ (c z : Int) (o : Nat → Int), v7 = .int .u64 c ∧ v13 = .int .i64 z ∧ -1 ≤ z ∧ z ≤ i ∧ U64 c ∧ MulR a b w wr o ∧ V6 o + c * (if z = -1 then 18446744073709551616 * wt 0 else wt z.toNat) = tot a b (3 - i + 1)


theorem Row.LU {wr : World} {b n : Nat} {o : Nat → Int} (h : Row wr b n o) : ∀ k, k < n → Alm.LU (o k) := fun k hk => (h k hk).2.2
theorem MulR.set {a b : Nat → Int} {w wr : World} {o : Nat → Int} (h : MulR a b w wr o) (q p : Nat) (v : Int) (hp : p < 6) (hv : U64 v) :
    MulR a b w ((wr.drewN q).setCell ⟨w.heap.size + 1 + 1 + 1, p, none⟩ (.int .u64 v)) (upd o p v) :=
  ⟨(below_drewN h.below q).setCell (by show w.heap.size ≤ w.heap.size + 1 + 1 + 1; omega) _, (h.ra.drewN q).other _ (by omega), (h.rb.drewN q).other _ (by omega), (h.rr.drewN q).other _ (by omega), (h.ro.drewN q).set v hp hv⟩
theorem mulIn_skip {a b : Nat → Int} {w wr : World} {i j : Nat} {c : Int} {o : Nat → Int} (hi : i ≤ 3) (hj : (j : Int) ≤ 3) (hij : 4 < (i : Int) + j) (hR : MulR a b w wr o) (hc : U64 c) (hc0 : 5 ≤ (j : Int) + i → c = 0)
    (hV : V6 o + c * wt ((j : Int) + 1 + i).toNat = tot a b (3 - i) + rp a b i (3 - (j : Int)).toNat) :
    MulIn a b w i (.int .u64 c) (.int .i64 ((j : Int) - 1)) wr ∧ (intOf (.int .i64 ((j : Int) - 1)) + 1).toNat < (intOf (.int .i64 (j : Int)) + 1).toNat := by
  have hz : c = 0 := hc0 (by omega)
  refine ⟨⟨c, (j : Int) - 1, o, rfl, rfl, by omega, by omega, hc, fun _ => hz, hR, ?_⟩, by simp only [intOf]; omega⟩
  have e1 : ((j : Int) + 1 + i).toNat = i + j + 1 := by omega
  have e2 : (3 - (j : Int)).toNat = 3 - j := by omega
  have e3 : ((j : Int) - 1 + 1 + i).toNat = i + j := by omega
  have e4 : (3 - ((j : Int) - 1)).toNat = 3 - j + 1 := by omega
  rw [e1, e2] at hV; rw [e3, e4]
  exact mul_skip a b o (3 - i) i j c (by omega) (by omega) hV hz
theorem mulIn_next {a b : Nat → Int} {w wr : World} {i j q : Nat} {c hi lo s1 c1 s2 c2 : Int} {o : Nat → Int} (hi3 : i ≤ 3) (hj : (j : Int) ≤ 3) (hij : i + j ≤ 4) (hR : MulR a b w wr o)
    (hV : V6 o + c * wt ((j : Int) + 1 + i).toNat = tot a b (3 - i) + rp a b i (3 - (j : Int)).toNat)
    (fm : U64 hi ∧ U64 lo ∧ lo = a i * b j - 18446744073709551616 * hi ∧ hi ≤ 18446744073709551614)
    (f1 : U64 s1 ∧ Bit c1 ∧ s1 = o (i + j + 1) + lo + 0 - 18446744073709551616 * c1)
    (f2 : U64 s2 ∧ Bit c2 ∧ s2 = s1 + c + 0 - 18446744073709551616 * c2) (hcar : hi + c1 + c2 < 18446744073709551616) :
    MulIn a b w i (.int .u64 (hi + c1 + c2)) (.int .i64 ((j : Int) - 1)) ((wr.drewN q).setCell ⟨w.heap.size + 1 + 1 + 1, i + j + 1, none⟩ (.int .u64 s2)) ∧
      (intOf (.int .i64 ((j : Int) - 1)) + 1).toNat < (intOf (.int .i64 (j : Int)) + 1).toNat := by
  refine ⟨⟨_, (j : Int) - 1, _, rfl, rfl, by omega, by omega, ?_, fun h => by omega, hR.set q (i + j + 1) s2 (by omega) f2.1, ?_⟩, by simp only [intOf]; omega⟩
  · unfold U64 Bit at *; omega
  have e1 : ((j : Int) + 1 + i).toNat = i + j + 1 := by omega
  have e2 : (3 - (j : Int)).toNat = 3 - j := by omega
  have e3 : ((j : Int) - 1 + 1 + i).toNat = i + j := by omega
  have e4 : (3 - ((j : Int) - 1)).toNat = 3 - j + 1 := by omega
  rw [e1, e2] at hV; rw [e3, e4]
  exact mul_step a b o (3 - i) i j c hi lo s1 c1 s2 c2 hij hi3 (by omega) fm.2.2.1 (by rw [f1.2.2]; omega) (by rw [f2.2.2]; omega) hV
theorem mulUp_start {a b : Nat → Int} {w wr : World} {i : Nat} {c j : Int} {o : Nat → Int} (hi3 : i ≤ 3) (hj : ¬ 0 ≤ j) (hj1 : -1 ≤ j) (hR : MulR a b w wr o) (hc : U64 c)
    (hV : V6 o + c * wt (j + 1 + i).toNat = tot a b (3 - i) + rp a b i (3 - j).toNat) : MulUp a b w i (.int .u64 c) (.int .i64 (i : Int)) wr := by
  have hj' : j = -1 := by omega
  subst hj'
  refine ⟨c, i, o, rfl, rfl, by omega, by omega, hc, hR, ?_⟩
  have e1 : (-1 + 1 + (i : Int)).toNat = i := by omega
  have e2 : (3 - (-1 : Int)).toNat = 4 := by omega
  rw [e1, e2] at hV
  rw [if_neg (by omega), Int.toNat_natCast, hV]
  simp only [tot]
  rw [show 3 - (3 - i) = i by omega]
theorem mulUp_next {a b : Nat → Int} {w wr : World} {i k q : Nat} {c s c' : Int} {o : Nat → Int} (hi3 : i ≤ 3) (hk : (k : Int) ≤ i) (hR : MulR a b w wr o)
    (hV : V6 o + c * (if (k : Int) = -1 then 18446744073709551616 * wt 0 else wt (k : Int).toNat) = tot a b (3 - i + 1))
    (f : U64 s ∧ Bit c' ∧ s = o k + c + 0 - 18446744073709551616 * c') :
    MulUp a b w i (.int .u64 c') (.int .i64 ((k : Int) - 1)) ((wr.drewN q).setCell ⟨w.heap.size + 1 + 1 + 1, k, none⟩ (.int .u64 s)) ∧
      (intOf (.int .i64 ((k : Int) - 1)) + 1).toNat < (intOf (.int .i64 (k : Int)) + 1).toNat := by
  refine ⟨⟨_, (k : Int) - 1, _, rfl, rfl, by omega, by omega, ?_, hR.set q k s (by omega) f.1, ?_⟩, by simp only [intOf]; omega⟩
  · unfold U64 Bit at *; omega
  rw [if_neg (by omega), Int.toNat_natCast] at hV
  have := mul_up o k c s c' _ (by omega) (by rw [f.2.2]; omega) hV
  by_cases h0 : k = 0
  · subst h0; rw [if_pos (by omega)]; exact this
  · rw [if_neg (by omega), show ((k : Int) - 1).toNat = k - 1 by omega, ← wt_pred k (by omega) (by omega)]; exact this
theorem mulOut_next {a b : Nat → Int} {w wr : World} {i : Nat} {c k : Int} {o : Nat → Int} (ha : ∀ k, k < 4 → U64 (a k)) (hb : ∀ k, k < 4 → U64 (b k)) (hi3 : i ≤ 3) (hR : MulR a b w wr o) (hc : U64 c) (hk : -1 ≤ k)
    (hend : c = 0 ∨ ¬ 0 ≤ k)
    (hV : V6 o + c * (if k = -1 then 18446744073709551616 * wt 0 else wt k.toNat) = tot a b (3 - i + 1)) :
    MulOut a b w (.int .i64 ((i : Int) - 1)) wr ∧ (intOf (.int .i64 ((i : Int) - 1)) + 1).toNat < (intOf (.int .i64 (i : Int)) + 1).toNat := by
  have h0 : c = 0 := by
    rcases hend with h | h
    · exact h
    · rw [if_pos (by omega)] at hV
      exact mul_top o hR.ro.LU c _ (tot_lt a b ha hb _ (by omega)) hc.1 hV
  refine ⟨⟨(i : Int) - 1, o, rfl, by omega, by omega, hR, ?_⟩, by simp only [intOf]; omega⟩
  subst h0
  rw [show (3 - ((i : Int) - 1)).toNat = 3 - i + 1 by omega]; omega

set_option maxRecDepth 100000 in
set_option maxHeartbeats 4000000 in
theorem mul_words (a b : Nat → Int) (w : World) (ha : ∀ k, k < 4 → U64 (a k)) (hb : ∀ k, k < 4 → U64 (b k)) :
    Calls Tryz.prog 188 #[.agg #[.int .u64 (a 0), .int .u64 (a 1), .int .u64 (a 2), .int .u64 (a 3)], .agg #[.int .u64 (b 0), .int .u64 (b 1), .int .u64 (b 2), .int .u64 (b 3)]] w fun e w' => ∃ r : Nat → Int, e = .returned (.agg #[.int .u64 (r 0), .int .u64 (r 1), .int .u64 (r 2), .int .u64 (r 3)]) ∧ (∀ k, k < 4 → U64 (r k)) ∧ V4 r = tot a b 4 / 2^128 ∧ Below w.heap.size w w' := by
  have Ha := Lib.hid ha; have Hb := Lib.hid hb; clear ha hb
  go_enter Tryz.func188, Tryz.ntmps188
  go_wp2
  go_loopw [6] (fun v wr => MulOut a b w v wr) (fun v _ => (intOf v + 1).toNat)
  case atStart =>
    refine ⟨3, fun _ => 0, rfl, by omega, by omega, ⟨by go_grown, ?_, ?_, ?_, ?_⟩, by simp [V6, tot]⟩
    · intro k hk; have ha := Ha.out k hk
      have : k = 0 ∨ k = 1 ∨ k = 2 ∨ k = 3 := by omega
      rcases this with rfl | rfl | rfl | rfl <;> exact ⟨by simp [go_sem], by simp [go_sem], ha⟩
    · intro k hk; have hb := Hb.out k hk
      have : k = 0 ∨ k = 1 ∨ k = 2 ∨ k = 3 := by omega
      rcases this with rfl | rfl | rfl | rfl <;> exact ⟨by simp [go_sem], by simp [go_sem], hb⟩
    · intro k hk
      have : k = 0 ∨ k = 1 ∨ k = 2 ∨ k = 3 := by omega
      rcases this with rfl | rfl | rfl | rfl <;> exact ⟨by simp [go_sem], by simp [go_sem], ⟨by decide, by decide⟩⟩
    · intro k hk
      have : k = 0 ∨ k = 1 ∨ k = 2 ∨ k = 3 ∨ k = 4 ∨ k = 5 := by omega
      rcases this with rfl | rfl | rfl | rfl | rfl | rfl <;> exact ⟨by simp [go_sem], by simp [go_sem], ⟨by decide, by decide⟩⟩
  case round =>
    obtain ⟨z, o, rfl, hz1, hz2, hR, hV⟩ := hrel
    have HR := Lib.hid hR; have HV := Lib.hid hV
    clear hR hV
    by_cases hz : 0 ≤ z
    · obtain ⟨i, rfl⟩ := Int.eq_ofNat_of_zero_le hz
      go_wp2
      go_loopw [7, 8] (fun v7 v8 wi => MulIn a b w i v7 v8 wi) (fun _ v8 _ => (intOf v8 + 1).toNat)
      case atStart => exact ⟨0, 3, o, rfl, rfl, by omega, by omega, by unfold U64; omega, fun _ => rfl, HR.out, by rw [HV.out]; simp [rp]⟩
      case round =>
        obtain ⟨c, j, o2, rfl, rfl, hj1, hj2, hc, hc0, hR2, hV2⟩ := hrel
        have HC := Lib.hid hc; have HC0 := Lib.hid hc0; have HR2 := Lib.hid hR2; have HV2 := Lib.hid hV2
        clear hc hc0 hR2 hV2
        by_cases hj : 0 ≤ j
        · obtain ⟨j, rfl⟩ := Int.eq_ofNat_of_zero_le hj
          by_cases hij : 4 < (i : Int) + j
          · have fin := mulIn_skip (by omega) hj2 hij HR2.out HC.out HC0.out HV2.out
            have FIN := Lib.hid fin; clear fin
            go_wp2
            exact FIN.out
          · have hij' : i + j ≤ 4 := by omega
            have hA := HR2.out.ra i (by omega)
            have hB := HR2.out.rb j (by omega)
            have hO := HR2.out.ro (i + j + 1) (by omega)
            have hOL : Hid (U64 (o2 (i + j + 1))) := hO.2.2
            obtain ⟨hO1, hO2, _⟩ := hO
            have hA1 := hA.1
            have hB1 := hB.1
            have fm := ml_fact (a i) (b j) hA.2.2 hB.2.2
            have cm := fun w => flip_w (c_Mul64 (a i) (b j) hA.2.2 hB.2.2 w)
            clear hA hB
            generalize mh (a i) (b j) = hi at *
            generalize ml (a i) (b j) = lo at *
            have f1 := ad_fact (o2 (i + j + 1)) lo 0 hOL fm.2.1 (by unfold Bit; omega)
            have r1 := run_Add64 (o2 (i + j + 1)) lo 0 hOL fm.2.1 (by unfold Bit; omega)
            generalize ad (o2 (i + j + 1)) lo 0 = s1 at *
            generalize adc (o2 (i + j + 1)) lo 0 = c1 at *
            have f2 := ad_fact s1 c 0 f1.1 HC.out (by unfold Bit; omega)
            have r2 := run_Add64 s1 c 0 f1.1 HC.out (by unfold Bit; omega)
            generalize ad s1 c 0 = s2 at *
            generalize adc s1 c 0 = c2 at *
            have hcar : hi + c1 + c2 < 18446744073709551616 := by
              apply mul_carry (a i) (b j) (o2 (i + j + 1)) c hi lo s1 c1 s2 c2 (Ha.out i (by omega)) (Hb.out j (by omega)) hOL.out HC.out f2.1 fm.2.2.1 (by rw [f1.2.2]; omega) (by rw [f2.2.2]; omega)
            have FM := Lib.hid fm; have F1 := Lib.hid f1; have F2 := Lib.hid f2
            have b1 : 0 ≤ hi := fm.1.1
            have b2 : 0 ≤ c1 := f1.2.1.1
            have b3 : 0 ≤ c2 := f2.2.1.1
            have CM := Lib.hid cm
            clear fm f1 f2 cm
            go_wp2
            go_quiet ((go_at_call 171; exact Calls.quiet_of_same (CM.out _)))
            have fin := fun q => mulIn_next (q := q) (by omega) hj2 hij' HR2.out HV2.out FM.out F1.out F2.out hcar
            have FIN := Lib.hid fin; clear fin
            go_wp2
            exact FIN.out _
        · have st := mulUp_start (by omega) hj hj1 HR2.out HC.out HV2.out
          have ST := Lib.hid st; clear st
          go_wp2
          go_loopw [7, 13] (fun v7 v13 wu => MulUp a b w i v7 v13 wu) (fun _ v13 _ => (intOf v13 + 1).toNat)
          case atStart => exact ST.out
          case round =>
            obtain ⟨c, k, o3, rfl, rfl, hk1, hk2, hc, hR3, hV3⟩ := hrel
            have HC3 := Lib.hid hc; have HR3 := Lib.hid hR3; have HV3 := Lib.hid hV3
            have hc0 := hc.1
            clear hc hR3 hV3
            by_cases hk : 0 ≤ k
            · obtain ⟨k, rfl⟩ := Int.eq_ofNat_of_zero_le hk
              by_cases hcc : 0 < c
              · have hO := HR3.out.ro k (by omega)
                have hOL : Hid (U64 (o3 k)) := hO.2.2
                obtain ⟨hO1, hO2, _⟩ := hO
                have f1 := ad_fact (o3 k) c 0 hOL HC3.out (by unfold Bit; omega)
                have r1 := run_Add64 (o3 k) c 0 hOL HC3.out (by unfold Bit; omega)
                generalize ad (o3 k) c 0 = s1 at *
                generalize adc (o3 k) c 0 = c1 at *
                have F1 := Lib.hid f1; clear f1
                have fin := fun q => mulUp_next (q := q) (by omega) hk2 HR3.out HV3.out F1.out
                have FIN := Lib.hid fin; clear fin
                go_wp2
                exact FIN.out 0
              · have fin := mulOut_next Ha.out Hb.out (by omega) HR3.out HC3.out hk1 (Or.inl (by omega)) HV3.out
                have FIN := Lib.hid fin; clear fin
                go_wp2
                exact FIN.out
            · have fin := mulOut_next Ha.out Hb.out (by omega) HR3.out HC3.out hk1 (Or.inr hk) HV3.out
              have FIN := Lib.hid fin; clear fin
              go_wp2
              exact FIN.out
    · have hz' : z = -1 := by omega
      subst hz'
      have x0 := (HR.out.ro 0 (by omega)).1; have x1 := (HR.out.ro 1 (by omega)).1; have x2 := (HR.out.ro 2 (by omega)).1; have x3 := (HR.out.ro 3 (by omega)).1
      have y0 := HR.out.rr 0 (by omega); have y1 := HR.out.rr 1 (by omega); have y2 := HR.out.rr 2 (by omega); have y3 := HR.out.rr 3 (by omega)
      obtain ⟨y0, z0, _⟩ := y0
      obtain ⟨y1, z1, _⟩ := y1
      obtain ⟨y2, z2, _⟩ := y2
      obtain ⟨y3, z3, _⟩ := y3
      have hat : ∀ (x : Addr) (w : World), (Instr.arrayAt /-T-/ 183 (.slice (some x) 4 6)).run Tryz.prog w = .ok (.pointer (some x)) w := fun _ _ => by kernel_rfl
      go_wp2
      refine bodyPost_ret (v := .agg #[.int .u64 (o 0), .int .u64 (o 1), .int .u64 (o 2), .int .u64 (o 3)]) (by simp [results, Tryz.results188, go_sem, y0, y1, y2, y3]) rfl ⟨o, rfl, fun k hk => (HR.out.ro k (by omega)).2.2, ?_, ?_⟩
      · rw [V6_V4 o HR.out.ro.LU, HV.out]; rfl
      · have hb := HR.out.below
        go_grown
end Go.Proofs.YtlloiallkcfomaaGreat
