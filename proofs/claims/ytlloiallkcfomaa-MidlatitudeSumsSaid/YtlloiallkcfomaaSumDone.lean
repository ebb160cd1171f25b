/- The statement on the sums of a traverse: proved off the law's contract. -/
import Derived.Test.YtlloiallkcfomaaRows
import Derived.WalkKit
import Derived.ProofKit
import Derived.OpenShut
import Derived.ChangeOld
import Derived.Below
import Derived.Lib.SmallJoins
import Derived.Deep.Slices
import Derived.WideKeyArgs
import Derived.Test.YtlloiallkcfomaaSumLaw
namespace Go.Proofs.Ytlloiallkcfomaa
open Go.ChangeShapes Go.WideShapes Go.ChangeAt Go.RowKit Go.Joins Go.Deep Go.WideElems Alm
set_option linter.unusedVariables false
section
variable {H : Type} {enc : TypeId × Value → H} {P : Program}
theorem post_below {f : Func} {s : ChangeSpec} {apart fresh handsOn again : Bool} {W W' : World} {args : Array Value} {v : Value} {ds gs : List (DataW H)} {before pa pv : List MemPlace}
    (hW : DataW.Whole enc P f.params.toList s.vars apart W args.toList ds gs before)
    (hres : ∀ (b : Nat) (sp : Nat → Bool) (hd : Bool), DataW.TrodAll enc P W' b sp hd f.resultTypes.toList (v.resultList f.resultTypes.size) (s.fn H (ds ++ gs)).results [])
    (hargs : ∀ sp : Nat → Bool, (∀ p ∈ before, sp p.block = true) → DataW.TrodAll enc P W' 0 sp true f.params.toList args.toList (s.fn H (ds ++ gs)).args pa)
    (hvars : ∀ sp : Nat → Bool, (∀ p ∈ before, sp p.block = true) → DataW.TrodVars enc P W' sp s.vars (s.fn H (ds ++ gs)).vars pv)
    (hps : before = pa ++ pv) (hb : Below W.heap.size W W')
    (hok : ∀ (j : Nat) (t : TypeId) (r : Value), f.resultTypes[j]? = some t → (v.resultList f.resultTypes.size)[j]? = some r → Value.okWide P W' .any 0 t r) :
    s.post enc P f apart fresh handsOn again W args v W' := by
  have hlt : ∀ p ∈ before, p.block < W.heap.size := fun p hp => hW.lt p hp
  have hold : ∀ p ∈ before, (fun b => decide (b < W.heap.size)) p.block = true := fun p hp => by simpa using hlt p hp
  refine ⟨ds, gs, before, [], pa, pv, hW, hres _ _ _, hargs _ hold, hvars _ hold, World.keptBut_mono (fun p hp => ⟨hp, ?_⟩) (hb.frame (· ∈ before)), fun _ => ?_⟩
  · rw [hps, List.mem_append] at hp
    exact Or.inr hp
  · obtain ⟨_, _, _, _, _, hz, hn⟩ := hW
    refine ⟨hok, _, _, ([] ++ pa) ++ pv, ⟨[] ++ pa, pv, trodAll_append (hargs _ (fun _ _ => rfl)) (hres _ _ _), hvars _ (fun _ _ => rfl), rfl, ?_, ?_⟩, ?_⟩
    · intro b off hp
      have hin : MemPlace.cell b off ∈ before := by rw [hps]; simpa using hp
      rw [hb.frozen (hlt _ hin)]
      exact hz b off hin
    · intro ha
      have := hn ha
      rw [hps] at this
      simpa using this
    · intro p hp _
      rw [hps]
      simpa using hp
end
theorem four {α : Type} (l : List α) (h : l.length = 4) : ∃ a b c d, l = [a, b, c, d] := by
  match l, h with
  | [a, b, c, d], _ => exact ⟨a, b, c, d, rfl⟩
theorem own : ownKnob Try.prog.godebug = none := by kernel_rfl
theorem cellsArc : Try.prog.cellsOf /-T-/ 37 = 2 := by kernel_rfl
theorem cellsLeg : Try.prog.cellsOf /-T-/ 39 = 4 := by kernel_rfl
theorem cellsInt : Try.prog.cellsOf /-T-/ 3 = 1 := by kernel_rfl
set_option maxRecDepth 1000000 in
theorem readL : Try.prog.readableRec /-T-/ 34 = true := by kernel_rfl
theorem rowL : /-T-/ 34 < Try.prog.types.size := of_decide_eq_true (by kernel_rfl)
set_option maxRecDepth 1000000 in
theorem laid : laidOutB Try.prog = true := by kernel_rfl
section
variable {H : Type} {enc : TypeId × Value → H} {w : World} {base : Nat} {spare : Nat → Bool} {held : Bool}
theorem arc_trod {n : Nat} {c0 c1 : Value} {x : DataW H × List MemPlace} (h : DataW.trod enc Try.prog w base spare held n /-T-/ 37 [c0, c1] = some x) : ∃ a b : Int, c0 = .int .i64 a ∧ c1 = .int .i64 b := by
  obtain ⟨y0, y1, m, _, _, h0, h1⟩ := trod_struct2 Try.underlying37 h
  simp [cellsInt] at h0 h1
  obtain ⟨a, e0, _, _⟩ := DataW.trod_int Try.underlying3 h0
  obtain ⟨b, e1, _, _⟩ := DataW.trod_int Try.underlying3 h1
  simp at e0 e1
  exact ⟨a, b, e0, e1⟩
theorem leg_trod {n : Nat} {cs : List Value} {x : DataW H × List MemPlace} (h : DataW.trod enc Try.prog w base spare held n /-T-/ 39 cs = some x) : ∃ l : Leg4, cs = lv l := by
  obtain ⟨y0, y1, m, _, hl, h0, h1⟩ := trod_struct2 Try.underlying39 h
  rw [cellsLeg] at hl
  obtain ⟨c0, c1, c2, c3, rfl⟩ := four cs hl
  simp [cellsArc] at h0 h1
  obtain ⟨a, b, rfl, rfl⟩ := arc_trod h0
  obtain ⟨c, d, rfl, rfl⟩ := arc_trod h1
  exact ⟨⟨a, b, c, d⟩, rfl⟩
def LegAt' (w : World) (a : Addr) (l : Leg4) : Prop := w.cell? (a.add 0) = (lv l)[0]? ∧ w.cell? (a.add 1) = (lv l)[1]? ∧ w.cell? (a.add 2) = (lv l)[2]? ∧ w.cell? (a.add 3) = (lv l)[3]?
theorem legs_open {n : Nat} {v : Value} {x : DataW H × List MemPlace} (h : DataW.trod enc Try.prog w base spare held n /-T-/ 34 [v] = some x) :
    ∃ (a : Option Addr) (cap : Nat) (L : List Leg4), v = .slice a L.length cap ∧ L.length ≤ cap ∧ cap ≤ maxLen ∧ Legs w a L ∧ (a = none → L.length = 0 ∧ cap = 0) := by
  rcases open_slice Try.underlying34 h with ⟨h0, _⟩ | ⟨a, len, cap, m, n, D, Pl, h0, hb, hl, hm, hmm, hx, hi⟩
  · simp at h0
    exact ⟨none, 0, [], h0, Nat.le_refl _, Nat.zero_le _, .inl rfl, fun _ => ⟨rfl, rfl⟩⟩
  · simp at h0
    rw [cellsLeg] at hi
    have hle : len ≤ m := by rw [hmm]; split <;> omega
    have hone : ∀ i, i < len → ∃ l : Leg4, LegAt' w (a.add (i * 4)) l := by
      intro i hil
      obtain ⟨cs', hc, ht⟩ := hi i (by omega)
      obtain ⟨l, rfl⟩ := leg_trod ht
      obtain ⟨_, _, hcell⟩ := World.cells?_some hc
      have k0 := hcell 0 (by omega); have k1 := hcell 1 (by omega); have k2 := hcell 2 (by omega); have k3 := hcell 3 (by omega)
      exact ⟨l, k0, k1, k2, k3⟩
    haveI : Inhabited Leg4 := ⟨⟨0, 0, 0, 0⟩⟩
    obtain ⟨f, hf⟩ := choose_lt hone
    refine ⟨some a, cap, (List.range len).map f, by simpa using h0, by simpa using hl, hm, ?_, by simp⟩
    by_cases h00 : len = 0
    · subst h00; exact .inl rfl
    · obtain ⟨b, off, spot⟩ := a
      have c0 := (hf 0 (by omega)).1
      have hspot : spot = none := by simpa [Addr.add] using World.cell?_spot c0
      subst hspot
      refine .inr ⟨b, off, rfl, ?_, fun i hi' => ?_⟩
      · have := World.cells?_block (hi 0 (by omega)).choose_spec.1 (by omega)
        simpa [Addr.add] using this
      · simp only [List.length_map, List.length_range] at hi'
        obtain ⟨q0, q1, q2, q3⟩ := hf i hi'
        simp only [List.getElem_map, List.getElem_range]
        simp only [Addr.add_lit] at q0 q1 q2 q3
        exact ⟨by simpa [lv] using q0, by simpa [lv] using q1, by simpa [lv] using q2, by simpa [lv] using q3⟩
end
set_option maxRecDepth 100000 in
theorem lifted (os : Os) (started : os.Started) (H : Type) (enc : TypeId × Value → H) :
    ReturnsInHanded {} Try.checked os 4 .any (Rows.midlatitudeSumsSpec.pre6 enc Try.prog Try.f4 Rows.midlatitudeSumsRow.domain false) (Rows.midlatitudeSumsSpec.post enc Try.prog Try.f4 false true false false) := by
  refine returnsInHanded_of_change (C := Try.checked) own started (by kernel_rfl) Try.func4
    (ChangeSpec.witness6 (enc := enc) (C := Try.checked) false ⟨#[], #[.slice none 0 0, .int .u8 0], []⟩ 8 (by kernel_rfl) (by kernel_rfl) (by kernel_rfl) (by kernel_rfl)) ?_
  intro W base args ds gs before hval0 hW hcnd _
  have hval : ∀ (j : Nat) t v, Try.f4.params[j]? = some t → args[j]? = some v → Value.okWide Try.prog W .any base t v := hval0
  have hW' := hW
  obtain ⟨p, q, hA0, hV, rfl, hfz, hnd⟩ := hW
  have hA : DataW.TrodAll enc Try.prog W 0 (fun _ => true) true Try.f4.params.toList args.toList ds p := hA0
  rw [Try.params4] at hA hval
  obtain ⟨v0, v1, d0, d1, p0, p1, rfl, rfl, rfl, h0, h1⟩ := trodAll_two hA
  obtain ⟨rfl, rfl⟩ := trodVars_none hV
  obtain ⟨cut, rfl, rfl, rfl, wc⟩ := open_int Try.underlying5 (hval 1 /-T-/ 5 v1 rfl rfl) h1
  have h0' := h0
  have hpl : ∀ x ∈ p0, x.block < W.heap.size := fun x hx => hW'.lt x (by simp [hx])
  obtain ⟨fuel, hf⟩ := h0
  have hv0 : v0.cells.toList = [v0] := by
    obtain ⟨a, n, c, rfl⟩ := okWide_slice Try.underlying34 (hval 0 /-T-/ 34 v0 rfl rfl)
    rfl
  rw [hv0] at hf
  obtain ⟨a, cap, L, rfl, hl, hm, hL, hnil⟩ := legs_open hf
  clear hA0 hval0
  simp only [List.append_nil] at hW'
  have hc : 0 ≤ cut ∧ cut ≤ 255 := by simpa [Lit.wf, IntKind.min, IntKind.max, IntKind.signed, IntKind.bits] using wc
  refine (sums_law a cap L cut W hL hl (by unfold maxLen at hm; omega) hnil hc.1 hc.2).mono fun e W' ⟨he, hw⟩ => ?_
  subst he
  exact ⟨_, rfl, post_below (pa := p0) (pv := []) hW' (fun _ _ _ => trodAll_mk1 (shut_bool Try.underlying4 _))
    (fun sp hsp => by
      have := trodAll_mk2 (Trod_stays laid readL rowL h0' (fun x hx => hw.same (hpl x hx)) (fun x hx => hsp x (by simpa using hx))) (shut_int (w := W') (base := 0) (spare := sp) (held := true) Try.underlying5 wc)
      rw [List.append_nil] at this
      exact this) (fun _ _ => rfl) (by simp) hw
    (ok_one (by kernel_rfl) rfl (okWide_bool_mk Try.underlying4 true))⟩
theorem sums_holds : Rows.MidlatitudeSumsSaid :=
  OpenClaim.holds_of_wide 4 Try.f4 rfl rfl rfl rfl rfl rfl rfl ⟨rfl, rfl, rfl, rfl, rfl⟩ rfl rfl rfl rfl rfl (by kernel_rfl) Try.func4 (by kernel_rfl)
    (of_decide_eq_true (by kernel_rfl)) (by unfold Func.isWrapper; rw [if_neg (of_decide_eq_false (by kernel_rfl))]; exact ⟨rfl, rfl⟩)
    (fun os started H enc _ => lifted os started H enc)
end Go.Proofs.Ytlloiallkcfomaa
