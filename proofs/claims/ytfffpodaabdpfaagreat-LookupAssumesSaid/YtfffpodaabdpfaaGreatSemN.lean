/- A function whose meaning is the nodes of its own run: its contract with no further proof. -/
import Derived.Test.YtfffpodaabdpfaaGreatSxL
set_option linter.unusedVariables false
set_option linter.unusedSimpArgs false
namespace Sx
open Go Go.RowKit
def lkN (vs : List Int) (i : Nat) : Int := vs.getD (vs.length - 1 - i) 0
def evalN (X : Cx) : List Nd → List Int
 | [] => []
 | x :: l => match evalN X l with
  | vs => x.val X (lkN vs) :: vs
theorem evalN_len (X : Cx) : ∀ l : List Nd, (evalN X l).length = l.length
 | [] => rfl
 | x :: l => by simp only [evalN, List.length_cons, evalN_len X l]
theorem lkN_cons (z : Int) (vs : List Int) (i : Nat) (h : i < vs.length) : lkN (z :: vs) i = lkN vs i := by
 unfold lkN
 have e : (z :: vs).length - 1 - i = (vs.length - 1 - i) + 1 := by simp only [List.length_cons]; omega
 rw [e]; rfl
theorem evalN_sat (X : Cx) : ∀ l : List Nd, wfN l = true → SatN X (lkN (evalN X l)) l
 | [], _ => trivial
 | x :: l, hw => by
  simp only [wfN, Bool.and_eq_true] at hw
  have c : ∀ i, i < l.length → lkN (evalN X l) i = lkN (evalN X (x :: l)) i := fun i hi => by
   show _ = lkN (x.val X (lkN (evalN X l)) :: evalN X l) i
   rw [lkN_cons _ _ _ (by rw [evalN_len]; exact hi)]
  refine ⟨?_, SatN.congr hw.2 c (evalN_sat X l hw.2)⟩
  rw [← Nd.val_congr c hw.1]
  show lkN (x.val X (lkN (evalN X l)) :: evalN X l) l.length = _
  generalize x.val X (lkN (evalN X l)) = z
  unfold lkN
  have e : (z :: evalN X l).length - 1 - l.length = 0 := by simp only [List.length_cons, evalN_len]; omega
  rw [e]; rfl
def pathB (v : Nat → Int) : Path → Bool
 | [] => true
 | (r, b) :: p => (decide (r.val v ≠ 0) == b) && pathB v p
theorem pathB_ok {v : Nat → Int} : ∀ {p : Path}, PT v p → pathB v p = true
 | [], _ => rfl
 | (r, b) :: p, h => by
  have := PT.cons.1 h
  simp only [pathB, Bool.and_eq_true]
  exact ⟨by simpa using this.1, pathB_ok this.2⟩
def vcB (pre : Nat → List Int → Bool) (v : Nat → Int) (c : Vc) : Bool :=
 !pathB v c.path || match c.k with
  | .pre f xs => pre f (xs.map (Rf.val v))
  | .ne0 r => decide (r.val v ≠ 0)
  | .ge0 r => decide (0 ≤ r.val v)
def vcsB (pre : Nat → List Int → Bool) (v : Nat → Int) : List Vc → Bool
 | [] => true
 | c :: l => vcB pre v c && vcsB pre v l
theorem vcsB_ok {X : Cx} {v : Nat → Int} {pre : Nat → List Int → Bool} (hp : ∀ f xs, pre f xs = true → X.pre f xs) : ∀ {l : List Vc}, vcsB pre v l = true → ∀ c ∈ l, c.holds X v
 | [], _ => fun c hc => by cases hc
 | c :: l, h => by
  simp only [vcsB, Bool.and_eq_true] at h
  intro d hd
  rcases List.mem_cons.1 hd with rfl | hd
  · obtain ⟨path, k⟩ := d
    intro hq
    have h1 := h.1
    unfold vcB at h1
    rw [pathB_ok hq] at h1
    cases k with
    | pre f xs => exact hp _ _ (by simpa using h1)
    | ne0 r =>
     show r.val v ≠ 0
     simpa using h1
    | ge0 r =>
     show 0 ≤ r.val v
     simpa using h1
  · exact vcsB_ok hp h.2 d hd
theorem calls_ev {P : Program} {X : Cx} {specs : List Spec} (hmix : P.follows .mixedOrders = true) (hs : ∀ s ∈ specs, SpecOK P X s) {rounds depth f : Nat} {sh : List (Bool × Sh)} {sv : SV} {nodes : List Nd} {vcs : List Vc} (h : whole P specs rounds depth f sh = some (sv, ⟨nodes, vcs⟩)) (hw : wfN nodes = true) {R : Value}
 (H : ∀ x, SVrel (lkN (evalN X nodes)) (fun _ => none) sv x → x = R) {pre : Nat → List Int → Bool} (hp : ∀ f xs, pre f xs = true → X.pre f xs) (hc : vcsB pre (lkN (evalN X nodes)) vcs = true) (w : World) :
 Calls P f ⟨mkVals sh X.args⟩ w fun e w' => e = .returned R ∧ Below w.heap.size w w' := by
 refine (whole_sound hs hmix h ⟨evalN_sat X nodes hw, vcsB_ok hp hc⟩ w).mono ?_
 rintro e w' ⟨x, he, hx, hb⟩
 exact ⟨by rw [he, H x hx], hb⟩
end Sx
