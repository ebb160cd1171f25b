/- Runs without arguments: their nodes are reckoned by the kernel. -/
import Derived.Test.YtfffpodaabdpfaaGreatSxL
set_option linter.unusedVariables false
set_option linter.unusedSimpArgs false
namespace Sx
open Go Go.RowKit
def cvals:List Rf→Option (List Int)
 | []=>some []
 | .c z :: l=>match cvals l with
  | some m=>some (z :: m)
  | none=>none
 | .n _ :: _=>none
theorem cvals_ok {v:Nat→Int}:∀ {l:List Rf} {m:List Int},cvals l=some m→l.map (Rf.val v)=m
 | [],m,h=>by cases h;rfl
 | .c z :: l,m,h=>by
  simp only [cvals] at h
  split at h
  · rename_i k hk
    cases h
    rw [List.map_cons,cvals_ok hk];rfl
  · cases h
 | .n _ :: _,m,h=>by cases h
def extC (sem:Nat→List Int→List Int):Ext:=fun _ x=>match x with
 | .app f i xs=>match cvals xs with
  | some m=>some (.c ((sem f m).getD i 0))
  | none=>none
 | _=>none
theorem extC_ok (X:Cx):ExtOK X (extC X.sem):=by
 intro v t x r ht h
 unfold extC at h
 split at h
 · rename_i f i xs
   split at h
   · rename_i m hm
     cases h
     show _=(X.sem f (xs.map (Rf.val v))).getD i 0
     rw [cvals_ok hm];rfl
   · cases h
 · cases h
def vcC (pre:Nat→List Int→Bool) (s:Ns) (c:Vc):Bool:=match c.k with
 | .pre f xs=>match cvals (xs.map s.rep) with
  | some m=>pre f m
  | none=>false
 | _=>false
def allC (pre:Nat→List Int→Bool) (s:Ns):List Vc→Bool
 | []=>true
 | c :: l=>vcC pre s c && allC pre s l
theorem allC_ok {X:Cx} {v:Nat→Int} {s:Ns} (h:NsOK X v s) {pre:Nat→List Int→Bool} (hp:∀ f xs,pre f xs=true→X.pre f xs):∀ (l:List Vc),allC pre s l=true→∀ c ∈ l,c.holds X v
 | [],_=>fun c hc=>by cases hc
 | c :: l,ha=>by
  simp only [allC,Bool.and_eq_true] at ha
  intro d hd
  rcases List.mem_cons.1 hd with rfl | hd
  · intro _
    have h1:=ha.1
    obtain ⟨path,k⟩:=d
    unfold vcC at h1
    split at h1
    · rename_i f xs hk
      simp only at hk
      subst hk
      split at h1
      · rename_i m hm
        have q:=hp _ _ h1
        rw [← cvals_ok (v:=v) hm,List.map_map] at q
        have e:xs.map (Rf.val v ∘ s.rep)=xs.map (Rf.val v):=List.map_congr_left fun r _=>rep_ok h r
        rw [e] at q
        exact q
      · cases h1
    · cases h1
  · exact allC_ok h hp l ha.2 d hd
def evOK (sem:Nat→List Int→List Int) (pre:Nat→List Int→Bool) (nd:List Nd) (vs:List Vc) (k:Nat) (z:Int):Bool :=
 match norm (extC sem) [] [] nd with
 | s=>Rf.eq (s.rep (.n k)) (.c z) && allC pre s vs
theorem evOK_ok {X:Cx} {v:Nat→Int} {nd:List Nd} (hs:SatN X v nd.reverse) {pre:Nat→List Int→Bool} (hp:∀ f xs,pre f xs=true→X.pre f xs) {vs:List Vc} {k:Nat} {z:Int} (h:evOK X.sem pre nd vs k z=true):v k=z∧∀ c ∈ vs,c.holds X v:=by
 have n:=norm_ok (extC_ok X) hs ps_nil nz_nil
 unfold evOK at h
 simp only [Bool.and_eq_true] at h
 exact ⟨norm_val (extC_ok X) hs ps_nil nz_nil (r:=.c z) h.1,allC_ok n hp _ h.2⟩
end Sx
