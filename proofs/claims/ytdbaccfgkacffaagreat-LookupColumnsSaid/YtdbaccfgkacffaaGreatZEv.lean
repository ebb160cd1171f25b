/- Runs without arguments: their nodes are reckoned by the kernel. -/
import Derived.Test.YtdbaccfgkacffaaGreatZSxL
set_option linter.unusedVariables false
set_option linter.unusedSimpArgs false
namespace Sx
open Go Go.RowKit
def Cz:List Rf->Option (List Int)
 | []=>some []
 | .c z::l=>match Cz l with
  | some m=>some (z::m)
  | none=>none
 | .n _::_=>none
theorem wU {v:Nat->Int}:∀ {l:List Rf} {m:List Int},Cz l=some m->l.map (Rf.val v)=m
 | [],m,h=>by cases h;rfl
 | .c z::l,m,h=>by
  simp only [Cz] at h;split at h
  . rename_i k hk
    cases h;rw [List.map_cons,wU hk];rfl
  . cases h
 | .n _::_,m,h=>by cases h
def XL (sem:Nat->List Int->List Int):Ext:=fun _ x=>match x with
 | .app f i xs=>match Cz xs with
  | some m=>some (.c ((sem f m).getD i 0))
  | none=>none
 | _=>none
theorem Jm (X:Cx):jA X (XL X.sem):=by
 intro v t x r ht h;unfold XL at h;split at h
 . rename_i f i xs
   split at h
   . rename_i m hm
     cases h;show _=(X.sem f (xs.map (Rf.val v))).getD i 0;rw [wU hm];rfl
   . cases h
 . cases h
def vcC (pre:Nat->List Int->Bool) (s:Ns) (c:Vc):Bool:=match c.k with
 | .pre f xs=>match Cz (xs.map s.rep) with
  | some m=>pre f m
  | none=>false
 | _=>false
def Tv (pre:Nat->List Int->Bool) (s:Ns):List Vc->Bool
 | []=>true
 | c::l=>vcC pre s c&&Tv pre s l
theorem IJ {X:Cx} {v:Nat->Int} {s:Ns} (h:Bc X v s) {pre:Nat->List Int->Bool} (hp:∀ f xs,pre f xs=true->X.pre f xs):∀ (l:List Vc),Tv pre s l=true->∀ c∈l,c.holds X v
 | [],_=>fun c hc=>by cases hc
 | c::l,ha=>by
  simp only [Tv,Bool.and_eq_true] at ha;intro d hd;rcases List.mem_cons.1 hd with rfl|hd
  . intro _;have h1:=ha.1;obtain ⟨path,k⟩:=d;unfold vcC at h1;split at h1
    . rename_i f xs hk
      simp only at hk;subst hk;split at h1
      . rename_i m hm
        have q:=hp _ _ h1;rw [<-wU (v:=v) hm,List.map_map] at q;have e:xs.map (Rf.val v ∘ s.rep)=xs.map (Rf.val v):=List.map_congr_left fun r _=>jL h r
        rw [e] at q;exact q
      . cases h1
    . cases h1
  . exact IJ h hp l ha.2 d hd
def aaX (sem:Nat->List Int->List Int) (pre:Nat->List Int->Bool) (nd:List Nd) (vs:List Vc) (k:Nat) (z:Int):Bool :=
 match norm (XL sem) [] [] nd with
 | s=>Rf.eq (s.rep (.n k)) (.c z)&&Tv pre s vs
theorem RG {X:Cx} {v:Nat->Int} {nd:List Nd} (hs:gV X v nd.reverse) {pre:Nat->List Int->Bool} (hp:∀ f xs,pre f xs=true->X.pre f xs) {vs:List Vc} {k:Nat} {z:Int} (h:aaX X.sem pre nd vs k z=true):v k=z/\∀ c∈vs,c.holds X v:=by
 have n:=jE (Jm X) hs av aA;unfold aaX at h;simp only [Bool.and_eq_true] at h;exact ⟨ax (Jm X) hs av aA (r:=.c z) h.1,IJ n hp _ h.2⟩
