/- Runs without arguments: their nodes are reckoned by the kernel. -/
import Derived.Test.YtbcnifkfaknnaaaGreatZSxL
import Derived.Test.YtbcnifkfaknnaaaGreatZSpN
set_option linter.unusedVariables false
set_option linter.unusedSimpArgs false
namespace Sx
open Go Go.RowKit
def Bj:List Rf->Option (List Int)
 | []=>some []
 | .c z::l=>match Bj l with
  | some m=>some (z::m)
  | none=>none
 | .n _::_=>none
theorem uB {v:Nat->Int}:∀ {l:List Rf} {m:List Int},Bj l=some m->l.map (Rf.val v)=m
 | [],m,h=>by cases h;rfl
 | .c z::l,m,h=>by
  simp only [Bj] at h;split at h
  . rename_i k hk
    cases h;rw [List.map_cons,uB hk];rfl
  . cases h
 | .n _::_,m,h=>by cases h
def SF (sem:Nat->List Int->List Int):Ext:=fun _ x=>match x with
 | .app f i xs=>match Bj xs with
  | some m=>some (.c ((sem f m).getD i 0))
  | none=>none
 | _=>none
theorem Gb (X:Cx):uM X (SF X.sem):=by
 intro v t x r ht h;unfold SF at h;split at h
 . rename_i f i xs
   split at h
   . rename_i m hm
     cases h;show _=(X.sem f (xs.map (Rf.val v))).getD i 0;rw [uB hm];rfl
   . cases h
 . cases h
def vcC (pre:Nat->List Int->Bool) (s:Ns) (c:Vc):Bool:=match c.k with
 | .pre f xs=>match Bj (xs.map s.rep) with
  | some m=>pre f m
  | none=>false
 | _=>false
def QN (pre:Nat->List Int->Bool) (s:Ns):List Vc->Bool
 | []=>true
 | c::l=>vcC pre s c&&QN pre s l
theorem FR {X:Cx} {v:Nat->Int} {s:Ns} (h:zC X v s) {pre:Nat->List Int->Bool} (hp:∀ f xs,pre f xs=true->X.pre f xs):∀ (l:List Vc),QN pre s l=true->∀ c∈l,c.holds X v
 | [],_=>fun c hc=>by cases hc
 | c::l,ha=>by
  simp only [QN,Bool.and_eq_true] at ha;intro d hd;rcases List.mem_cons.1 hd with rfl|hd
  . intro _;have h1:=ha.1;obtain ⟨path,k⟩:=d;unfold vcC at h1;split at h1
    . rename_i f xs hk
      simp only at hk;subst hk;split at h1
      . rename_i m hm
        have q:=hp _ _ h1;rw [<-uB (v:=v) hm,List.map_map] at q;have e:xs.map (Rf.val v ∘ s.rep)=xs.map (Rf.val v):=List.map_congr_left fun r _=>qR h r
        rw [e] at q;exact q
      . cases h1
    . cases h1
  . exact FR h hp l ha.2 d hd
def WZ (sem:Nat->List Int->List Int) (pre:Nat->List Int->Bool) (nd:List Nd) (vs:List Vc) (k:Nat) (z:Int):Bool :=
 match norm (SF sem) [] [] nd with
 | s=>Rf.eq (s.rep (.n k)) (.c z)&&QN pre s vs
theorem Qh {X:Cx} {v:Nat->Int} {nd:List Nd} (hs:gY X v nd.reverse) {pre:Nat->List Int->Bool} (hp:∀ f xs,pre f xs=true->X.pre f xs) {vs:List Vc} {k:Nat} {z:Int} (h:WZ X.sem pre nd vs k z=true):v k=z/\∀ c∈vs,c.holds X v:=by
 have n:=tY (Gb X) hs aS dz;unfold WZ at h;simp only [Bool.and_eq_true] at h;exact ⟨bP (Gb X) hs aS dz (r:=.c z) h.1,FR n hp _ h.2⟩
end Sx
namespace Sx
open Go Go.RowKit
def Cx.plus (X:Cx) (k:Nat->Bool) (S:Nat->List Int->List Int) (P:Nat->List Int->Prop):Cx :=
 ⟨fun f xs=>if k f=true then S f xs else X.sem f xs,fun f xs=>if k f=true then P f xs else X.pre f xs,X.args⟩
theorem dR {Pr:Program} {X:Cx} {k:Nat->Bool} {S:Nat->List Int->List Int} {P:Nat->List Int->Prop} {s:Sx.Spec} (h:k s.id=false) (H:bR Pr X s):bR Pr (X.plus k S P) s:=by
 obtain ⟨a,b⟩:=H;refine ⟨a,fun xs hp w=>?_⟩
 have n:¬ k s.id=true:=by rw [h];decide
 have e:(X.plus k S P).sem s.id xs=X.sem s.id xs:=if_neg n;have hp':(if k s.id=true then P s.id xs else X.pre s.id xs):=hp
 rw [if_neg n] at hp'
 rw [e];exact b xs hp' w
theorem iq {Pr:Program} {X:Cx} {k:Nat->Bool} {S:Nat->List Int->List Int} {P:Nat->List Int->Prop} {s:Sx.Spec} (h:k s.id=true) (a:Bf Pr s.fn) (b:∀ xs:List Int,P s.id xs->∀ w,Calls Pr s.fn ⟨mkVals s.args xs⟩ w fun e w'=>e=.returned (DF s.res (S s.id xs))/\Below w.heap.size w w'):bR Pr (X.plus k S P) s:=by
 refine ⟨a,fun xs hp w=>?_⟩
 have e:(X.plus k S P).sem s.id xs=S s.id xs:=if_pos h;have hp':(if k s.id=true then P s.id xs else X.pre s.id xs):=hp
 rw [if_pos h] at hp'
 rw [e];exact b xs hp' w
end Sx
namespace Go.Proofs.YtbcnifkfaknnaaaGreat
open Go.RowKit Alm Sx
