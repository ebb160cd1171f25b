/- Runs without arguments: their nodes are reckoned by the kernel. -/
import Derived.Test.YtmldbeipmappnaaZSxL
import Derived.Test.YtmldbeipmappnaaZSpN
set_option linter.unusedVariables false
set_option linter.unusedSimpArgs false
namespace Sx
open Go Go.RowKit
def yL:List Rf->Option (List Int)
 | []=>some []
 | .c z::l=>match yL l with
  | some m=>some (z::m)
  | none=>none
 | .n _::_=>none
theorem uk {v:Nat->Int}:∀ {l:List Rf} {m:List Int},yL l=some m->l.map (Rf.val v)=m
 | [],m,h=>by cases h;rfl
 | .c z::l,m,h=>by
  simp only [yL] at h;split at h
  . rename_i k hk
    cases h;rw [List.map_cons,uk hk];rfl
  . cases h
 | .n _::_,m,h=>by cases h
def Pp (sem:Nat->List Int->List Int):Ext:=fun _ x=>match x with
 | .app f i xs=>match yL xs with
  | some m=>some (.c ((sem f m).getD i 0))
  | none=>none
 | _=>none
theorem Ed (X:Cx):jJ X (Pp X.sem):=by
 intro v t x r ht h;unfold Pp at h;split at h
 . rename_i f i xs
   split at h
   . rename_i m hm
     cases h;show _=(X.sem f (xs.map (Rf.val v))).getD i 0;rw [uk hm];rfl
   . cases h
 . cases h
def vcC (pre:Nat->List Int->Bool) (s:Ns) (c:Vc):Bool:=match c.k with
 | .pre f xs=>match yL (xs.map s.rep) with
  | some m=>pre f m
  | none=>false
 | _=>false
def LD (pre:Nat->List Int->Bool) (s:Ns):List Vc->Bool
 | []=>true
 | c::l=>vcC pre s c&&LD pre s l
theorem CG {X:Cx} {v:Nat->Int} {s:Ns} (h:xJ X v s) {pre:Nat->List Int->Bool} (hp:∀ f xs,pre f xs=true->X.pre f xs):∀ (l:List Vc),LD pre s l=true->∀ c∈l,c.holds X v
 | [],_=>fun c hc=>by cases hc
 | c::l,ha=>by
  simp only [LD,Bool.and_eq_true] at ha;intro d hd;rcases List.mem_cons.1 hd with rfl|hd
  . intro _;have h1:=ha.1;obtain ⟨path,k⟩:=d;unfold vcC at h1;split at h1
    . rename_i f xs hk
      simp only at hk;subst hk;split at h1
      . rename_i m hm
        have q:=hp _ _ h1;rw [<-uk (v:=v) hm,List.map_map] at q;have e:xs.map (Rf.val v ∘ s.rep)=xs.map (Rf.val v):=List.map_congr_left fun r _=>oN h r
        rw [e] at q;exact q
      . cases h1
    . cases h1
  . exact CG h hp l ha.2 d hd
def VD (sem:Nat->List Int->List Int) (pre:Nat->List Int->Bool) (nd:List Nd) (vs:List Vc) (k:Nat) (z:Int):Bool :=
 match norm (Pp sem) [] [] nd with
 | s=>Rf.eq (s.rep (.n k)) (.c z)&&LD pre s vs
theorem La {X:Cx} {v:Nat->Int} {nd:List Nd} (hs:gG X v nd.reverse) {pre:Nat->List Int->Bool} (hp:∀ f xs,pre f xs=true->X.pre f xs) {vs:List Vc} {k:Nat} {z:Int} (h:VD X.sem pre nd vs k z=true):v k=z/\∀ c∈vs,c.holds X v:=by
 have n:=qR (Ed X) hs au aJ;unfold VD at h;simp only [Bool.and_eq_true] at h;exact ⟨aC (Ed X) hs au aJ (r:=.c z) h.1,CG n hp _ h.2⟩
end Sx
namespace Sx
open Go Go.RowKit
def Cx.plus (X:Cx) (k:Nat->Bool) (S:Nat->List Int->List Int) (P:Nat->List Int->Prop):Cx :=
 ⟨fun f xs=>if k f=true then S f xs else X.sem f xs,fun f xs=>if k f=true then P f xs else X.pre f xs,X.args⟩
theorem mM {Pr:Program} {X:Cx} {k:Nat->Bool} {S:Nat->List Int->List Int} {P:Nat->List Int->Prop} {s:Sx.Spec} (h:k s.id=false) (H:aL Pr X s):aL Pr (X.plus k S P) s:=by
 obtain ⟨a,b⟩:=H;refine ⟨a,fun xs hp w=>?_⟩
 have n:¬ k s.id=true:=by rw [h];decide
 have e:(X.plus k S P).sem s.id xs=X.sem s.id xs:=if_neg n;have hp':(if k s.id=true then P s.id xs else X.pre s.id xs):=hp
 rw [if_neg n] at hp'
 rw [e];exact b xs hp' w
theorem dV {Pr:Program} {X:Cx} {k:Nat->Bool} {S:Nat->List Int->List Int} {P:Nat->List Int->Prop} {s:Sx.Spec} (h:k s.id=true) (a:zS Pr s.fn) (b:∀ xs:List Int,P s.id xs->∀ w,Calls Pr s.fn ⟨mkVals s.args xs⟩ w fun e w'=>e=.returned (zU s.res (S s.id xs))/\Below w.heap.size w w'):aL Pr (X.plus k S P) s:=by
 refine ⟨a,fun xs hp w=>?_⟩
 have e:(X.plus k S P).sem s.id xs=S s.id xs:=if_pos h;have hp':(if k s.id=true then P s.id xs else X.pre s.id xs):=hp
 rw [if_pos h] at hp'
 rw [e];exact b xs hp' w
end Sx
namespace Go.Proofs.Ytmldbeipmappnaa
open Go.RowKit Alm Sx
theorem nZ {X:Cx} (L:xR X) {k:Nat->Bool} {S:Nat->List Int->List Int} {P:Nat->List Int->Prop} (h:∀ f,f<=8∨f=20->k f=false):xR (X.plus k S P):=by
 refine ⟨fun f xs hf=>?_,fun f xs hf hp=>?_⟩
 . have n:¬ k f=true:=by rw [h f (.inl hf)];decide
   exact (if_neg n).trans (L.sem f xs hf)
 . have n:¬ k f=true:=by rw [h f hf];decide
   show if k f=true then P f xs else X.pre f xs
   rw [if_neg n];exact L.pre f xs hf hp
