/- A context of a symbolic run with more known functions. -/
import Derived.Test.YtdbaccfgkacffaaGreatZSpN
set_option linter.unusedVariables false
set_option linter.unusedSimpArgs false
namespace Sx
open Go Go.RowKit
def Cx.plus (X:Cx) (k:Nat->Bool) (S:Nat->List Int->List Int) (P:Nat->List Int->Prop):Cx :=
 ⟨fun f xs=>if k f=true then S f xs else X.sem f xs,fun f xs=>if k f=true then P f xs else X.pre f xs,X.args⟩
theorem fI {Pr:Program} {X:Cx} {k:Nat->Bool} {S:Nat->List Int->List Int} {P:Nat->List Int->Prop} {s:Sx.Spec} (h:k s.id=false) (H:aT Pr X s):aT Pr (X.plus k S P) s:=by
 obtain ⟨a,b⟩:=H;refine ⟨a,fun xs hp w=>?_⟩
 have n:¬ k s.id=true:=by rw [h];decide
 have e:(X.plus k S P).sem s.id xs=X.sem s.id xs:=if_neg n;have hp':(if k s.id=true then P s.id xs else X.pre s.id xs):=hp
 rw [if_neg n] at hp'
 rw [e];exact b xs hp' w
theorem dJ {Pr:Program} {X:Cx} {k:Nat->Bool} {S:Nat->List Int->List Int} {P:Nat->List Int->Prop} {s:Sx.Spec} (h:k s.id=true) (a:Cg Pr s.fn) (b:∀ xs:List Int,P s.id xs->∀ w,Calls Pr s.fn ⟨dV s.args xs⟩ w fun e w'=>e=.returned (Cw s.res (S s.id xs))/\Below w.heap.size w w'):aT Pr (X.plus k S P) s:=by
 refine ⟨a,fun xs hp w=>?_⟩
 have e:(X.plus k S P).sem s.id xs=S s.id xs:=if_pos h;have hp':(if k s.id=true then P s.id xs else X.pre s.id xs):=hp
 rw [if_pos h] at hp'
 rw [e];exact b xs hp' w
end Sx
namespace Go.Proofs.YtdbaccfgkacffaaGreat
open Go.RowKit Alm Sx
theorem rT {X:Cx} (L:AA X) {k:Nat->Bool} {S:Nat->List Int->List Int} {P:Nat->List Int->Prop} (h:∀ f,f<=8∨f=20->k f=false):AA (X.plus k S P):=by
 refine ⟨fun f xs hf=>?_,fun f xs hf hp=>?_⟩
 . have n:¬ k f=true:=by rw [h f (.inl hf)];decide
   exact (if_neg n).trans (L.sem f xs hf)
 . have n:¬ k f=true:=by rw [h f hf];decide
   show if k f=true then P f xs else X.pre f xs
   rw [if_neg n];exact L.pre f xs hf hp
