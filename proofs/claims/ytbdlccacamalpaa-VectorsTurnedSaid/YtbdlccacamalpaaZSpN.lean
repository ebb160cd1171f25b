/- The known functions of the symbolic runs: the reference's sine and cosine. -/
import Derived.Test.YtbdlccacamalpaaZSp
import Derived.Test.YtbdlccacamalpaaZRefA
import Derived.Test.YtbdlccacamalpaaZSides
import Derived.Test.YtbdlccacamalpaaZSxL
set_option linter.unusedVariables false
set_option linter.unusedSimpArgs false
namespace Go.Proofs.Ytbdlccacamalpaa
open Go.RowKit Alm Sx
end Go.Proofs.Ytbdlccacamalpaa
namespace Go.Proofs.Ytbdlccacamalpaa
open Go.RowKit Alm Sx
end Go.Proofs.Ytbdlccacamalpaa
namespace Go.Proofs.Ytbdlccacamalpaa
open Go.RowKit Alm Sx
theorem RQ {f:Nat} (hf:f<=4) (xs:List Int) {i:Nat} (hi:i<2) (h:(az f xs).getD 2 0≠0):(az f xs).getD i 0=0:=by
 have key:∀ L H:Int,(zx L H).getD 2 0≠0->(zx L H).getD i 0=0:=by
  intro L H h;have:=(rD L H).2.1 h;have hi':i=0∨i=1:=by omega
  rcases hi' with rfl|rfl
  . exact this.1
  . exact this.2
 revert h
 unfold az;split
 all_goals intro h
 all_goals first
  | exact key _ _ h
  | exact absurd rfl h
  | omega
theorem e0G {f:Nat} (hf:f=5∨f=6∨f=7) (xs:List Int):(az f xs).getD 2 0=0:=by
 unfold az;split
 all_goals first
  | omega
  | rfl
structure rH (X:Cx):Prop where
 sem:∀ (f:Nat) (xs:List Int),f<=8->X.sem f xs=az f xs
 pre:∀ (f:Nat) (xs:List Int),f<=8∨f=20->preB f xs->X.pre f xs
theorem rH.at {X:Cx} (L:rH X) {v:Nat->Int} {r:Rf} {f i:Nat} {xs:List Rf} (hf:f<=8) (h:r.val v=(Nd.app f i xs).val X v):r.val v=(az f (xs.map (Rf.val v))).getD i 0:=by
 rw [h];simp only [Nd.val];rw [L.sem _ _ hf]
def EO (t:Tab):Nd->Option Rf
 | .app f i xs=>if Nat.beq i 2&&(Nat.beq f 5 || (Nat.beq f 6 || Nat.beq f 7)) then some (.c 0) else none
 | .ite c (.c (.ofNat 0)) x=>match iW c t with
  | some (.bin .neq _ e (.c (.ofNat 0)))=>match iW e t with
   | some (.app f 2 xs)=>match iW x t with
    | some (.app g i ys)=>if Nat.beq f g&&(Nat.blt i 2&&(Nat.ble f 4&&lX xs ys)) then some x else none
    | _=>none
   | _=>none
  | _=>none
 | _=>none
theorem Am {X:Cx} (L:rH X):lJ X EO:=by
 intro v t x r ht h;unfold EO at h;split at h
 . rename_i f i xs
   split at h
   . rename_i hc
     cases h;simp only [Bool.and_eq_true,Bool.or_eq_true] at hc;have hi:=Nat.eq_of_beq_eq_true hc.1;subst hi
     have hf:f=5∨f=6∨f=7:=by
      rcases hc.2 with q|q|q
      . exact .inl (Nat.eq_of_beq_eq_true q)
      . exact .inr (.inl (Nat.eq_of_beq_eq_true q))
      . exact .inr (.inr (Nat.eq_of_beq_eq_true q))
     have e:(Nd.app f 2 xs).val X v=(az f (xs.map (Rf.val v))).getD 2 0:=by simp only [Nd.val];rw [L.sem _ _ (by omega)]
     rw [e];exact (e0G hf _).symm
   . cases h
 . rename_i c x
   split at h
   . rename_i k e hd
     split at h
     . rename_i f xs he
       split at h
       . rename_i g i ys hx
         split at h
         . rename_i hc
           cases h;simp only [Bool.and_eq_true] at hc;obtain ⟨h1,h2,h3,h4⟩:=hc;have hfg:=Nat.eq_of_beq_eq_true h1;subst hfg;have hxy:=kZ h4;subst hxy;have hi:i<2:=by simpa using h2
           have hf:f<=4:=Nat.le_of_ble_eq_true h3;have e1:c.val v=b2i (e.val v != 0):=bK ht hd;have e2:e.val v=(az f (xs.map (Rf.val v))).getD 2 0:=L.at (by omega) (bK ht he)
           have e3:r.val v=(az f (xs.map (Rf.val v))).getD i 0:=L.at (by omega) (bK ht hx)
           show r.val v=if c.val v≠0 then (0:Int) else r.val v
           split
           . rename_i hq
             rw [e1,IJ] at hq;rw [e3];exact RQ hf _ hi (by rw [<-e2];simpa using hq)
           . rfl
         . cases h
       . cases h
     . cases h
   . cases h
 . cases h
