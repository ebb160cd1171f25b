/- The known functions of the symbolic runs: the reference's sine and cosine. -/
import Derived.Test.YtmldbeipmappnaaZSp
import Derived.Test.YtmldbeipmappnaaZRefA
import Derived.Test.YtmldbeipmappnaaZSides
import Derived.Test.YtmldbeipmappnaaZSxL
set_option linter.unusedVariables false
set_option linter.unusedSimpArgs false
namespace Go.Proofs.Ytmldbeipmappnaa
open Go.RowKit Alm Sx
def Om:Sx.Spec:=RL
def Od:Sx.Spec:=Rq
def rA:List Sx.Spec:=[Om,Od]
theorem Kk (args:List Int):aL Try.prog (cxB args) Om:=Dx args
theorem Kr (args:List Int):aL Try.prog (cxB args) Od:=Dm args
theorem FT (args:List Int):∀ s∈rA,aL Try.prog (cxB args) s:=by
 intro s hs;simp only [rA,List.mem_cons,List.not_mem_nil,or_false] at hs;rcases hs with rfl|rfl
 . exact Kk args
 . exact Kr args
theorem kr (lo hi:Int):(if (if b2i (decide (lo<=hi))≠0 then (if b2i (decide (lo>=-1099511627776))≠0 then b2i (decide (lo<=1099511627776)) else 0) else 0)≠0 then (if b2i (decide (hi>=-1099511627776))≠0 then b2i (decide (hi<=1099511627776)) else 0) else 0)=b2i (dA lo hi):=by
 unfold dA
 by_cases h1:lo<=hi<;>by_cases h2:lo>=-1099511627776<;>by_cases h3:lo<=1099511627776<;>by_cases h4:hi>=-1099511627776<;>by_cases h5:hi<=1099511627776<;>simp [b2i,h1,h2,h3,h4,h5]<;>omega
end Go.Proofs.Ytmldbeipmappnaa
namespace Go.Proofs.Ytmldbeipmappnaa
open Go.RowKit Alm Sx
def Vq:Sx.Spec:=oL
theorem MH (args:List Int):aL Try.prog (cxB args) Vq:=kN args
def Uv:Sx.Spec:=oL
theorem KN (args:List Int):aL Try.prog (cxB args) Uv:=kN args
def Jh:Sx.Spec:=Jz
theorem Gz (args:List Int):aL Try.prog (cxB args) Jh:=Aw args
def sJ:List Sx.Spec:=[Vq,Uv,Jh]
theorem G7 (args:List Int):∀ s∈sJ,aL Try.prog (cxB args) s:=by
 intro s hs;simp only [sJ,List.mem_cons,List.not_mem_nil,or_false] at hs;rcases hs with rfl|rfl|rfl
 . exact MH args
 . exact KN args
 . exact Gz args
end Go.Proofs.Ytmldbeipmappnaa
namespace Go.Proofs.Ytmldbeipmappnaa
open Go.RowKit Alm Sx
theorem Wp {f:Nat} (hf:f<=4) (xs:List Int) {i:Nat} (hi:i<2) (h:(aB f xs).getD 2 0≠0):(aB f xs).getD i 0=0:=by
 have key:∀ L H:Int,(BU L H).getD 2 0≠0->(BU L H).getD i 0=0:=by
  intro L H h;have:=(Vv L H).2.1 h;have hi':i=0∨i=1:=by omega
  rcases hi' with rfl|rfl
  . exact this.1
  . exact this.2
 revert h
 unfold aB;split
 all_goals intro h
 all_goals first
  | exact key _ _ h
  | exact absurd rfl h
  | omega
theorem e0G {f:Nat} (hf:f=5∨f=6∨f=7) (xs:List Int):(aB f xs).getD 2 0=0:=by
 unfold aB;split
 all_goals first
  | omega
  | rfl
structure xR (X:Cx):Prop where
 sem:∀ (f:Nat) (xs:List Int),f<=8->X.sem f xs=aB f xs
 pre:∀ (f:Nat) (xs:List Int),f<=8∨f=20->preB f xs->X.pre f xs
theorem xR.at {X:Cx} (L:xR X) {v:Nat->Int} {r:Rf} {f i:Nat} {xs:List Rf} (hf:f<=8) (h:r.val v=(Nd.app f i xs).val X v):r.val v=(aB f (xs.map (Rf.val v))).getD i 0:=by
 rw [h];simp only [Nd.val];rw [L.sem _ _ hf]
def IZ (t:Tab):Nd->Option Rf
 | .app f i xs=>if Nat.beq i 2&&(Nat.beq f 5 || (Nat.beq f 6 || Nat.beq f 7)) then some (.c 0) else none
 | .ite c (.c (.ofNat 0)) x=>match zo c t with
  | some (.bin .neq _ e (.c (.ofNat 0)))=>match zo e t with
   | some (.app f 2 xs)=>match zo x t with
    | some (.app g i ys)=>if Nat.beq f g&&(Nat.blt i 2&&(Nat.ble f 4&&tO xs ys)) then some x else none
    | _=>none
   | _=>none
  | _=>none
 | _=>none
theorem yf {X:Cx} (L:xR X):jJ X IZ:=by
 intro v t x r ht h;unfold IZ at h;split at h
 . rename_i f i xs
   split at h
   . rename_i hc
     cases h;simp only [Bool.and_eq_true,Bool.or_eq_true] at hc;have hi:=Nat.eq_of_beq_eq_true hc.1;subst hi
     have hf:f=5∨f=6∨f=7:=by
      rcases hc.2 with q|q|q
      . exact .inl (Nat.eq_of_beq_eq_true q)
      . exact .inr (.inl (Nat.eq_of_beq_eq_true q))
      . exact .inr (.inr (Nat.eq_of_beq_eq_true q))
     have e:(Nd.app f 2 xs).val X v=(aB f (xs.map (Rf.val v))).getD 2 0:=by simp only [Nd.val];rw [L.sem _ _ (by omega)]
     rw [e];exact (e0G hf _).symm
   . cases h
 . rename_i c x
   split at h
   . rename_i k e hd
     split at h
     . rename_i f xs he
       split at h
       . rename_i g i ys hx
         split at h
         . rename_i hc
           cases h;simp only [Bool.and_eq_true] at hc;obtain ⟨h1,h2,h3,h4⟩:=hc;have hfg:=Nat.eq_of_beq_eq_true h1;subst hfg;have hxy:=sK h4;subst hxy;have hi:i<2:=by simpa using h2
           have hf:f<=4:=Nat.le_of_ble_eq_true h3;have e1:c.val v=b2i (e.val v != 0):=gy ht hd;have e2:e.val v=(aB f (xs.map (Rf.val v))).getD 2 0:=L.at (by omega) (gy ht he)
           have e3:r.val v=(aB f (xs.map (Rf.val v))).getD i 0:=L.at (by omega) (gy ht hx)
           show r.val v=if c.val v≠0 then (0:Int) else r.val v
           split
           . rename_i hq
             rw [e1,Cz] at hq;rw [e3];exact Wp hf _ hi (by rw [<-e2];simpa using hq)
           . rfl
         . cases h
       . cases h
     . cases h
   . cases h
 . cases h
