/- The known functions of the symbolic runs: the reference's sine and cosine. -/
import Derived.Test.YtoniodlcogpdbaaGreatZSp
import Derived.Test.YtoniodlcogpdbaaGreatZRefA
import Derived.Test.YtoniodlcogpdbaaGreatZRIn
import Derived.Test.YtoniodlcogpdbaaGreatZSxL
set_option linter.unusedVariables false
set_option linter.unusedSimpArgs false
namespace Go.Proofs.YtoniodlcogpdbaaGreat
open Go.RowKit Alm Sx
theorem Zq (lo hi:Int) (w:World) (h:aQ lo hi=true) :
 Calls Tryz.prog 21 #[.agg #[.int .i64 lo,.int .i64 hi]] w fun e w'=>e=.returned (.agg #[.int .i64 (bC lo hi),.int .i64 (bI lo hi)])/\Below w.heap.size w w':=by
 have hv:=(aJ lo hi).1 h;have C1:=fun w=>Js lo hi w ⟨by omega,by omega,by omega⟩
 replace C1:=Lib.hid C1;clear h;obtain ⟨v1,v2,v3⟩:=hv;generalize bC lo hi=x at *
 generalize bI lo hi=y at *
 have K0:=Lib.hid (((az w).new w.heap.size rfl 26 #[.int .i64 lo,.int .i64 hi]).new (w.heap.size+1) (by simp) 58 #[.int .i64 0,.int .i64 0])
 go_enter Tryz.func21,Tryz.ntmps21;go_wp2_with fail;refine (C1.out _).mono ?_;rintro e w1 ⟨rfl,hb1⟩;have K1:=Lib.hid (K0.out.below hb1);clear hb1 K0;have q0:=K1.out.c (g:=w.heap.size+1) (t:=58) (cs:=#[.int .i64 0,.int .i64 0]) (by simp) (i:=0) rfl
 have q1:=K1.out.c (g:=w.heap.size+1) (t:=58) (cs:=#[.int .i64 0,.int .i64 0]) (by simp) (i:=1) rfl
 have g0:=K1.out.f (g:=w.heap.size+1) (t:=58) (cs:=#[.int .i64 0,.int .i64 0]) (by simp) 0
 have g1:=K1.out.f (g:=w.heap.size+1) (t:=58) (cs:=#[.int .i64 0,.int .i64 0]) (by simp) 1
 go_wp2;refine bodyPost_ret (by simp [results,Tryz.results21,go_sem,q0,q1];try rfl) rfl ⟨rfl,by have:=K1.out.1;go_light;go_grown⟩
def QY:Sx.Spec:=⟨21,5,[(true,[some .i64,some .i64])],[(true,[some .i64,some .i64])]⟩
def OD:Sx.Spec:=⟨20,6,[(true,[some .i64,some .i64])],[(true,[some .i64,some .i64])]⟩
def BA:List Sx.Spec:=[QY,OD]
theorem DT (args:List Int):aR Tryz.prog (cxB args) QY:=by
 refine ⟨ours _ _ _ Tryz.func21 rfl (by kernel_rfl),fun xs hp w=>?_⟩
 obtain ⟨a,b,rfl⟩:=Rj (f:=5) (by simp) hp
 exact Zq a b w hp
theorem FZ (args:List Int):aR Tryz.prog (cxB args) OD:=by
 refine ⟨ours _ _ _ Tryz.func20 rfl (by kernel_rfl),fun xs hp w=>?_⟩
 obtain ⟨a,b,rfl⟩:=Rj (f:=6) (by simp) hp
 exact YU a b w hp
theorem Me (args:List Int):∀ s∈BA,aR Tryz.prog (cxB args) s:=by
 intro s hs;simp only [BA,List.mem_cons,List.not_mem_nil,or_false] at hs;rcases hs with rfl|rfl
 . exact DT args
 . exact FZ args
theorem RL (lo hi:Int):(if (if b2i (decide (lo<=hi))≠0 then (if b2i (decide (lo>=-1099511627776))≠0 then b2i (decide (lo<=1099511627776)) else 0) else 0)≠0 then (if b2i (decide (hi>=-1099511627776))≠0 then b2i (decide (hi<=1099511627776)) else 0) else 0)=b2i (aQ lo hi):=by
 unfold aQ
 by_cases h1:lo<=hi<;>by_cases h2:lo>=-1099511627776<;>by_cases h3:lo<=1099511627776<;>by_cases h4:hi>=-1099511627776<;>by_cases h5:hi<=1099511627776<;>simp [b2i,h1,h2,h3,h4,h5]<;>omega
end Go.Proofs.YtoniodlcogpdbaaGreat
namespace Go.Proofs.YtoniodlcogpdbaaGreat
open Go.RowKit Alm Sx
def Rb:Sx.Spec:=⟨57,7,[(true,[some .i64,some .i64]),(true,[some .i64,some .i64])],[(true,[some .i64,some .i64]),(false,[some .i64])]⟩
theorem LM (args:List Int):aR Tryz.prog (cxB args) Rb:=by
 refine ⟨ours _ _ _ Tryz.func57 rfl (by kernel_rfl),fun xs hp w=>?_⟩
 obtain ⟨a,b,c,d,rfl,h1,h2⟩:=DF (f:=7) (by simp) hp
 exact Iq a b c d w h1 h2
def Bq:List Sx.Spec:=[Rb]
theorem Le (args:List Int):∀ s∈Bq,aR Tryz.prog (cxB args) s:=by
 intro s hs;simp only [Bq,List.mem_cons,List.not_mem_nil,or_false] at hs;rcases hs with rfl
 exact LM args
end Go.Proofs.YtoniodlcogpdbaaGreat
namespace Go.Proofs.YtoniodlcogpdbaaGreat
open Go.RowKit Alm Sx
theorem adg {f:Nat} (hf:f<=4) (xs:List Int) {i:Nat} (hi:i<2) (h:(fZ f xs).getD 2 0≠0):(fZ f xs).getD i 0=0:=by
 have key:∀ L H:Int,(DW L H).getD 2 0≠0->(DW L H).getD i 0=0:=by
  intro L H h;have:=(ic L H).2.1 h;have hi':i=0∨i=1:=by omega
  rcases hi' with rfl|rfl
  . exact this.1
  . exact this.2
 revert h
 unfold fZ;split
 all_goals intro h
 all_goals first
  | exact key _ _ h
  | exact absurd rfl h
  | omega
theorem e0G {f:Nat} (hf:f=5∨f=6∨f=7) (xs:List Int):(fZ f xs).getD 2 0=0:=by
 unfold fZ;split
 all_goals first
  | omega
  | rfl
structure Cq (X:Cx):Prop where
 sem:∀ (f:Nat) (xs:List Int),f<=8->X.sem f xs=fZ f xs
 pre:∀ (f:Nat) (xs:List Int),f<=8∨f=20->preB f xs->X.pre f xs
theorem Cq.at {X:Cx} (L:Cq X) {v:Nat->Int} {r:Rf} {f i:Nat} {xs:List Rf} (hf:f<=8) (h:r.val v=(Nd.app f i xs).val X v):r.val v=(fZ f (xs.map (Rf.val v))).getD i 0:=by
 rw [h];simp only [Nd.val];rw [L.sem _ _ hf]
def Nb (t:Tab):Nd->Option Rf
 | .app f i xs=>if Nat.beq i 2&&(Nat.beq f 5 || (Nat.beq f 6 || Nat.beq f 7)) then some (.c 0) else none
 | .ite c (.c (.ofNat 0)) x=>match DY c t with
  | some (.bin .neq _ e (.c (.ofNat 0)))=>match DY e t with
   | some (.app f 2 xs)=>match DY x t with
    | some (.app g i ys)=>if Nat.beq f g&&(Nat.blt i 2&&(Nat.ble f 4&&yf xs ys)) then some x else none
    | _=>none
   | _=>none
  | _=>none
 | _=>none
theorem vB {X:Cx} (L:Cq X):jG X Nb:=by
 intro v t x r ht h;unfold Nb at h;split at h
 . rename_i f i xs
   split at h
   . rename_i hc
     cases h;simp only [Bool.and_eq_true,Bool.or_eq_true] at hc;have hi:=Nat.eq_of_beq_eq_true hc.1;subst hi
     have hf:f=5∨f=6∨f=7:=by
      rcases hc.2 with q|q|q
      . exact .inl (Nat.eq_of_beq_eq_true q)
      . exact .inr (.inl (Nat.eq_of_beq_eq_true q))
      . exact .inr (.inr (Nat.eq_of_beq_eq_true q))
     have e:(Nd.app f 2 xs).val X v=(fZ f (xs.map (Rf.val v))).getD 2 0:=by simp only [Nd.val];rw [L.sem _ _ (by omega)]
     rw [e];exact (e0G hf _).symm
   . cases h
 . rename_i c x
   split at h
   . rename_i k e hd
     split at h
     . rename_i f xs he
       split at h
       . rename_i g i ys hx
         split at h
         . rename_i hc
           cases h;simp only [Bool.and_eq_true] at hc;obtain ⟨h1,h2,h3,h4⟩:=hc;have hfg:=Nat.eq_of_beq_eq_true h1;subst hfg;have hxy:=wF h4;subst hxy;have hi:i<2:=by simpa using h2
           have hf:f<=4:=Nat.le_of_ble_eq_true h3;have e1:c.val v=b2i (e.val v != 0):=iG ht hd;have e2:e.val v=(fZ f (xs.map (Rf.val v))).getD 2 0:=L.at (by omega) (iG ht he)
           have e3:r.val v=(fZ f (xs.map (Rf.val v))).getD i 0:=L.at (by omega) (iG ht hx)
           show r.val v=if c.val v≠0 then (0:Int) else r.val v
           split
           . rename_i hq
             rw [e1,vN] at hq;rw [e3];exact adg hf _ hi (by rw [<-e2];simpa using hq)
           . rfl
         . cases h
       . cases h
     . cases h
   . cases h
 . cases h
