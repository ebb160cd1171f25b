/- The known functions of the symbolic runs: the reference's sine and cosine. -/
import Derived.Test.YtgmncdmcdgkodaaGreatZSp
import Derived.Test.YtgmncdmcdgkodaaGreatZRefA
import Derived.Test.YtgmncdmcdgkodaaGreatZSides
import Derived.Test.YtgmncdmcdgkodaaGreatZSxL
import Derived.Test.YtgmncdmcdgkodaaGreatZRef1
import Derived.Test.YtgmncdmcdgkodaaGreatZMake
import Derived.Deep.Light
set_option linter.unusedVariables false
set_option linter.unusedSimpArgs false
namespace Go.Proofs.YtgmncdmcdgkodaaGreat
open Go.RowKit Alm Sx
end Go.Proofs.YtgmncdmcdgkodaaGreat
namespace Go.Proofs.YtgmncdmcdgkodaaGreat
open Go.RowKit Alm Sx
end Go.Proofs.YtgmncdmcdgkodaaGreat
namespace Go.Proofs.YtgmncdmcdgkodaaGreat
open Go.RowKit Alm Sx
theorem IP {f:Nat} (hf:f<=4) (xs:List Int) {i:Nat} (hi:i<2) (h:(lF f xs).getD 2 0≠0):(lF f xs).getD i 0=0:=by
 have key:∀ L H:Int,(vG L H).getD 2 0≠0->(vG L H).getD i 0=0:=by
  intro L H h;have:=(G6 L H).2.1 h;have hi':i=0∨i=1:=by omega
  rcases hi' with rfl|rfl
  . exact this.1
  . exact this.2
 revert h
 unfold lF;split
 all_goals intro h
 all_goals first
  | exact key _ _ h
  | exact absurd rfl h
  | omega
theorem e0G {f:Nat} (hf:f=5∨f=6∨f=7) (xs:List Int):(lF f xs).getD 2 0=0:=by
 unfold lF;split
 all_goals first
  | omega
  | rfl
structure Dr (X:Cx):Prop where
 sem:∀ (f:Nat) (xs:List Int),f<=8->X.sem f xs=lF f xs
 pre:∀ (f:Nat) (xs:List Int),f<=8∨f=20->preB f xs->X.pre f xs
theorem Dr.at {X:Cx} (L:Dr X) {v:Nat->Int} {r:Rf} {f i:Nat} {xs:List Rf} (hf:f<=8) (h:r.val v=(Nd.app f i xs).val X v):r.val v=(lF f (xs.map (Rf.val v))).getD i 0:=by
 rw [h];simp only [Nd.val];rw [L.sem _ _ hf]
def Gf (t:Tab):Nd->Option Rf
 | .app f i xs=>if Nat.beq i 2&&(Nat.beq f 5 || (Nat.beq f 6 || Nat.beq f 7)) then some (.c 0) else none
 | .ite c (.c (.ofNat 0)) x=>match uV c t with
  | some (.bin .neq _ e (.c (.ofNat 0)))=>match uV e t with
   | some (.app f 2 xs)=>match uV x t with
    | some (.app g i ys)=>if Nat.beq f g&&(Nat.blt i 2&&(Nat.ble f 4&&nX xs ys)) then some x else none
    | _=>none
   | _=>none
  | _=>none
 | _=>none
theorem Cw {X:Cx} (L:Dr X):jb X Gf:=by
 intro v t x r ht h;unfold Gf at h;split at h
 . rename_i f i xs
   split at h
   . rename_i hc
     cases h;simp only [Bool.and_eq_true,Bool.or_eq_true] at hc;have hi:=Nat.eq_of_beq_eq_true hc.1;subst hi
     have hf:f=5∨f=6∨f=7:=by
      rcases hc.2 with q|q|q
      . exact .inl (Nat.eq_of_beq_eq_true q)
      . exact .inr (.inl (Nat.eq_of_beq_eq_true q))
      . exact .inr (.inr (Nat.eq_of_beq_eq_true q))
     have e:(Nd.app f 2 xs).val X v=(lF f (xs.map (Rf.val v))).getD 2 0:=by simp only [Nd.val];rw [L.sem _ _ (by omega)]
     rw [e];exact (e0G hf _).symm
   . cases h
 . rename_i c x
   split at h
   . rename_i k e hd
     split at h
     . rename_i f xs he
       split at h
       . rename_i g i ys hx
         split at h
         . rename_i hc
           cases h;simp only [Bool.and_eq_true] at hc;obtain ⟨h1,h2,h3,h4⟩:=hc;have hfg:=Nat.eq_of_beq_eq_true h1;subst hfg;have hxy:=oV h4;subst hxy;have hi:i<2:=by simpa using h2
           have hf:f<=4:=Nat.le_of_ble_eq_true h3;have e1:c.val v=b2i (e.val v != 0):=eG ht hd;have e2:e.val v=(lF f (xs.map (Rf.val v))).getD 2 0:=L.at (by omega) (eG ht he)
           have e3:r.val v=(lF f (xs.map (Rf.val v))).getD i 0:=L.at (by omega) (eG ht hx)
           show r.val v=if c.val v≠0 then (0:Int) else r.val v
           split
           . rename_i hq
             rw [e1,DJ] at hq;rw [e3];exact IP hf _ hi (by rw [<-e2];simpa using hq)
           . rfl
         . cases h
       . cases h
     . cases h
   . cases h
 . cases h
end Go.Proofs.YtgmncdmcdgkodaaGreat
namespace Alm
end Alm
namespace Go.Proofs.YtgmncdmcdgkodaaGreat
open Go.RowKit Alm Sx
def Gl:Nat->List Int->List Int
 | 9,[a,b,n]=>[je a b n,ji a b n,0]
 | 10,[n]=>[rtV n]
 | 11,[x,d]=>vG (qFl x 1073741824 d) (qCe x 1073741824 d)
 | 36,[a,b]=>[if Gb a b=0 then I1 a else 0,if Gb a b=0 then IY b else 0,Gb a b]
 | f,xs=>lF f xs
def uq:Nat->List Int->Prop
 | 9,[a,b,n]=>fxV a b=true/\ay n=true
 | 10,[n]=>0<=n/\n<4398046511104
 | 11,[x,d]=>MkP x d
 | 36,[a,b]=>fxV a b=true
 | f,xs=>preB f xs
def cxE (args:List Int):Cx:=⟨Gl,uq,args⟩
theorem tQ {f:Nat} (h:f≠9/\f≠10/\f≠11/\f≠36) (xs:List Int):Gl f xs=lF f xs:=by
 unfold Gl;split
 . exact absurd rfl h.1
 . exact absurd rfl h.2.1
 . exact absurd rfl h.2.2.1
 . exact absurd rfl h.2.2.2
 . rfl
theorem ve {f:Nat} (h:f≠9/\f≠10/\f≠11/\f≠36) (xs:List Int):uq f xs=preB f xs:=by
 unfold uq;split
 . exact absurd rfl h.1
 . exact absurd rfl h.2.1
 . exact absurd rfl h.2.2.1
 . exact absurd rfl h.2.2.2
 . rfl
def Ak:Nat->List Int->Bool
 | 0,[a,b,c,d]=>fxV a b&&fxV c d
 | 1,[a,b,c,d]=>fxV a b&&fxV c d
 | 2,[a,b,c,d]=>fxV a b&&fxV c d
 | 7,[a,b,c,d]=>fxV a b&&fxV c d
 | 3,[a,b]=>fxV a b
 | 4,[a,b]=>fxV a b&&decide (0<=b)
 | 5,[a,b]=>aC a b
 | 6,[a,b]=>aC a b
 | 8,[_,_]=>true
 | 9,[a,b,n]=>fxV a b&&ay n
 | 10,[n]=>decide (0<=n/\n<4398046511104)
 | 11,[x,d]=>decide ((0<d/\d<=1099511627776)/\(-1099511627776<=x/\x<=1099511627776)/\((-4294967296<=x/\x<=4294967296)∨(-d<=x/\x<=d)))
 | 36,[a,b]=>fxV a b
 | 20,[]=>true
 | _,_=>false
theorem Cg (f:Nat) (xs:List Int) (h:Ak f xs=true):uq f xs:=by
 unfold Ak at h;split at h
 all_goals first
  | (simp only [Bool.and_eq_true] at h;exact h)
  | (simp only [Bool.and_eq_true] at h;exact ⟨h.1,of_decide_eq_true h.2⟩)
  | (have h2:=of_decide_eq_true h;exact h2)
  | exact h
  | trivial
  | cases h
theorem IE (args:List Int):Dr (cxE args):=⟨fun f xs h=>tQ (by omega) xs,fun f xs h hp=>by
 show uq f xs;rw [ve (by omega)];exact hp⟩
theorem Fa {args:List Int} {s:Sx.Spec} (h:s.id≠9/\s.id≠10/\s.id≠11/\s.id≠36) (H:bD Tryz.prog (cxB args) s):bD Tryz.prog (cxE args) s:=by
 obtain ⟨a,b⟩:=H;refine ⟨a,fun xs hp w=>?_⟩
 have hp':preB s.id xs:=by
  have:uq s.id xs:=hp
  rwa [ve h] at this
 have:=b xs hp' w;rw [show (cxE args).sem s.id xs=(cxB args).sem s.id xs from tQ h xs]
 exact this
theorem H9 {xs:List Int} (hp:uq 9 xs):∃ a b n,xs=[a,b,n]/\fxV a b=true/\ay n=true:=by
 match xs,hp with
 | [a,b,n],hp=>exact ⟨a,b,n,rfl,hp⟩
def Bo:Sx.Spec:=⟨79,9,[(true,[some .i64,some .i64]),(false,[some .i64])],[(false,[some .i64]),(false,[some .i64]),(false,[some .i64])]⟩
theorem zH (args:List Int):bD Tryz.prog (cxE args) Bo:=by
 refine ⟨ours _ _ _ Tryz.func79 rfl (by kernel_rfl),fun xs hp w=>?_⟩
 obtain ⟨a,b,n,rfl,h1,h2⟩:=H9 hp;exact xA a b n w h1 h2
def IC (t:Tab):Nd->Option Rf
 | .app 9 2 [_,_,_]=>some (.c 0)
 | x=>Gf t x
theorem bM (args:List Int):jb (cxE args) IC:=by
 intro v t x r ht h;unfold IC at h;split at h
 . cases h;rfl
 . exact Cw (IE args) v t x r ht h
