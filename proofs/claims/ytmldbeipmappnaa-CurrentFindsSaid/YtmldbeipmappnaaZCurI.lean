/- A part of a motion and of a current has its motion made good within that of the whole. -/
import Derived.Test.YtmldbeipmappnaaZCur3
import Derived.Test.YtmldbeipmappnaaZInc
set_option linter.unusedVariables false
set_option linter.unusedSimpArgs false
namespace Go.Proofs.Ytmldbeipmappnaa
open Alm Sx
theorem uK {p q p' q' l h n:Int} (h1:p<=p'/\p'<=q'/\q'<=q) (h0:0<=l) (h2:l<=n/\n<=h) :
 mnV (dM p q l) (dM p q h)<=dM p' q' n/\dI p' q' n<=mxV (dI p q l) (dI p q h):=by
 have a1:=Gq (a:=l) (b:=h) (x:=n) (y:=p) h2.1 h2.2;have a2:=Gq (a:=l) (b:=h) (x:=n) (y:=q) h2.1 h2.2;have m:∀ {x y k:Int},x<=y->0<=k->x*k<=y*k:=fun h k=>Int.mul_le_mul_of_nonneg_right h k
 have b1:=m h1.1 (show 0<=n by omega)
 have b2:=m h1.2.1 (show 0<=n by omega)
 have b3:=m h1.2.2 (show 0<=n by omega)
 have pq:p<=q:=by omega
 have c1:=m pq h0;have c2:=m pq (show 0<=h by omega)
 rw [Int.mul_comm l p,Int.mul_comm h p,Int.mul_comm n p] at a1;rw [Int.mul_comm l q,Int.mul_comm h q,Int.mul_comm n q] at a2;unfold dM dI mnV mxV qFl qCe;generalize p*l=x1 at *
 generalize p*h=x2 at *
 generalize p*n=x3 at *
 generalize q*l=x4 at *
 generalize q*h=x5 at *
 generalize q*n=x6 at *
 generalize p'*n=x7 at *
 generalize q'*n=x8 at *
 constructor
 . split<;>omega
 . split<;>omega
theorem GY {x y z w:Int} (h1:w<=x) (h2:w<=y):w<=mnV x y:=by unfold mnV;split<;>omega
theorem Iq {x y w:Int} (h1:x<=w) (h2:y<=w):mxV x y<=w:=by unfold mxV;split<;>omega
theorem Tw {a b l h a' b' l' h':Int} (h1:a<=a'/\a'<=b'/\b'<=b) (h0:0<=l) (h2:l<=l'/\l'<=h'/\h'<=h) :
 ((paV a b l h).getD 0 0<=(paV a' b' l' h').getD 0 0/\(paV a' b' l' h').getD 1 0<=(paV a b l h).getD 1 0)/\((paV a b l h).getD 2 0<=(paV a' b' l' h').getD 2 0/\(paV a' b' l' h').getD 3 0<=(paV a b l h).getD 3 0):=by
 have c:=ae6 h1;have s:=acj h1;unfold Pt uC at c;unfold Pt uS at s;simp only at c s;have c1:=uK c h0 (h:=h) (n:=l') ⟨h2.1,by omega⟩
 have c2:=uK c h0 (h:=h) (n:=h') ⟨by omega,h2.2.2⟩
 have s1:=uK s h0 (h:=h) (n:=l') ⟨h2.1,by omega⟩
 have s2:=uK s h0 (h:=h) (n:=h') ⟨by omega,h2.2.2⟩
 have e:∀ a b l h:Int,(paV a b l h).getD 0 0=mnV (dM (bU (a+5400000) (b+5400000)) (bW (a+5400000) (b+5400000)) l) (dM (bU (a+5400000) (b+5400000)) (bW (a+5400000) (b+5400000)) h)/\(paV a b l h).getD 1 0=mxV (dI (bU (a+5400000) (b+5400000)) (bW (a+5400000) (b+5400000)) l) (dI (bU (a+5400000) (b+5400000)) (bW (a+5400000) (b+5400000)) h)/\(paV a b l h).getD 2 0=mnV (dM (bU a b) (bW a b) l) (dM (bU a b) (bW a b) h)/\(paV a b l h).getD 3 0=mxV (dI (bU a b) (bW a b) l) (dI (bU a b) (bW a b) h):=fun a b l h=>⟨rfl,rfl,rfl,rfl⟩
 rw [(e a b l h).1,(e a b l h).2.1,(e a b l h).2.2.1,(e a b l h).2.2.2,(e a' b' l' h').1,(e a' b' l' h').2.1,(e a' b' l' h').2.2.1,(e a' b' l' h').2.2.2];exact ⟨⟨GY (z:=0) c1.1 c2.1,Iq c1.2 c2.2⟩,⟨GY (z:=0) s1.1 s2.1,Iq s1.2 s2.2⟩⟩
theorem Ma (n:Int) (h0:0<=n) (h1:n<=2305843009213693952):0<=rtU n/\n<=rtU n*rtU n/\(0<rtU n->(rtU n-1)*(rtU n-1)<n):=by
 obtain ⟨a0,a1,a2⟩:=su n h0 h1;unfold rtU
 by_cases h:rtV n*rtV n<n
 . rw [if_pos h];refine ⟨by omega,by omega,fun _=>?_⟩
   rw [show rtV n+1-1=rtV n by omega];exact h
 . rw [if_neg h];refine ⟨a0,by omega,fun p=>?_⟩
   have:(rtV n-1)*(rtV n-1)=rtV n*rtV n-2*rtV n+1:=by grind
   omega
theorem TW {s:List Int} (h:0<=s.getD 2 0/\s.getD 2 0<=s.getD 3 0/\s.getD 3 0<=200000):(jnV s).getD 0 0=s.getD 0 0/\(jnV s).getD 1 0=s.getD 1 0/\(jnV s).getD 2 0=s.getD 2 0/\(jnV s).getD 3 0=s.getD 3 0/\(jnV s).getD 4 0=0:=by
 unfold jnV;rw [if_pos h];exact AO _ _ _ _ _
