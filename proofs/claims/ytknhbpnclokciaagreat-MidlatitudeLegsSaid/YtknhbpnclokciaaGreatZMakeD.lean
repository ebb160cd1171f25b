/- What of Make only some laws need. -/
import Derived.Test.YtknhbpnclokciaaGreatZMake
set_option linter.unusedVariables false
set_option linter.unusedSimpArgs false
namespace Alm
def MkI (a b:Nat) (i m r:Nat):Prop:=i<=30/\a*2^i=m*b+r/\r<b
theorem Hu (a b:Nat) (hb:0<b):MkI a b 0 (a/b) (a%b):=⟨by omega,by rw [Nat.pow_zero,Nat.mul_one,Nat.mul_comm];exact (Nat.div_add_mod a b).symm,Nat.mod_lt _ hb⟩
theorem Kr {a b i m r:Nat} (h:MkI a b i m r) (hi:i<30) (hc:b-r<=r):MkI a b (i+1) (2*m+1) (r-(b-r)):=by
 obtain ⟨h1,h2,h3⟩:=h;refine ⟨by omega,?_,by omega⟩
 have:a*2^(i+1)=2*(a*2^i):=by rw [Nat.pow_succ];grind
 rw [this,h2];have e:(2*m+1)*b=2*(m*b)+b:=by grind
 rw [e];omega
theorem QR {a b i m r:Nat} (h:MkI a b i m r) (hi:i<30) (hc:¬ b-r<=r):MkI a b (i+1) (2*m) (2*r):=by
 obtain ⟨h1,h2,h3⟩:=h;refine ⟨by omega,?_,by omega⟩
 have:a*2^(i+1)=2*(a*2^i):=by rw [Nat.pow_succ];grind
 rw [this,h2];have e:(2*m)*b=2*(m*b):=by grind
 rw [e];omega
theorem MP {a b i m r:Nat} (h:MkI a b i m r) (hb:0<b) (hq:a<3*b):m<=3221225472:=by
 obtain ⟨h1,h2,h3⟩:=h;have p:2^i<=2^30:=Nat.pow_le_pow_right (by omega) h1
 have e:(2:Nat)^30=1073741824:=rfl;rw [e] at p;have m1:=Nat.mul_le_mul (Nat.le_of_lt hq) p
 have:m*b<=3221225472*b:=by
  have:3*b*1073741824=3221225472*b:=by grind
  omega
 exact Nat.le_of_mul_le_mul_right this hb
end Alm
namespace Go.Proofs.YtknhbpnclokciaaGreat
open Go.RowKit Alm
theorem O6 {a b m r:Nat} (h:MkI a b 30 m r) (x d:Int) (hb:0<b) (hd:d=b) :
 (x=a->qFl x 1073741824 d=m/\qCe x 1073741824 d=m+(if 0<r then 1 else 0))/\(x=-a->qFl x 1073741824 d=-(m+(if 0<r then 1 else 0))/\qCe x 1073741824 d=-m):=by
 obtain ⟨h1,h2,h3⟩:=h;have e:(2:Nat)^30=1073741824:=rfl;rw [e] at h2
 have h2':(a:Int)*1073741824=(m:Int)*b+r:=by
  have:=congrArg (Nat.cast (R:=Int)) h2
  simpa using this
 subst hd
 have f:((a:Int)*1073741824)/b=m:=by
  rw [h2',Int.add_comm,Int.add_mul_ediv_right _ _ (by omega),Int.ediv_eq_zero_of_lt (by omega) (by omega)];omega
 have g:(-((a:Int)*1073741824))/b=-(m+(if 0<r then 1 else 0)):=by
  rw [h2']
  by_cases q:0<r
  . rw [if_pos q];have:-((m:Int)*b+r)=(b-r:Int)+(-(m+1))*b:=by grind
    rw [this,Int.add_mul_ediv_right _ _ (by omega),Int.ediv_eq_zero_of_lt (by omega) (by omega)];omega
  . rw [if_neg q];have r0:r=0:=by omega
    subst r0;have:-((m:Int)*b+((0:Nat):Int))=0+(-(m:Int))*b:=by grind
    rw [this,Int.add_mul_ediv_right _ _ (by omega)];simp
 constructor
 . intro hx;subst hx;unfold qFl qCe;exact ⟨f,by rw [g];omega⟩
 . intro hx;subst hx;unfold qFl qCe;have e1:-(a:Int)*1073741824=-((a:Int)*1073741824):=by omega
   rw [e1,Int.neg_neg];exact ⟨g,by rw [f]⟩
