/- The sine grows by more than all errors: the arcsine of an interval that holds a sine holds its angle. -/
import Derived.Test.YtmldbeipmappnaaZUAdd
import Derived.Test.YtmldbeipmappnaaZSides
import Derived.Test.YtmldbeipmappnaaZSgn
set_option linter.unusedVariables false
set_option linter.unusedSimpArgs false
namespace Go.Proofs.Ytmldbeipmappnaa
open Alm Sx
theorem aaT (n:Nat) (h:n<=2700000):zc (n+1)+19/1000000000000000<=zc n:=by
 rw [dW];have a:=eG n h;have b:=Alm.zs_pos n h;have c:=rF;have s':=kV;have e1:0<=(zc n-49/100)*(1-c1-4/100000000000000):=Rat.mul_nonneg (by grind) (by grind)
 have e2:0<=zs n*s1:=Rat.mul_nonneg (by grind) (by grind)
 grind
theorem Lr (n:Nat) (hn:n+1=2700000):zs (n+1)+19/1000000000000000<=zc n:=by
 have f1:FlR (zs (n+1)) 759250124:=by rw [hn];exact EO
 have f2:FlR (zc (n+1)) 759250124:=by rw [hn];exact Ao
 unfold FlR at f1 f2;rw [dY] at f1 f2;have m:=Fq;have e:=dW n;have e':=ed n;have b:=mZ n (by omega)
 have a:=eG n (by omega)
 have b2:=jl n;have a2:=ll n;have c:=rF;have s:=kV;have s2:=uV;clear hn;generalize zs (n+1)=x' at *
 generalize zc (n+1)=y' at *
 generalize zs n=x at *
 generalize zc n=y at *
 have e1:0<=(1-y)*s1:=Rat.mul_nonneg (by grind) (by grind)
 have e2:0<=(x+1/1000000000)*(1-c1):=Rat.mul_nonneg (by grind) (by grind)
 have k:69/100<=x:=by grind
 have e3:0<=(x-69/100)*(s1-29/100000000):=Rat.mul_nonneg (by grind) (by grind)
 have e4:0<=(y-49/100)*(1-c1):=Rat.mul_nonneg (by grind) (by grind)
 grind
theorem YK (n:Nat) (h:n<5400000):sS n+19/1000000000000000<=sS (n+1):=by
 unfold sS
 by_cases h1:n=1800000
 . have a:=Gh n h1;have b:=zs_up n (by omega)
   rw [if_pos h1,if_neg (by omega),if_pos (by omega)]
   clear h1 h;grind
 . rw [if_neg h1]
   by_cases h2:n+1=1800000
   . have a:=Gh (n+1) h2;have b:=zs_up n (by omega)
     rw [if_pos h2,if_pos (by omega)]
     clear h1 h h2;grind
   . rw [if_neg h2]
     by_cases h3:2*(n+1)<=5400000
     . rw [if_pos h3,if_pos (by omega)]
       have b:=zs_up n (by omega)
       clear h1 h h2 h3;grind
     . rw [if_neg h3]
       by_cases h4:2*n<=5400000
       . rw [if_pos h4];have:=Lr (5400000-(n+1)) (by omega)
         rw [show 5400000-(n+1)+1=n by omega] at this
         exact this
       . rw [if_neg h4];have:=aaT (5400000-(n+1)) (by omega)
         rw [show 5400000-(n+1)+1=5400000-n by omega] at this
         exact this
theorem E9 (m n:Nat) (h:m<n) (h1:n<=5400000):sS m+19/1000000000000000<=sS n:=by
 have a:=YK m (by omega)
 by_cases e:m+1=n
 . rw [<-e];exact a
 . have:=kQ (m+1) n (by omega) h1
   clear h h1 e;grind
theorem Mo (m n:Int) (h0:-5400000<=m) (h:m<n) (h1:n<=5400000):sR m+19/1000000000000000<=sR n:=by
 unfold sR
 by_cases hm:0<=m
 . rw [if_pos hm,if_pos (by omega)]
   exact E9 _ _ (by omega) (by omega)
 . rw [if_neg hm];have a:=E9 0 (-m).toNat (by omega) (by omega)
   rw [kS] at a
   by_cases hn:0<=n
   . rw [if_pos hn]
     have b:0<=sS n.toNat:=by
      by_cases z:n.toNat=0
      . rw [z,kS];exact Rat.le_refl
      . have:=kQ 0 n.toNat (by omega) (by omega)
        rw [kS] at this;exact Rat.le_of_lt this
     clear h0 h h1 hm hn;grind
   . rw [if_neg hn];have:=E9 (-n).toNat (-m).toNat (by omega) (by omega)
     clear h0 h h1 hm hn;grind
theorem IR (n:Int) (h0:-5400000<=n) (h1:n<=5400000):Nr (sg n) (sR n) ee:=by
 unfold sg sR Nr
 by_cases h:0<=n
 . obtain ⟨a,b⟩:=jR n h h1;rw [a,b,if_pos h,if_neg (by simp)]
   have:=Ih n.toNat (by omega)
   exact this
 . obtain ⟨a,b⟩:=mH n h0 (by omega)
   rw [a,b,if_neg h,if_pos rfl];have:=Ih (-n).toNat (by omega)
   clear h h0 h1 a b;generalize tS (-n).toNat=x at *
   generalize sS (-n).toNat=y at *
   constructor<;>grind
theorem aeU:10000*ee+2*ee<=19/1000000000000000:=by unfold ee;decide +kernel
theorem Ze (m n:Int) (h0:-5400000<=m) (h:m<n) (h1:n<=5400000):sg m+10000*ee<=sg n:=by
 have a:=IR m h0 (by omega)
 have b:=IR n (by omega) h1
 have c:=Mo m n h0 h h1;have e:=aeU;unfold Nr at a b;clear h h0 h1;grind
theorem Sb:bLo (-5400000)=-1073741824:=by decide +kernel
theorem pR {m n:Int} (h:m%21600000=n%21600000):sg m=sg n/\cg m=cg n:=by
 have a:av m=av n:=h;have b:av (m+5400000)=av (n+5400000):=by unfold av;omega
 unfold sg cg bv aI;rw [a,b];exact ⟨rfl,rfl⟩
theorem wh (n:Int):Nr (cg (n-5400000)) (sg n) ee:=by
 have f:=fH (n-5400000);rw [show n-5400000+5400000=n by omega] at f
 have b:=gQ n;have b2:=gQ (n-5400000);have t:=Uz (aI (n-5400000)).toNat (by omega)
 rw [show 5400000-(aI (n-5400000)).toNat=(aI n).toNat by omega] at t
 unfold cg sg Nr;rw [show n-5400000+5400000=n by omega]
 clear f b b2;generalize tC (aI (n-5400000)).toNat=x at *
 generalize tS (aI n).toNat=y at *
 split<;>constructor<;>grind
theorem uL:tS 0=0:=by unfold tS;rw [if_pos (by omega)];exact fD
theorem jd (n:Int):sg (n+10800000)=-sg n:=by
 have f1:=fH n;have f2:=fH (n+5400000);rw [show n+5400000+5400000=n+10800000 by omega] at f2
 have f:aI (n+10800000)=aI n:=by omega
 have b:=gQ n;unfold sg;rw [f]
 by_cases z:aI n=0
 . rw [z,show (0:Int).toNat=0 from rfl,uL]
   split<;>split<;>grind
 . have:bv (n+10800000)=!bv n:=by
    unfold aI at z;unfold bv;have w:av (n+10800000)=if av n<10800000 then av n+10800000 else av n-10800000:=by unfold av;split<;>omega
    have wb:0<=av n/\av n<21600000:=by unfold av;omega
    rw [w];simp only [] at z;rw [Bool.eq_iff_iff];simp only [decide_eq_true_eq,Bool.not_eq_true',decide_eq_false_iff_not]
    repeat' split at z
    all_goals split<;>omega
   rw [this];cases bv n<;>simp<;>grind
theorem gq (n:Int):Nr (sg (n+5400000)) (cg n) ee/\Nr (cg (n+5400000)) (-sg n) ee:=by
 have a:=wh (n+5400000);rw [show n+5400000-5400000=n by omega] at a
 have b:=wh (n+10800000);rw [show n+10800000-5400000=n+5400000 by omega,jd] at b
 exact ⟨a.symm,b⟩
theorem nO (a b:Int):Nr (sg (b-a)) (sg b*cg a-cg b*sg a) (80*ee):=by
 have e:=bz;have s:=(wh (b-a)).symm;have c:=ik (a+5400000) b;rw [show b-(a+5400000)=b-a-5400000 by omega] at c
 obtain ⟨q1,q2⟩:=gq a;have m1:=Nr.mul (Nr.refl (cg b)) q2 (g1 b).1 (by have:=(g1 a).2;unfold O1 at *;constructor<;>grind) (by grind) (by grind)
 have m2:=Nr.mul (Nr.refl (sg b)) q1 (g1 b).2 (g1 a).1 (by grind) (by grind)
 have x:=(s.trans c).trans (m1.add m2);have y:cg b*-sg a+sg b*cg a=sg b*cg a-cg b*sg a:=by grind
 rw [y] at x;exact x.le (by grind)
