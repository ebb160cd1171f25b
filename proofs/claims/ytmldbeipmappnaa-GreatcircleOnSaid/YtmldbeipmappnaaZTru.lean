/- The sine grows by more than all errors: the arcsine of an interval that holds a sine holds its angle. -/
import Derived.Test.YtmldbeipmappnaaZUAdd
import Derived.Test.YtmldbeipmappnaaZSides
import Derived.Test.YtmldbeipmappnaaZSgn
set_option linter.unusedVariables false
set_option linter.unusedSimpArgs false
namespace Go.Proofs.Ytmldbeipmappnaa
open Alm Sx
theorem PE (n:Nat) (h:n<=2700000):zc (n+1)+19/1000000000000000<=zc n:=by
 rw [cZ];have a:=dx n h;have b:=Alm.zs_pos n h;have c:=oH;have s':=s1_low;have e1:0<=(zc n-49/100)*(1-c1-4/100000000000000):=Rat.mul_nonneg (by grind) (by grind)
 have e2:0<=zs n*s1:=Rat.mul_nonneg (by grind) (by grind)
 grind
theorem Ip (n:Nat) (hn:n+1=2700000):zs (n+1)+19/1000000000000000<=zc n:=by
 have f1:FlR (zs (n+1)) 759250124:=by rw [hn];exact Br
 have f2:FlR (zc (n+1)) 759250124:=by rw [hn];exact yB
 unfold FlR at f1 f2;rw [dB] at f1 f2;have m:=BF;have e:=cZ n;have e':=di n;have b:=kD n (by omega)
 have a:=dx n (by omega)
 have b2:=ik n;have a2:=jB n;have c:=oH;have s:=s1_low;have s2:=qM;clear hn;generalize zs (n+1)=x' at *
 generalize zc (n+1)=y' at *
 generalize zs n=x at *
 generalize zc n=y at *
 have e1:0<=(1-y)*s1:=Rat.mul_nonneg (by grind) (by grind)
 have e2:0<=(x+1/1000000000)*(1-c1):=Rat.mul_nonneg (by grind) (by grind)
 have k:69/100<=x:=by grind
 have e3:0<=(x-69/100)*(s1-29/100000000):=Rat.mul_nonneg (by grind) (by grind)
 have e4:0<=(y-49/100)*(1-c1):=Rat.mul_nonneg (by grind) (by grind)
 grind
theorem Q9 (n:Nat) (h:n<5400000):sS n+19/1000000000000000<=sS (n+1):=by
 unfold sS
 by_cases h1:n=1800000
 . have a:=Ev n h1;have b:=zs_up n (by omega)
   rw [if_pos h1,if_neg (by omega),if_pos (by omega)]
   clear h1 h;grind
 . rw [if_neg h1]
   by_cases h2:n+1=1800000
   . have a:=Ev (n+1) h2;have b:=zs_up n (by omega)
     rw [if_pos h2,if_pos (by omega)]
     clear h1 h h2;grind
   . rw [if_neg h2]
     by_cases h3:2*(n+1)<=5400000
     . rw [if_pos h3,if_pos (by omega)]
       have b:=zs_up n (by omega)
       clear h1 h h2 h3;grind
     . rw [if_neg h3]
       by_cases h4:2*n<=5400000
       . rw [if_pos h4];have:=Ip (5400000-(n+1)) (by omega)
         rw [show 5400000-(n+1)+1=n by omega] at this
         exact this
       . rw [if_neg h4];have:=PE (5400000-(n+1)) (by omega)
         rw [show 5400000-(n+1)+1=5400000-n by omega] at this
         exact this
theorem BS (m n:Nat) (h:m<n) (h1:n<=5400000):sS m+19/1000000000000000<=sS n:=by
 have a:=Q9 m (by omega)
 by_cases e:m+1=n
 . rw [<-e];exact a
 . have:=jl (m+1) n (by omega) h1
   clear h h1 e;grind
theorem J8 (m n:Int) (h0:-5400000<=m) (h:m<n) (h1:n<=5400000):sR m+19/1000000000000000<=sR n:=by
 unfold sR
 by_cases hm:0<=m
 . rw [if_pos hm,if_pos (by omega)]
   exact BS _ _ (by omega) (by omega)
 . rw [if_neg hm];have a:=BS 0 (-m).toNat (by omega) (by omega)
   rw [jd] at a
   by_cases hn:0<=n
   . rw [if_pos hn]
     have b:0<=sS n.toNat:=by
      by_cases z:n.toNat=0
      . rw [z,jd];exact Rat.le_refl
      . have:=jl 0 n.toNat (by omega) (by omega)
        rw [jd] at this;exact Rat.le_of_lt this
     clear h0 h h1 hm hn;grind
   . rw [if_neg hn];have:=BS (-n).toNat (-m).toNat (by omega) (by omega)
     clear h0 h h1 hm hn;grind
theorem Ei (n:Int) (h0:-5400000<=n) (h1:n<=5400000):Nr (sg n) (sR n) ee:=by
 unfold sg sR Nr
 by_cases h:0<=n
 . obtain ⟨a,b⟩:=fM n h h1;rw [a,b,if_pos h,if_neg (by simp)]
   have:=CK n.toNat (by omega)
   exact this
 . obtain ⟨a,b⟩:=gZ n h0 (by omega)
   rw [a,b,if_neg h,if_pos rfl];have:=CK (-n).toNat (by omega)
   clear h h0 h1 a b;generalize tS (-n).toNat=x at *
   generalize sS (-n).toNat=y at *
   constructor<;>grind
theorem Wo:10000*ee+2*ee<=19/1000000000000000:=by unfold ee;decide +kernel
theorem Rh (m n:Int) (h0:-5400000<=m) (h:m<n) (h1:n<=5400000):sg m+10000*ee<=sg n:=by
 have a:=Ei m h0 (by omega)
 have b:=Ei n (by omega) h1
 have c:=J8 m n h0 h h1;have e:=Wo;unfold Nr at a b;clear h h0 h1;grind
theorem Nn:bLo (-5400000)=-1073741824:=by decide +kernel
theorem ni {m n:Int} (h:m%21600000=n%21600000):sg m=sg n/\cg m=cg n:=by
 have a:ak m=ak n:=h;have b:ak (m+5400000)=ak (n+5400000):=by unfold ak;omega
 unfold sg cg aR aD;rw [a,b];exact ⟨rfl,rfl⟩
theorem rY (n:Int):Nr (cg (n-5400000)) (sg n) ee:=by
 have f:=dP (n-5400000);rw [show n-5400000+5400000=n by omega] at f
 have b:=fB n;have b2:=fB (n-5400000);have t:=Ow (aD (n-5400000)).toNat (by omega)
 rw [show 5400000-(aD (n-5400000)).toNat=(aD n).toNat by omega] at t
 unfold cg sg Nr;rw [show n-5400000+5400000=n by omega]
 clear f b b2;generalize tC (aD (n-5400000)).toNat=x at *
 generalize tS (aD n).toNat=y at *
 split<;>constructor<;>grind
theorem xI:tS 0=0:=by unfold tS;rw [if_pos (by omega)];exact dK
theorem iq (n:Int):sg (n+10800000)=-sg n:=by
 have f1:=dP n;have f2:=dP (n+5400000);rw [show n+5400000+5400000=n+10800000 by omega] at f2
 have f:aD (n+10800000)=aD n:=by omega
 have b:=fB n;unfold sg;rw [f]
 by_cases z:aD n=0
 . rw [z,show (0:Int).toNat=0 from rfl,xI]
   split<;>split<;>grind
 . have:aR (n+10800000)=!aR n:=by
    unfold aD at z;unfold aR;have w:ak (n+10800000)=if ak n<10800000 then ak n+10800000 else ak n-10800000:=by unfold ak;split<;>omega
    have wb:0<=ak n/\ak n<21600000:=by unfold ak;omega
    rw [w];simp only [] at z;rw [Bool.eq_iff_iff];simp only [decide_eq_true_eq,Bool.not_eq_true',decide_eq_false_iff_not]
    repeat' split at z
    all_goals split<;>omega
   rw [this];cases aR n<;>simp<;>grind
theorem eG (n:Int):Nr (sg (n+5400000)) (cg n) ee/\Nr (cg (n+5400000)) (-sg n) ee:=by
 have a:=rY (n+5400000);rw [show n+5400000-5400000=n by omega] at a
 have b:=rY (n+10800000);rw [show n+10800000-5400000=n+5400000 by omega,iq] at b
 exact ⟨a.symm,b⟩
theorem sO (a b:Int):Nr (sg (b-a)) (sg b*cg a-cg b*sg a) (80*ee):=by
 have e:=bB;have s:=(rY (b-a)).symm;have c:=lQ (a+5400000) b;rw [show b-(a+5400000)=b-a-5400000 by omega] at c
 obtain ⟨q1,q2⟩:=eG a;have m1:=Nr.mul (Nr.refl (cg b)) q2 (g1 b).1 (by have:=(g1 a).2;unfold O1 at *;constructor<;>grind) (by grind) (by grind)
 have m2:=Nr.mul (Nr.refl (sg b)) q1 (g1 b).2 (g1 a).1 (by grind) (by grind)
 have x:=(s.trans c).trans (m1.add m2);have y:cg b*-sg a+sg b*cg a=sg b*cg a-cg b*sg a:=by grind
 rw [y] at x;exact x.le (by grind)
