/- The sine grows by more than all errors: the arcsine of an interval that holds a sine holds its angle. -/
import Derived.Test.YtbdlccacamalpaaZUAdd
import Derived.Test.YtbdlccacamalpaaZSides
import Derived.Test.YtbdlccacamalpaaZSgn
set_option linter.unusedVariables false
set_option linter.unusedSimpArgs false
namespace Go.Proofs.Ytbdlccacamalpaa
open Alm Sx
theorem Ki (n:Nat) (h:n<=2700000):zc (n+1)+19/1000000000000000<=zc n:=by
 rw [bS];have a:=bW n h;have b:=Alm.zs_pos n h;have c:=mY;have s':=s1_low;have e1:0<=(zc n-49/100)*(1-c1-4/100000000000000):=Rat.mul_nonneg (by grind) (by grind)
 have e2:0<=zs n*s1:=Rat.mul_nonneg (by grind) (by grind)
 grind
theorem Ep (n:Nat) (hn:n+1=2700000):zs (n+1)+19/1000000000000000<=zc n:=by
 have f1:FlR (zs (n+1)) 759250124:=by rw [hn];exact yV
 have f2:FlR (zc (n+1)) 759250124:=by rw [hn];exact uF
 unfold FlR at f1 f2;rw [dm] at f1 f2;have m:=yG;have e:=bS n;have e':=bU n;have b:=jG n (by omega)
 have a:=bW n (by omega)
 have b2:=gH n;have a2:=iV n;have c:=mY;have s:=s1_low;have s2:=og;clear hn;generalize zs (n+1)=x' at *
 generalize zc (n+1)=y' at *
 generalize zs n=x at *
 generalize zc n=y at *
 have e1:0<=(1-y)*s1:=Rat.mul_nonneg (by grind) (by grind)
 have e2:0<=(x+1/1000000000)*(1-c1):=Rat.mul_nonneg (by grind) (by grind)
 have k:69/100<=x:=by grind
 have e3:0<=(x-69/100)*(s1-29/100000000):=Rat.mul_nonneg (by grind) (by grind)
 have e4:0<=(y-49/100)*(1-c1):=Rat.mul_nonneg (by grind) (by grind)
 grind
theorem Mw (n:Nat) (h:n<5400000):sS n+19/1000000000000000<=sS (n+1):=by
 unfold sS
 by_cases h1:n=1800000
 . have a:=Ap n h1;have b:=zs_up n (by omega)
   rw [if_pos h1,if_neg (by omega),if_pos (by omega)]
   clear h1 h;grind
 . rw [if_neg h1]
   by_cases h2:n+1=1800000
   . have a:=Ap (n+1) h2;have b:=zs_up n (by omega)
     rw [if_pos h2,if_pos (by omega)]
     clear h1 h h2;grind
   . rw [if_neg h2]
     by_cases h3:2*(n+1)<=5400000
     . rw [if_pos h3,if_pos (by omega)]
       have b:=zs_up n (by omega)
       clear h1 h h2 h3;grind
     . rw [if_neg h3]
       by_cases h4:2*n<=5400000
       . rw [if_pos h4];have:=Ep (5400000-(n+1)) (by omega)
         rw [show 5400000-(n+1)+1=n by omega] at this
         exact this
       . rw [if_neg h4];have:=Ki (5400000-(n+1)) (by omega)
         rw [show 5400000-(n+1)+1=5400000-n by omega] at this
         exact this
theorem yJ (m n:Nat) (h:m<n) (h1:n<=5400000):sS m+19/1000000000000000<=sS n:=by
 have a:=Mw m (by omega)
 by_cases e:m+1=n
 . rw [<-e];exact a
 . have:=vv (m+1) n (by omega) h1
   clear h h1 e;grind
theorem M5 (m n:Int) (h0:-5400000<=m) (h:m<n) (h1:n<=5400000):sR m+19/1000000000000000<=sR n:=by
 unfold sR
 by_cases hm:0<=m
 . rw [if_pos hm,if_pos (by omega)]
   exact yJ _ _ (by omega) (by omega)
 . rw [if_neg hm];have a:=yJ 0 (-m).toNat (by omega) (by omega)
   rw [om] at a
   by_cases hn:0<=n
   . rw [if_pos hn]
     have b:0<=sS n.toNat:=by
      by_cases z:n.toNat=0
      . rw [z,om];exact Rat.le_refl
      . have:=vv 0 n.toNat (by omega) (by omega)
        rw [om] at this;exact Rat.le_of_lt this
     clear h0 h h1 hm hn;grind
   . rw [if_neg hn];have:=yJ (-n).toNat (-m).toNat (by omega) (by omega)
     clear h0 h h1 hm hn;grind
theorem Jk (n:Int) (h0:-5400000<=n) (h1:n<=5400000):Nr (sg n) (sR n) ee:=by
 unfold sg sR Nr
 by_cases h:0<=n
 . obtain ⟨a,b⟩:=sI n h h1;rw [a,b,if_pos h,if_neg (by simp)]
   have:=zS n.toNat (by omega)
   exact this
 . obtain ⟨a,b⟩:=Dn n h0 (by omega)
   rw [a,b,if_neg h,if_pos rfl];have:=zS (-n).toNat (by omega)
   clear h h0 h1 a b;generalize tS (-n).toNat=x at *
   generalize sS (-n).toNat=y at *
   constructor<;>grind
theorem RU:10000*ee+2*ee<=19/1000000000000000:=by unfold ee;decide +kernel
theorem Jw (m n:Int) (h0:-5400000<=m) (h:m<n) (h1:n<=5400000):sg m+10000*ee<=sg n:=by
 have a:=Jk m h0 (by omega)
 have b:=Jk n (by omega) h1
 have c:=M5 m n h0 h h1;have e:=RU;unfold Nr at a b;clear h h0 h1;grind
theorem Ri {m n:Int} (h:m%21600000=n%21600000):sg m=sg n/\cg m=cg n:=by
 have a:ai m=ai n:=h;have b:ai (m+5400000)=ai (n+5400000):=by unfold ai;omega
 unfold sg cg bi aC;rw [a,b];exact ⟨rfl,rfl⟩
theorem qo (n:Int):Nr (cg (n-5400000)) (sg n) ee:=by
 have f:=dx (n-5400000);rw [show n-5400000+5400000=n by omega] at f
 have b:=fA n;have b2:=fA (n-5400000);have t:=Jl (aC (n-5400000)).toNat (by omega)
 rw [show 5400000-(aC (n-5400000)).toNat=(aC n).toNat by omega] at t
 unfold cg sg Nr;rw [show n-5400000+5400000=n by omega]
 clear f b b2;generalize tC (aC (n-5400000)).toNat=x at *
 generalize tS (aC n).toNat=y at *
 split<;>constructor<;>grind
theorem uJ:tS 0=0:=by unfold tS;rw [if_pos (by omega)];exact cB
theorem kY (n:Int):sg (n+10800000)=-sg n:=by
 have f1:=dx n;have f2:=dx (n+5400000);rw [show n+5400000+5400000=n+10800000 by omega] at f2
 have f:aC (n+10800000)=aC n:=by omega
 have b:=fA n;unfold sg;rw [f]
 by_cases z:aC n=0
 . rw [z,show (0:Int).toNat=0 from rfl,uJ]
   split<;>split<;>grind
 . have:bi (n+10800000)=!bi n:=by
    unfold aC at z;unfold bi;have w:ai (n+10800000)=if ai n<10800000 then ai n+10800000 else ai n-10800000:=by unfold ai;split<;>omega
    have wb:0<=ai n/\ai n<21600000:=by unfold ai;omega
    rw [w];simp only [] at z;rw [Bool.eq_iff_iff];simp only [decide_eq_true_eq,Bool.not_eq_true',decide_eq_false_iff_not]
    repeat' split at z
    all_goals split<;>omega
   rw [this];cases bi n<;>simp<;>grind
theorem qK (n:Int):Nr (sg (n+5400000)) (cg n) ee/\Nr (cg (n+5400000)) (-sg n) ee:=by
 have a:=qo (n+5400000);rw [show n+5400000-5400000=n by omega] at a
 have b:=qo (n+10800000);rw [show n+10800000-5400000=n+5400000 by omega,kY] at b
 exact ⟨a.symm,b⟩
theorem yL (a b:Int):Nr (sg (b-a)) (sg b*cg a-cg b*sg a) (80*ee):=by
 have e:=bC;have s:=(qo (b-a)).symm;have c:=yn (a+5400000) b;rw [show b-(a+5400000)=b-a-5400000 by omega] at c
 obtain ⟨q1,q2⟩:=qK a;have m1:=Nr.mul (Nr.refl (cg b)) q2 (g1 b).1 (by have:=(g1 a).2;unfold O1 at *;constructor<;>grind) (by grind) (by grind)
 have m2:=Nr.mul (Nr.refl (sg b)) q1 (g1 b).2 (g1 a).1 (by grind) (by grind)
 have x:=(s.trans c).trans (m1.add m2);have y:cg b*-sg a+sg b*cg a=sg b*cg a-cg b*sg a:=by grind
 rw [y] at x;exact x.le (by grind)
theorem SQ (a b:Int):Nr (cg (b+a)) (cg b*cg a-sg b*sg a) (220*ee):=by
 have e:=bC;have h1:=yn (-a) b;rw [show b - -a=b+a by omega] at h1
 have c0:=yn a 0;have s0:=yL a 0;rw [show (0:Int)-a=-a by omega] at c0 s0
 have z:sg 0=0/\cg 0=1:=by
  have f:aC 0=0:=by decide
  unfold sg cg;rw [f];refine ⟨by rw [if_neg (by decide)];exact uJ,by rw [if_neg (by decide)];unfold tC;rw [if_pos (by decide)];exact dR⟩
 rw [z.1,z.2] at c0 s0;have m1:=Nr.mul (Nr.refl (cg b)) c0 (g1 b).1 (by have:=(g1 a).1;unfold O1 at *;constructor<;>grind) (by grind) (by grind)
 have m2:=Nr.mul (Nr.refl (sg b)) s0 (g1 b).2 (by have:=(g1 a).2;unfold O1 at *;constructor<;>grind) (by grind) (by grind)
 have x:=h1.trans (m1.add m2);have y:cg b*(1*cg a+0*sg a)+sg b*(0*cg a-1*sg a)=cg b*cg a-sg b*sg a:=by grind
 rw [y] at x;exact x.le (by grind)
