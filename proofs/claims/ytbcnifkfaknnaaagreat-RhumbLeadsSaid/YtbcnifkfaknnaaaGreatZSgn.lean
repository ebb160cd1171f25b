/- Plain numbers: the signs of enclosures, what half a turn makes of them. -/
import Derived.Test.YtbcnifkfaknnaaaGreatZUnit
import Derived.Test.YtbcnifkfaknnaaaGreatZUAdd
import Derived.Test.YtbcnifkfaknnaaaGreatZSides
set_option linter.unusedVariables false
set_option linter.unusedSimpArgs false
namespace Go.Proofs.YtbcnifkfaknnaaaGreat
open Go.RowKit Alm Sx
end Go.Proofs.YtbcnifkfaknnaaaGreat
namespace Go.Proofs.YtbcnifkfaknnaaaGreat
open Alm Sx
theorem Uf (n:Nat) (h:n<=2700000):zc (n+1)+19/1000000000000000<=zc n:=by
 rw [bX];have a:=dG n h;have b:=Alm.zs_pos n h;have c:=lL;have s':=s1_low;have e1:0<=(zc n-49/100)*(1-c1-4/100000000000000):=Rat.mul_nonneg (by grind) (by grind)
 have e2:0<=zs n*s1:=Rat.mul_nonneg (by grind) (by grind)
 grind
theorem NU (n:Nat) (hn:n+1=2700000):zs (n+1)+19/1000000000000000<=zc n:=by
 have f1:FlR (zs (n+1)) 759250124:=by rw [hn];exact ER
 have f2:FlR (zc (n+1)) 759250124:=by rw [hn];exact AB
 unfold FlR at f1 f2;rw [gL] at f1 f2;have m:=Fb;have e:=bX n;have e':=bZ n;have b:=mH n (by omega)
 have a:=dG n (by omega)
 have b2:=dL n;have a2:=gB n;have c:=lL;have s:=s1_low;have s2:=tZ;clear hn;generalize zs (n+1)=x' at *
 generalize zc (n+1)=y' at *
 generalize zs n=x at *
 generalize zc n=y at *
 have e1:0<=(1-y)*s1:=Rat.mul_nonneg (by grind) (by grind)
 have e2:0<=(x+1/1000000000)*(1-c1):=Rat.mul_nonneg (by grind) (by grind)
 have k:69/100<=x:=by grind
 have e3:0<=(x-69/100)*(s1-29/100000000):=Rat.mul_nonneg (by grind) (by grind)
 have e4:0<=(y-49/100)*(1-c1):=Rat.mul_nonneg (by grind) (by grind)
 grind
theorem TT (n:Nat) (h:n<5400000):sS n+19/1000000000000000<=sS (n+1):=by
 unfold sS
 by_cases h1:n=1800000
 . have a:=Gq n h1;have b:=zs_up n (by omega)
   rw [if_pos h1,if_neg (by omega),if_pos (by omega)]
   clear h1 h;grind
 . rw [if_neg h1]
   by_cases h2:n+1=1800000
   . have a:=Gq (n+1) h2;have b:=zs_up n (by omega)
     rw [if_pos h2,if_pos (by omega)]
     clear h1 h h2;grind
   . rw [if_neg h2]
     by_cases h3:2*(n+1)<=5400000
     . rw [if_pos h3,if_pos (by omega)]
       have b:=zs_up n (by omega)
       clear h1 h h2 h3;grind
     . rw [if_neg h3]
       by_cases h4:2*n<=5400000
       . rw [if_pos h4];have:=NU (5400000-(n+1)) (by omega)
         rw [show 5400000-(n+1)+1=n by omega] at this
         exact this
       . rw [if_neg h4];have:=Uf (5400000-(n+1)) (by omega)
         rw [show 5400000-(n+1)+1=5400000-n by omega] at this
         exact this
theorem EA (m n:Nat) (h:m<n) (h1:n<=5400000):sS m+19/1000000000000000<=sS n:=by
 have a:=TT m (by omega)
 by_cases e:m+1=n
 . rw [<-e];exact a
 . have:=jV (m+1) n (by omega) h1
   clear h h1 e;grind
theorem Uz (m n:Int) (h0:-5400000<=m) (h:m<n) (h1:n<=5400000):sR m+19/1000000000000000<=sR n:=by
 unfold sR
 by_cases hm:0<=m
 . rw [if_pos hm,if_pos (by omega)]
   exact EA _ _ (by omega) (by omega)
 . rw [if_neg hm];have a:=EA 0 (-m).toNat (by omega) (by omega)
   rw [jT] at a
   by_cases hn:0<=n
   . rw [if_pos hn]
     have b:0<=sS n.toNat:=by
      by_cases z:n.toNat=0
      . rw [z,jT];exact Rat.le_refl
      . have:=jV 0 n.toNat (by omega) (by omega)
        rw [jT] at this;exact Rat.le_of_lt this
     clear h0 h h1 hm hn;grind
   . rw [if_neg hn];have:=EA (-n).toNat (-m).toNat (by omega) (by omega)
     clear h0 h h1 hm hn;grind
theorem Ru (n:Int) (h0:-5400000<=n) (h1:n<=5400000):Nr (sg n) (sR n) ee:=by
 unfold sg sR Nr
 by_cases h:0<=n
 . obtain ⟨a,b⟩:=qo n h h1;rw [a,b,if_pos h,if_neg (by simp)]
   have:=Gr n.toNat (by omega)
   exact this
 . obtain ⟨a,b⟩:=xM n h0 (by omega)
   rw [a,b,if_neg h,if_pos rfl];have:=Gr (-n).toNat (by omega)
   clear h h0 h1 a b;generalize tS (-n).toNat=x at *
   generalize sS (-n).toNat=y at *
   constructor<;>grind
theorem ZT:10000*ee+2*ee<=19/1000000000000000:=by unfold ee;decide +kernel
theorem Vz (m n:Int) (h0:-5400000<=m) (h:m<n) (h1:n<=5400000):sg m+10000*ee<=sg n:=by
 have a:=Ru m h0 (by omega)
 have b:=Ru n (by omega) h1
 have c:=Uz m n h0 h h1;have e:=ZT;unfold Nr at a b;clear h h0 h1;grind
theorem kT {m n:Int} (h:m%21600000=n%21600000):sg m=sg n/\cg m=cg n:=by
 have a:aj m=aj n:=h;have b:aj (m+5400000)=aj (n+5400000):=by unfold aj;omega
 unfold sg cg bu aI;rw [a,b];exact ⟨rfl,rfl⟩
theorem wH (n:Int):Nr (cg (n-5400000)) (sg n) ee:=by
 have f:=fo (n-5400000);rw [show n-5400000+5400000=n by omega] at f
 have b:=ic n;have b2:=ic (n-5400000);have t:=RS (aI (n-5400000)).toNat (by omega)
 rw [show 5400000-(aI (n-5400000)).toNat=(aI n).toNat by omega] at t
 unfold cg sg Nr;rw [show n-5400000+5400000=n by omega]
 clear f b b2;generalize tC (aI (n-5400000)).toNat=x at *
 generalize tS (aI n).toNat=y at *
 split<;>constructor<;>grind
theorem Ar:tS 0=0:=by unfold tS;rw [if_pos (by omega)];exact dP
theorem jS (n:Int):sg (n+10800000)=-sg n:=by
 have f1:=fo n;have f2:=fo (n+5400000);rw [show n+5400000+5400000=n+10800000 by omega] at f2
 have f:aI (n+10800000)=aI n:=by omega
 have b:=ic n;unfold sg;rw [f]
 by_cases z:aI n=0
 . rw [z,show (0:Int).toNat=0 from rfl,Ar]
   split<;>split<;>grind
 . have:bu (n+10800000)=!bu n:=by
    unfold aI at z;unfold bu;have w:aj (n+10800000)=if aj n<10800000 then aj n+10800000 else aj n-10800000:=by unfold aj;split<;>omega
    have wb:0<=aj n/\aj n<21600000:=by unfold aj;omega
    rw [w];simp only [] at z;rw [Bool.eq_iff_iff];simp only [decide_eq_true_eq,Bool.not_eq_true',decide_eq_false_iff_not]
    repeat' split at z
    all_goals split<;>omega
   rw [this];cases bu n<;>simp<;>grind
theorem uL (n:Int):Nr (sg (n+5400000)) (cg n) ee/\Nr (cg (n+5400000)) (-sg n) ee:=by
 have a:=wH (n+5400000);rw [show n+5400000-5400000=n by omega] at a
 have b:=wH (n+10800000);rw [show n+10800000-5400000=n+5400000 by omega,jS] at b
 exact ⟨a.symm,b⟩
theorem Ay (a b:Int):Nr (sg (b-a)) (sg b*cg a-cg b*sg a) (80*ee):=by
 have e:=dm;have s:=(wH (b-a)).symm;have c:=zS (a+5400000) b;rw [show b-(a+5400000)=b-a-5400000 by omega] at c
 obtain ⟨q1,q2⟩:=uL a;have m1:=Nr.mul (Nr.refl (cg b)) q2 (g1 b).1 (by have:=(g1 a).2;unfold O1 at *;constructor<;>grind) (by grind) (by grind)
 have m2:=Nr.mul (Nr.refl (sg b)) q1 (g1 b).2 (g1 a).1 (by grind) (by grind)
 have x:=(s.trans c).trans (m1.add m2);have y:cg b*-sg a+sg b*cg a=sg b*cg a-cg b*sg a:=by grind
 rw [y] at x;exact x.le (by grind)
