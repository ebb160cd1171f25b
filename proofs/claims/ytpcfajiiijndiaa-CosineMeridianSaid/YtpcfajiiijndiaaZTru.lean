/- The sine grows by more than all errors: the arcsine of an interval that holds a sine holds its angle. -/
import Derived.Test.YtpcfajiiijndiaaZUAdd
import Derived.Test.YtpcfajiiijndiaaZRIn
import Derived.Test.YtpcfajiiijndiaaZSgn
set_option linter.unusedVariables false
set_option linter.unusedSimpArgs false
namespace Go.Proofs.Ytpcfajiiijndiaa
open Alm Sx
theorem QY (n:Nat) (h:n<=2700000):zc (n+1)+19/1000000000000000<=zc n:=by
 rw [dm];have a:=dG n h;have b:=Alm.zs_pos n h;have c:=rY;have s':=s1_low;have e1:0<=(zc n-49/100)*(1-c1-4/100000000000000):=Rat.mul_nonneg (by grind) (by grind)
 have e2:0<=zs n*s1:=Rat.mul_nonneg (by grind) (by grind)
 grind
theorem Ib (n:Nat) (hn:n+1=2700000):zs (n+1)+19/1000000000000000<=zc n:=by
 have f1:FlR (zs (n+1)) 759250124:=by rw [hn];exact Bf
 have f2:FlR (zc (n+1)) 759250124:=by rw [hn];exact yo
 unfold FlR at f1 f2;rw [dI] at f1 f2;have m:=BA;have e:=dm n;have e':=dw n;have b:=kQ n (by omega)
 have a:=dG n (by omega)
 have b2:=iy n;have a2:=jF n;have c:=rY;have s:=s1_low;have s2:=wQ;clear hn;generalize zs (n+1)=x' at *
 generalize zc (n+1)=y' at *
 generalize zs n=x at *
 generalize zc n=y at *
 have e1:0<=(1-y)*s1:=Rat.mul_nonneg (by grind) (by grind)
 have e2:0<=(x+1/1000000000)*(1-c1):=Rat.mul_nonneg (by grind) (by grind)
 have k:69/100<=x:=by grind
 have e3:0<=(x-69/100)*(s1-29/100000000):=Rat.mul_nonneg (by grind) (by grind)
 have e4:0<=(y-49/100)*(1-c1):=Rat.mul_nonneg (by grind) (by grind)
 grind
theorem Qd (n:Nat) (h:n<5400000):sS n+19/1000000000000000<=sS (n+1):=by
 unfold sS
 by_cases h1:n=1800000
 . have a:=Ed n h1;have b:=zs_up n (by omega)
   rw [if_pos h1,if_neg (by omega),if_pos (by omega)]
   clear h1 h;grind
 . rw [if_neg h1]
   by_cases h2:n+1=1800000
   . have a:=Ed (n+1) h2;have b:=zs_up n (by omega)
     rw [if_pos h2,if_pos (by omega)]
     clear h1 h h2;grind
   . rw [if_neg h2]
     by_cases h3:2*(n+1)<=5400000
     . rw [if_pos h3,if_pos (by omega)]
       have b:=zs_up n (by omega)
       clear h1 h h2 h3;grind
     . rw [if_neg h3]
       by_cases h4:2*n<=5400000
       . rw [if_pos h4];have:=Ib (5400000-(n+1)) (by omega)
         rw [show 5400000-(n+1)+1=n by omega] at this
         exact this
       . rw [if_neg h4];have:=QY (5400000-(n+1)) (by omega)
         rw [show 5400000-(n+1)+1=5400000-n by omega] at this
         exact this
theorem Cg (m n:Nat) (h:m<n) (h1:n<=5400000):sS m+19/1000000000000000<=sS n:=by
 have a:=Qd m (by omega)
 by_cases e:m+1=n
 . rw [<-e];exact a
 . have:=jA (m+1) n (by omega) h1
   clear h h1 e;grind
theorem Ry (m n:Int) (h0:-5400000<=m) (h:m<n) (h1:n<=5400000):sR m+19/1000000000000000<=sR n:=by
 unfold sR
 by_cases hm:0<=m
 . rw [if_pos hm,if_pos (by omega)]
   exact Cg _ _ (by omega) (by omega)
 . rw [if_neg hm];have a:=Cg 0 (-m).toNat (by omega) (by omega)
   rw [jC] at a
   by_cases hn:0<=n
   . rw [if_pos hn]
     have b:0<=sS n.toNat:=by
      by_cases z:n.toNat=0
      . rw [z,jC];exact Rat.le_refl
      . have:=jA 0 n.toNat (by omega) (by omega)
        rw [jC] at this;exact Rat.le_of_lt this
     clear h0 h h1 hm hn;grind
   . rw [if_neg hn];have:=Cg (-n).toNat (-m).toNat (by omega) (by omega)
     clear h0 h h1 hm hn;grind
theorem Oy (n:Int) (h0:-5400000<=n) (h1:n<=5400000):Nr (sg n) (sR n) ee:=by
 unfold sg sR Nr
 by_cases h:0<=n
 . obtain ⟨a,b⟩:=wG n h h1;rw [a,b,if_pos h,if_neg (by simp)]
   have:=Ea n.toNat (by omega)
   exact this
 . obtain ⟨a,b⟩:=vV n h0 (by omega)
   rw [a,b,if_neg h,if_pos rfl];have:=Ea (-n).toNat (by omega)
   clear h h0 h1 a b;generalize tS (-n).toNat=x at *
   generalize sS (-n).toNat=y at *
   constructor<;>grind
theorem WG:10000*ee+2*ee<=19/1000000000000000:=by unfold ee;decide +kernel
theorem Jt (m n:Int) (h0:-5400000<=m) (h:m<n) (h1:n<=5400000):sg m+10000*ee<=sg n:=by
 have a:=Oy m h0 (by omega)
 have b:=Oy n (by omega) h1
 have c:=Ry m n h0 h h1;have e:=WG;unfold Nr at a b;clear h h0 h1;grind
theorem MH:bLo (-5400000)=-1073741824:=by decide +kernel
theorem Rz {lo n:Int} (h0:-5400000<=n) (h1:n<=5400000) (h:(lo:Rat)*u30-1000*ee<=sg n):qA lo<=n:=by
 refine Int.not_lt.1 fun hh=>?_
 unfold qA at hh;obtain ⟨a0,a1,a2,_⟩:=dO (max lo (-1073741824));generalize bE (max lo (-1073741824))=m at *
 have hb:bHi m<=max lo (-1073741824):=by rcases a2 with q|q<;>omega
 have hm:=Bl (-5400000) m (by omega) (by omega) (by omega)
 rw [MH] at hm;have hl:bHi m<=lo:=by omega
 have g:=Jt n m h0 (by omega) a1
 have s:=(JL m).2;have c:(bHi m:Rat)<=(lo:Rat):=Rat.intCast_le_intCast.2 hl;have u:=Rat.mul_le_mul_of_nonneg_right c (Rat.le_of_lt fV);have e:=bN;clear hh a0 a1 a2 hb hm hl h0 h1 c;grind
theorem QC {hi n:Int} (h0:-5400000<=n) (h1:n<=5400000) (h:sg n<=(hi:Rat)*u30+1000*ee):n<=nY hi:=by
 refine Int.not_lt.1 fun hh=>?_
 unfold nY at hh;obtain ⟨a0,a1,a2,_⟩:=dO (-(min hi 1073741824));generalize bE (-(min hi 1073741824))=m at *
 have hb:bHi m<=-(min hi 1073741824):=by rcases a2 with q|q<;>omega
 have hn:=(Vg m).1;have g:=Jt (-m) n (by omega) (by omega) h1
 have s:=(JL (-m)).1;have o:=(g1 n).2.2;have e:=bN;have u1:=ni
 by_cases q:hi<=1073741824
 . have hl:hi<=bLo (-m):=by omega
   have c:(hi:Rat)<=(bLo (-m):Rat):=Rat.intCast_le_intCast.2 hl;have u:=Rat.mul_le_mul_of_nonneg_right c (Rat.le_of_lt fV);clear hh a0 a1 a2 hb hn hl h0 h1 c q;grind
 . have hl:1073741824<=bLo (-m):=by omega
   have c:((1073741824:Int):Rat)<=(bLo (-m):Rat):=Rat.intCast_le_intCast.2 hl;have u:=Rat.mul_le_mul_of_nonneg_right c (Rat.le_of_lt fV);have k:((1073741824:Int):Rat)=1073741824:=by decide +kernel
   rw [k,u1] at u;clear hh a0 a1 a2 hb hn hl h0 h1 c q h;grind
theorem tZ (n:Int):Nr (cg (n-5400000)) (sg n) ee:=by
 have f:=gW (n-5400000);rw [show n-5400000+5400000=n by omega] at f
 have b:=gy n;have b2:=gy (n-5400000);have t:=OG (aG (n-5400000)).toNat (by omega)
 rw [show 5400000-(aG (n-5400000)).toNat=(aG n).toNat by omega] at t
 unfold cg sg Nr;rw [show n-5400000+5400000=n by omega]
 clear f b b2;generalize tC (aG (n-5400000)).toNat=x at *
 generalize tS (aG n).toNat=y at *
 split<;>constructor<;>grind
theorem qB:tS 0=0:=by unfold tS;rw [if_pos (by omega)];exact dK
theorem Eo (n:Int):sg (n+10800000)=-sg n:=by
 have f1:=gW n;have f2:=gW (n+5400000);rw [show n+5400000+5400000=n+10800000 by omega] at f2
 have f:aG (n+10800000)=aG n:=by omega
 have b:=gy n;unfold sg;rw [f]
 by_cases z:aG n=0
 . rw [z,show (0:Int).toNat=0 from rfl,qB]
   split<;>split<;>grind
 . have:bU (n+10800000)=!bU n:=by
    unfold aG at z;unfold bU;have w:av (n+10800000)=if av n<10800000 then av n+10800000 else av n-10800000:=by unfold av;split<;>omega
    have wb:0<=av n/\av n<21600000:=by unfold av;omega
    rw [w];simp only [] at z;rw [Bool.eq_iff_iff];simp only [decide_eq_true_eq,Bool.not_eq_true',decide_eq_false_iff_not]
    repeat' split at z
    all_goals split<;>omega
   rw [this];cases bU n<;>simp<;>grind
theorem Bg (n:Int):Nr (sg (n+5400000)) (cg n) ee/\Nr (cg (n+5400000)) (-sg n) ee:=by
 have a:=tZ (n+5400000);rw [show n+5400000-5400000=n by omega] at a
 have b:=tZ (n+10800000);rw [show n+10800000-5400000=n+5400000 by omega,Eo] at b
 exact ⟨a.symm,b⟩
theorem wN (a b:Int):Nr (sg (b-a)) (sg b*cg a-cg b*sg a) (80*ee):=by
 have e:=bN;have s:=(tZ (b-a)).symm;have c:=oH (a+5400000) b;rw [show b-(a+5400000)=b-a-5400000 by omega] at c
 obtain ⟨q1,q2⟩:=Bg a;have m1:=Nr.mul (Nr.refl (cg b)) q2 (g1 b).1 (by have:=(g1 a).2;unfold O1 at *;constructor<;>grind) (by grind) (by grind)
 have m2:=Nr.mul (Nr.refl (sg b)) q1 (g1 b).2 (g1 a).1 (by grind) (by grind)
 have x:=(s.trans c).trans (m1.add m2);have y:cg b*-sg a+sg b*cg a=sg b*cg a-cg b*sg a:=by grind
 rw [y] at x;exact x.le (by grind)
theorem Su (a b:Int):Nr (cg (b+a)) (cg b*cg a-sg b*sg a) (220*ee):=by
 have e:=bN;have h1:=oH (-a) b;rw [show b - -a=b+a by omega] at h1
 have c0:=oH a 0;have s0:=wN a 0;rw [show (0:Int)-a=-a by omega] at c0 s0
 have z:sg 0=0/\cg 0=1:=by
  have f:aG 0=0:=by decide
  unfold sg cg;rw [f];refine ⟨by rw [if_neg (by decide)];exact qB,by rw [if_neg (by decide)];unfold tC;rw [if_pos (by decide)];exact dJ⟩
 rw [z.1,z.2] at c0 s0;have m1:=Nr.mul (Nr.refl (cg b)) c0 (g1 b).1 (by have:=(g1 a).1;unfold O1 at *;constructor<;>grind) (by grind) (by grind)
 have m2:=Nr.mul (Nr.refl (sg b)) s0 (g1 b).2 (by have:=(g1 a).2;unfold O1 at *;constructor<;>grind) (by grind) (by grind)
 have x:=h1.trans (m1.add m2);have y:cg b*(1*cg a+0*sg a)+sg b*(0*cg a-1*sg a)=cg b*cg a-sg b*sg a:=by grind
 rw [y] at x;exact x.le (by grind)
