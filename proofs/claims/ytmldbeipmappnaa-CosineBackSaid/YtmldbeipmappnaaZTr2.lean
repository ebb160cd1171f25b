/- The arc of the directions of a box holds the angle of a point near it. -/
import Derived.Test.YtmldbeipmappnaaZTru
import Derived.Test.YtmldbeipmappnaaZBin
set_option linter.unusedVariables false
set_option linter.unusedSimpArgs false
namespace Go.Proofs.Ytmldbeipmappnaa
open Alm Sx
theorem E5 (k:Nat):0<=tS k:=by
 unfold tS;split
 . exact zs_pos k (by omega)
 . have:=eG (5400000-k) (by omega);grind
theorem EU (k:Nat):0<=tC k:=by
 unfold tC;split
 . have:=eG k (by omega);grind
 . exact zs_pos (5400000-k) (by omega)
theorem kg (n:Int) (h:n%21600000<=10800000):0<=sg n:=by
 have s:bv n=false:=by unfold bv av;rw [decide_eq_false_iff_not];omega
 unfold sg;rw [s,if_neg (by simp)];exact E5 _
theorem AZ (n:Int) (h:10800000<=n%21600000∨n%21600000=0):sg n<=0:=by
 by_cases z:10800000<n%21600000
 . have s:bv n=true:=by unfold bv av;rw [decide_eq_true_eq];exact z
   have:=E5 (aI n).toNat;unfold sg;rw [s,if_pos rfl];grind
 . have f:aI n=0:=by
    unfold aI av;simp only []
    (repeat' split)<;>omega
   have s:bv n=false:=by unfold bv av;rw [decide_eq_false_iff_not];exact z
   unfold sg;rw [s,f,if_neg (by simp)];rw [show (0:Int).toNat=0 from rfl,uL];exact Rat.le_refl
theorem fP (n:Int) (h:n%21600000<=5400000∨16200000<=n%21600000):0<=cg n:=by
 have s:bv (n+5400000)=false:=by unfold bv av;rw [decide_eq_false_iff_not];omega
 unfold cg;rw [s,if_neg (by simp)];exact EU _
theorem rG (n:Int) (h:5400000<=n%21600000/\n%21600000<=16200000):cg n<=0:=by
 by_cases z:10800000<(n+5400000)%21600000
 . have s:bv (n+5400000)=true:=by unfold bv av;rw [decide_eq_true_eq];exact z
   have:=EU (aI n).toNat;unfold cg;rw [s,if_pos rfl];grind
 . have f:aI n=5400000:=by
    unfold aI av;simp only []
    (repeat' split)<;>omega
   have s:bv (n+5400000)=false:=by unfold bv av;rw [decide_eq_false_iff_not];exact z
   unfold cg;rw [s,f,if_neg (by simp)];rw [show (5400000:Int).toNat=5400000 from rfl,nS];exact Rat.le_refl
theorem jA (n:Int):cg (n+10800000)=-cg n:=by
 have f1:=fH n;have f2:=fH (n+5400000);rw [show n+5400000+5400000=n+10800000 by omega] at f2
 have f:aI (n+10800000)=aI n:=by omega
 by_cases z:aI n=5400000
 . unfold cg;rw [f,z,show (5400000:Int).toNat=5400000 from rfl,nS]
   split<;>split<;>grind
 . have s:bv (n+10800000+5400000)=!bv (n+5400000):=by
    have zz:(n+5400000)%21600000≠0/\(n+5400000)%21600000≠10800000:=by
     unfold aI av at z;simp only [] at z
     (repeat' split at z)<;>omega
    unfold bv av;rw [Bool.eq_iff_iff];simp only [decide_eq_true_eq,Bool.not_eq_true',decide_eq_false_iff_not];omega
   unfold cg;rw [f,s];cases bv (n+5400000)<;>simp<;>grind
theorem wP (k:Nat) (h:k<=5400000):sg (k:Int)=tS k/\cg (k:Int)=tC k:=by
 obtain ⟨a,b⟩:=jR k (by omega) (by omega)
 have c:bv ((k:Int)+5400000)=false:=by unfold bv av;rw [decide_eq_false_iff_not];omega
 unfold sg cg;rw [a,b,c,if_neg (by simp),if_neg (by simp),Int.toNat_natCast]
 exact ⟨rfl,rfl⟩
theorem zs1:zs 1=s1/\zc 1=c1:=by
 have a:=ed 0;have b:=dW 0;rw [fD,gm] at a b
 constructor<;>grind
theorem iB:sg 1=s1/\cg 1=c1:=by
 have h:=wP 1 (by omega)
 have a:tS 1=zs 1:=by unfold tS;rw [if_pos (by omega)]
 have b:tC 1=zc 1:=by unfold tC;rw [if_pos (by omega)]
 rw [a,b,zs1.1,zs1.2] at h;exact h
theorem YI (n:Int) (h:0<n) (h1:n<10800000):sg n=sg (10800000-n):=by
 have f:aI n=aI (10800000-n):=by
  unfold aI av;simp only []
  (repeat' split)<;>omega
 have s1:bv n=false:=by unfold bv av;rw [decide_eq_false_iff_not];omega
 have s2:bv (10800000-n)=false:=by unfold bv av;rw [decide_eq_false_iff_not];omega
 unfold sg;rw [f,s1,s2]
theorem Ex (n:Int) (h:1<=n) (h1:n<=10799999):28/100000000<=sg n:=by
 have key:∀ m:Int,1<=m->m<=5400000->28/100000000<=sg m:=fun m a b=>by
  have s:=kV;have o:=iB.1;have e:=bz
  by_cases q:m=1
  . subst q;grind
  . have:=Ze 1 m (by omega) (by omega) b
    clear a b q h h1;grind
 by_cases q:n<=5400000
 . exact key n h q
 . rw [YI n (by omega) (by omega)]
   exact key _ (by omega) (by omega)
theorem o1m {x a e:Rat} (hx:O1 x) (h1:-e<=a) (h2:a<=e):-e<=x*a/\x*a<=e:=by
 unfold O1 at hx;have k1:=Rat.mul_nonneg (show 0<=1-x by grind) (show 0<=e-a by grind)
 have k2:=Rat.mul_nonneg (show 0<=1-x by grind) (show 0<=e+a by grind)
 have k3:=Rat.mul_nonneg (show 0<=1+x by grind) (show 0<=e-a by grind)
 have k4:=Rat.mul_nonneg (show 0<=1+x by grind) (show 0<=e+a by grind)
 constructor<;>grind
theorem QO (k:Int):Nr (sg (k+1)) (cg k*s1+sg k*c1) (150*ee)/\Nr (cg (k+1)) (cg k*c1-sg k*s1) (150*ee):=by
 have a:=nO k (k+1);have b:=ik k (k+1);rw [show k+1-k=1 by omega] at a b
 rw [iB.1] at a;rw [iB.2] at b;have u:=cO k;obtain ⟨oc,os⟩:=g1 k;unfold Nr at a b;have m1:=o1m oc a.1 a.2;have m2:=o1m os b.1 b.2;have m3:=o1m oc b.1 b.2;have m4:=o1m os a.1 a.2;have us:=congrArg (·*sg (k+1)) u;have uc:=congrArg (·*cg (k+1)) u;unfold Nr;generalize sg (k+1)=S' at *
 generalize cg (k+1)=C' at *
 generalize sg k=S at *
 generalize cg k=C at *
 clear a b oc os u;refine ⟨⟨by grind,by grind⟩,⟨by grind,by grind⟩⟩
theorem DN {u u' v v' X Y e:Rat} (hu:Nr u u' e) (hv:Nr v v' e) (hX:0<=X) (hY:0<=Y):Nr (u*X+v*Y) (u'*X+v'*Y) (e*(X+Y)):=by
 unfold Nr at *
 have a:=Rat.mul_nonneg hX (show 0<=e-(u-u') by grind)
 have b:=Rat.mul_nonneg hX (show 0<=e+(u-u') by grind)
 have c:=Rat.mul_nonneg hY (show 0<=e-(v-v') by grind)
 have d:=Rat.mul_nonneg hY (show 0<=e+(v-v') by grind)
 constructor<;>grind
theorem ace (k:Nat) (h:k<=5400000):(Nr (cg (5400000+k)) (-tS k) (3*ee)/\Nr (sg (5400000+k)) (tC k) (3*ee))/\(Nr (cg (10800000+k)) (-tC k) (3*ee)/\Nr (sg (10800000+k)) (-tS k) (3*ee))/\(Nr (cg (16200000+k)) (tS k) (3*ee)/\Nr (sg (16200000+k)) (-tC k) (3*ee)):=by
 have e:=bz;obtain ⟨s0,c0⟩:=wP k h;have q1:=gq k;rw [show (k:Int)+5400000=5400000+k by omega,s0,c0] at q1
 have h2:=jd k;have h2':=jA k;rw [show (k:Int)+10800000=10800000+k by omega,s0] at h2
 rw [show (k:Int)+10800000=10800000+k by omega,c0] at h2'
 have h3:=jd (5400000+k);have h3':=jA (5400000+k);rw [show (5400000:Int)+k+10800000=16200000+k by omega] at h3 h3'
 refine ⟨⟨q1.2.le (by grind),q1.1.le (by grind)⟩,⟨?_,?_⟩,⟨?_,?_⟩⟩
 . rw [h2'];exact (Nr.refl _).le (by grind)
 . rw [h2];exact (Nr.refl _).le (by grind)
 . rw [h3'];have:=q1.2.neg;rw [Rat.neg_neg] at this;exact this.le (by grind)
 . rw [h3];exact q1.1.neg.le (by grind)
def alc (x y:Int):Rat:=(qX x y:Rat)+qY x y
theorem yD (x y:Int) (h:¬ (x=0/\y=0)) (k:Nat) (hk:k<=5400000) (hX:0<qX x y) (hY:0<=qY x y) :
 Nr (cg (qT x y+k)*y-sg (qT x y+k)*x) (tC k*qY x y-tS k*qX x y) (3*ee*alc x y)/\Nr (cg (qT x y+k)*x+sg (qT x y+k)*y) (tC k*qX x y+tS k*qY x y) (3*ee*alc x y):=by
 have e:=bz;have H:=JB x y h;obtain ⟨Q1,Q2,Q3⟩:=ace k hk;obtain ⟨s0,c0⟩:=wP k hk;have pX:(0:Rat)<=(qX x y:Rat):=Rat.intCast_le_intCast.2 (Int.le_of_lt hX);have pY:(0:Rat)<=(qY x y:Rat):=Rat.intCast_le_intCast.2 hY;unfold alc;have nz:Nr (tC k) (tC k) (3*ee)/\Nr (tS k) (tS k) (3*ee):=⟨(Nr.refl _).le (by grind),(Nr.refl _).le (by grind)⟩
 generalize qX x y=X at *
 generalize qY x y=Y at *
 generalize qT x y=t at *
 rcases H with ⟨rfl,rfl,rfl⟩|⟨rfl,rfl,rfl⟩|⟨rfl,rfl,rfl⟩|⟨rfl,rfl,rfl⟩
 . rw [Int.zero_add,s0,c0];have a:=DN nz.2.neg nz.1 pX pY;have b:=DN nz.1 nz.2 pX pY;unfold Nr at *
   constructor<;>constructor<;>grind
 . rw [Rat.intCast_neg];have a:=DN Q1.1 Q1.2 pX pY;have b:=DN Q1.2 Q1.1.neg pX pY;unfold Nr at *
   constructor<;>constructor<;>grind
 . rw [Rat.intCast_neg,Rat.intCast_neg];have a:=DN Q2.2 Q2.1.neg pX pY;have b:=DN Q2.1.neg Q2.2.neg pX pY;unfold Nr at *
   constructor<;>constructor<;>grind
 . rw [Rat.intCast_neg];have a:=DN Q3.1.neg Q3.2.neg pX pY;have b:=DN Q3.2.neg Q3.1 pX pY;unfold Nr at *
   constructor<;>constructor<;>grind
theorem RJ {x y:Int} {L:Nat} (hx:0<x/\x<=2147483648) (hy:0<=y/\y<=2147483648) (h:Du x y L) :
 (x:Rat)*tS L-y*tC L<=ee*((x:Rat)+y)/\-(ee*((x:Rat)+y))<=(x:Rat)*tS (L+1)-y*tC (L+1):=by
 obtain ⟨h0,h1,h2⟩:=h;have e:∀ k,frm x y k=(x:Rat)*tS k-y*tC k:=fun k=>by unfold frm tS tC;split<;>rfl
 have bx:=rA (Int.le_of_lt hx.1) hx.2;have by':=rA hy.1 hy.2
 have ep:=bz;have mm:=ji;have d:=pW;have kx:=Rat.mul_nonneg (Rat.le_of_lt ep) bx.1;have ky:=Rat.mul_nonneg (Rat.le_of_lt ep) by'.1
 have z:=eG 2700000 (by omega)
 have tm:∀ k:Nat,k=2700000->tS k=zs 2700000/\tC k=zc 2700000:=fun k q=>by
  subst q;unfold tS tC;rw [if_pos (Nat.le_refl _),if_pos (Nat.le_refl _)];exact ⟨rfl,rfl⟩
 unfold past at h1 h2
 constructor
 . by_cases q:L=2700000
   . rw [if_pos q] at h1;have hxy:(x:Rat)<=y:=Rat.intCast_le_intCast.2 (by omega)
     rw [(tm L q).1,(tm L q).2];clear tm h0 h1 h2 hx hy q e;generalize zs 2700000=s at *
     generalize zc 2700000=c at *
     have k1:=Rat.mul_nonneg bx.1 (show 0<=1/4*ee-(s-c) by grind)
     have k2:=Rat.mul_nonneg (show 0<=(y:Rat)-x by grind) (show 0<=c by grind)
     grind
   . rw [if_neg q,e] at h1;have:=Rat.not_lt.1 h1;clear tm h0 h1 h2 hx hy q e mm z;grind
 . by_cases q:L+1=2700000
   . rw [if_pos q] at h2;have hxy:(y:Rat)<=x:=Rat.intCast_le_intCast.2 (by omega)
     rw [(tm _ q).1,(tm _ q).2];clear tm h0 h1 h2 hx hy q e;generalize zs 2700000=s at *
     generalize zc 2700000=c at *
     have k1:=Rat.mul_nonneg bx.1 (show 0<=1/4*ee+(s-c) by grind)
     have k2:=Rat.mul_nonneg (show 0<=(x:Rat)-y by grind) (show 0<=c by grind)
     grind
   . rw [if_neg q,e] at h2;clear tm h0 h1 hx hy q e mm z;grind
theorem aaf (k:Nat):tC k*tC k+tS k*tS k=1:=by
 unfold tC tS;split
 . exact qC k
 . have:=qC (5400000-k);grind
theorem xM (x y:Int) (h:¬ (x=0/\y=0)) (hX:0<qX x y) (hY:0<=qY x y):1<=alc x y/\(-(alc x y)<=(x:Rat)/\(x:Rat)<=alc x y)/\(-(alc x y)<=(y:Rat)/\(y:Rat)<=alc x y):=by
 have H:=JB x y h;have pX:(1:Rat)<=(qX x y:Rat):=Rat.intCast_le_intCast.2 hX;have pY:(0:Rat)<=(qY x y:Rat):=Rat.intCast_le_intCast.2 hY;unfold alc;generalize qX x y=X at *
 generalize qY x y=Y at *
 generalize qT x y=t at *
 rcases H with ⟨rfl,rfl,rfl⟩|⟨rfl,rfl,rfl⟩|⟨rfl,rfl,rfl⟩|⟨rfl,rfl,rfl⟩
 all_goals
  try simp only [Rat.intCast_neg]
  refine ⟨?_,⟨?_,?_⟩,?_,?_⟩<;>grind
theorem AA (x y:Int) (h:¬ (x=0/\y=0)) (hX:0<qX x y) (hY:0<=qY x y) {u v t:Rat} (u1:-t<=u) (u2:u<=t) (v1:-t<=v) (v2:v<=t):-(t*alc x y)<=(x:Rat)*v-y*u/\(x:Rat)*v-y*u<=t*alc x y:=by
 have H:=JB x y h;have pX:(0:Rat)<=(qX x y:Rat):=Rat.intCast_le_intCast.2 (Int.le_of_lt hX);have pY:(0:Rat)<=(qY x y:Rat):=Rat.intCast_le_intCast.2 hY;unfold alc;have a1:=Rat.mul_nonneg pX (show 0<=t-u by grind)
 have a2:=Rat.mul_nonneg pX (show 0<=t+u by grind)
 have a3:=Rat.mul_nonneg pX (show 0<=t-v by grind)
 have a4:=Rat.mul_nonneg pX (show 0<=t+v by grind)
 have b1:=Rat.mul_nonneg pY (show 0<=t-u by grind)
 have b2:=Rat.mul_nonneg pY (show 0<=t+u by grind)
 have b3:=Rat.mul_nonneg pY (show 0<=t-v by grind)
 have b4:=Rat.mul_nonneg pY (show 0<=t+v by grind)
 generalize qX x y=X at *
 generalize qY x y=Y at *
 generalize qT x y=r at *
 rcases H with ⟨rfl,rfl,rfl⟩|⟨rfl,rfl,rfl⟩|⟨rfl,rfl,rfl⟩|⟨rfl,rfl,rfl⟩
 all_goals
  try simp only [Rat.intCast_neg]
  constructor<;>grind
theorem Pd {X Y p s e M:Rat} (hX:0<=X) (hY:0<=Y) (hM1:0<M) (hM:M=X+Y) (hp:0<=p/\p<=1) (hs:0<=s/\s<=1) (u:p*p+s*s=1) (he:0<=e) (he2:e<=1/1000000) (c1:X*s-Y*p<=e*M) (c2:-(e*M)<=X*s-Y*p):3/5*M<=p*X+s*Y:=by
 have hMn:0<=M:=by grind
 have k1:=Rat.mul_nonneg hs.1 (show 0<=e*M-(X*s-Y*p) by grind)
 have k2:=Rat.mul_nonneg hp.1 (show 0<=X*s-Y*p+e*M by grind)
 have ux:=congrArg (·*X) u;have uy:=congrArg (·*Y) u;have e1:X-s*(e*M)<=p*(p*X+s*Y):=by grind
 have e2:Y-p*(e*M)<=s*(p*X+s*Y):=by grind
 have eM:=Rat.mul_nonneg he hMn;have k3:=Rat.mul_nonneg (show 0<=1-s by grind) eM
 have k4:=Rat.mul_nonneg (show 0<=1-p by grind) eM
 have k5:=Rat.mul_nonneg (show 0<=1/1000000-e by grind) hMn
 have tot:99/100*M<=(p+s)*(p*X+s*Y):=by grind
 have sm:p+s<=3/2:=by
  refine Rat.not_lt.1 fun hh=>?_
  have:=Rat.mul_pos (show 0<p+s-3/2 by grind) (show 0<p+s+3/2 by grind)
  have q:=Rat.mul_nonneg (show 0<=1-p by grind) (show 0<=1-s by grind)
  have d:=bT (p-s);grind
 generalize p*X+s*Y=D at *
 refine Rat.not_lt.1 fun hh=>?_
 by_cases dn:0<=D
 . have:=Rat.mul_nonneg (show 0<=3/2-(p+s) by grind) dn
   grind
 . have:=Rat.mul_nonneg (show 0<=p+s by grind) (show 0<=-D by grind)
   grind
theorem rH (x y:Int) (h:¬ (x=0/\y=0)) (hx:iF x) (hy:iF y) :
 -(8*ee*alc x y)<=cg (aU x y)*y-sg (aU x y)*x/\cg (aU x y+1)*y-sg (aU x y+1)*x<=8*ee*alc x y/\(kC x y=true->cg (aU x y)*y-sg (aU x y)*x<=8*ee*alc x y)/\1/2*alc x y<=cg (aU x y)*x+sg (aU x y)*y:=by
 have bq:=Alm.ahX x y 2147483648 h hx hy;have D:=mW x y h hx hy;have F:=RJ ⟨bq.1,bq.2.1⟩ ⟨bq.2.2.1,bq.2.2.2⟩ D;have N0:=yD x y h (bZ x y) (by have:=D.1;omega) bq.1 bq.2.2.1
 have N1:=yD x y h (bZ x y+1) (by have:=D.1;omega) bq.1 bq.2.2.1
 have pX:(0:Rat)<=(qX x y:Rat):=Rat.intCast_le_intCast.2 (Int.le_of_lt bq.1);have pY:(0:Rat)<=(qY x y:Rat):=Rat.intCast_le_intCast.2 bq.2.2.1;have m1:=(xM x y h bq.1 bq.2.2.1).1;have e:=bz;have ev:aU x y+1=qT x y+((bZ x y+1:Nat):Int):=by unfold aU;omega
 have eM:alc x y=(qX x y:Rat)+qY x y:=rfl;have em:=Rat.mul_nonneg (Rat.le_of_lt e) (show 0<=alc x y by grind)
 rw [<-eM] at F
 have ex:kC x y=true->tC (bZ x y)*qY x y-tS (bZ x y)*qX x y<=ee*alc x y:=fun q=>by
  unfold kC at q;rw [Bool.or_eq_true,Bool.and_eq_true,Bool.and_eq_true] at q;simp only [decide_eq_true_eq] at q;rcases q with ⟨q1,q2⟩|⟨q1,q2⟩
  . rw [q1,q2,uL,show ((0:Int):Rat)=0 from rfl];grind
  . have tm:∀ k:Nat,k=2700000->tS k=zs k/\tC k=zc k:=fun k q=>by unfold tS tC;rw [if_pos (by omega),if_pos (by omega)];exact ⟨rfl,rfl⟩
    have mm:∀ k:Nat,k=2700000->-(4*dx)<=zs k-zc k/\zs k-zc k<=4*dx:=fun k q=>by subst q;exact ji
    have mm:=mm _ q1;have d:=pW;rw [(tm _ q1).1,(tm _ q1).2,<-q2];have pM:(qX x y:Rat)<=alc x y:=by grind
    have k:=Rat.mul_nonneg pX (show 0<=ee+(zs (bZ x y)-zc (bZ x y)) by clear N0 N1 F D tm pX pY m1 em pM;grind)
    have k2:=Rat.mul_nonneg (Rat.le_of_lt e) (show 0<=alc x y-qX x y by grind)
    clear N0 N1 F D tm;generalize zs (bZ x y)=s at *
    generalize zc (bZ x y)=c at *
    grind
 rw [ev];have ev0:aU x y=qT x y+((bZ x y:Nat):Int):=rfl;rw [ev0];have o:=t1 (bZ x y);have on:=E5 (bZ x y);have oc:=EU (bZ x y);have u:=aaf (bZ x y)
 have step:-(1/1000000*alc x y)<=(qX x y:Rat)*tS (bZ x y)-qY x y*tC (bZ x y):=by
  have st:tS (bZ x y+1)<=tS (bZ x y)+9/10000000/\tC (bZ x y)<=tC (bZ x y+1)+9/10000000:=by
   obtain ⟨a0,a1⟩:=wP (bZ x y) (by have:=D.1;omega)
   obtain ⟨b0,b1⟩:=wP (bZ x y+1) (by have:=D.1;omega)
   obtain ⟨r1,r2⟩:=QO (bZ x y);rw [show ((bZ x y:Nat):Int)+1=((bZ x y+1:Nat):Int) by omega,a0,a1] at r1 r2
   rw [b0] at r1;rw [b1] at r2;have sh:=uV;have sl:=kV;have cd:=rF;have e0:150*ee<=1/10000000:=by unfold ee;decide +kernel
   unfold Nr at r1 r2;have w1:=Rat.mul_nonneg on (show 0<=1-c1 by grind)
   have w2:=Rat.mul_nonneg oc (show 0<=1-c1 by grind)
   have w3:=Rat.mul_nonneg (show 0<=1-tC (bZ x y) by have:=o.1.2;grind) (show 0<=s1 by grind)
   have w4:=Rat.mul_nonneg (show 0<=1-tS (bZ x y) by have:=o.2.2;grind) (show 0<=s1 by grind)
   have w5:=Rat.mul_nonneg (show 0<=1-tC (bZ x y) by have:=o.1.2;grind) (show 0<=1-c1 by grind)
   clear N0 N1 F D ex ev ev0 a0 a1 b0 b1;generalize tS (bZ x y)=S0 at *
   generalize tC (bZ x y)=C0 at *
   generalize tS (bZ x y+1)=S1 at *
   generalize tC (bZ x y+1)=C1 at *
   constructor<;>grind
  have k1:=Rat.mul_nonneg pX (show 0<=tS (bZ x y)+9/10000000-tS (bZ x y+1) by grind)
  have k2:=Rat.mul_nonneg pY (show 0<=tC (bZ x y+1)+9/10000000-tC (bZ x y) by grind)
  have e0:ee<=1/100000000:=by unfold ee;decide +kernel
  have k3:=Rat.mul_nonneg (show 0<=1/100000000-ee by grind) (show 0<=alc x y by grind)
  clear N0 N1 ex ev ev0 o on oc u;grind
 have dt:=Pd (e:=1/1000000) (M:=alc x y) pX pY (by grind) eM ⟨oc,o.1.2⟩ ⟨on,o.2.2⟩ u (by decide +kernel) (Rat.le_refl) (by
  have e0:ee<=1/1000000:=by unfold ee;decide +kernel
  have k3:=Rat.mul_nonneg (show 0<=1/1000000-ee by grind) (show 0<=alc x y by grind)
  grind) step
 have e0:ee<=1/1000000:=by unfold ee;decide +kernel
 have k3:=Rat.mul_nonneg (show 0<=1/1000000-ee by grind) (show 0<=alc x y by grind)
 clear ev ev0 eM step u o on oc D bq;unfold Nr at N0 N1;generalize tS (bZ x y)=S0 at *
 generalize tC (bZ x y)=C0 at *
 generalize tS (bZ x y+1)=S1 at *
 generalize tC (bZ x y+1)=C1 at *
 generalize cg (qT x y+((bZ x y:Nat):Int))=g0 at *
 generalize sg (qT x y+((bZ x y:Nat):Int))=h0 at *
 generalize cg (qT x y+((bZ x y+1:Nat):Int))=g1 at *
 generalize sg (qT x y+((bZ x y+1:Nat):Int))=h1 at *
 generalize alc x y=M at *
 refine ⟨by grind,by grind,fun q=>?_,by grind⟩
 have:=ex q;grind
theorem DT (x y c:Int) (h:¬ (x=0/\y=0)) (hx:iF x) (hy:iF y) :
 Nr ((x:Rat)*sg c-y*cg c) ((cg (aU x y)*x+sg (aU x y)*y)*sg (c-aU x y)-(cg (aU x y)*y-sg (aU x y)*x)*cg (c-aU x y)) (300*ee*alc x y):=by
 have bq:=Alm.ahX x y 2147483648 h hx hy;obtain ⟨m1,m2,m3⟩:=xM x y h bq.1 bq.2.2.1;have a:=nO (aU x y) c;have b:=ik (aU x y) c;have u:=cO (aU x y);obtain ⟨oc,os⟩:=g1 (aU x y);have n1:=o1m oc m2.1 m2.2;have n2:=o1m os m3.1 m3.2;have n3:=o1m oc m3.1 m3.2;have n4:=o1m os m2.1 m2.2;have uu:=congrArg (·*((x:Rat)*sg c-y*cg c)) u;clear h hx hy bq;unfold Nr at *
 generalize sg (c-aU x y)=S' at *
 generalize cg (c-aU x y)=C' at *
 generalize sg (aU x y)=q at *
 generalize cg (aU x y)=p at *
 generalize sg c=S at *
 generalize cg c=C at *
 generalize alc x y=M at *
 generalize (x:Rat)=x at *
 generalize (y:Rat)=y at *
 have e:=bz;have k1:=Rat.mul_nonneg (show 0<=2*M-(p*x+q*y) by grind) (show 0<=80*ee-(S'-(S*p-C*q)) by grind)
 have k2:=Rat.mul_nonneg (show 0<=2*M-(p*x+q*y) by grind) (show 0<=80*ee+(S'-(S*p-C*q)) by grind)
 have k3:=Rat.mul_nonneg (show 0<=2*M+(p*x+q*y) by grind) (show 0<=80*ee-(S'-(S*p-C*q)) by grind)
 have k4:=Rat.mul_nonneg (show 0<=2*M+(p*x+q*y) by grind) (show 0<=80*ee+(S'-(S*p-C*q)) by grind)
 have l1:=Rat.mul_nonneg (show 0<=2*M-(p*y-q*x) by grind) (show 0<=70*ee-(C'-(C*p+S*q)) by grind)
 have l2:=Rat.mul_nonneg (show 0<=2*M-(p*y-q*x) by grind) (show 0<=70*ee+(C'-(C*p+S*q)) by grind)
 have l3:=Rat.mul_nonneg (show 0<=2*M+(p*y-q*x) by grind) (show 0<=70*ee-(C'-(C*p+S*q)) by grind)
 have l4:=Rat.mul_nonneg (show 0<=2*M+(p*y-q*x) by grind) (show 0<=70*ee+(C'-(C*p+S*q)) by grind)
 have id:x*S-y*C=(p*x+q*y)*(S*p-C*q)-(p*y-q*x)*(C*p+S*q):=by grind
 clear m2 m3 n1 n2 n3 n4 oc os a b u uu
 constructor<;>grind
theorem KJ {A B M S C T c s E e:Rat} (hM:1<=M) (he:0<=e) (he2:e<=1/1000000000000) (hA:1/2*M<=A) (hA2:A<=2*M) (hB:-(e*M)<=B) (hBA:-(e*M)<=A*s-B*c) (hC:-1<=C/\C<=1) (hS:28/100000000<=S) (hT:28/100000000<=T) (hTd:T-e<=S*c-C*s) (hc:0<c/\c<=1) (hs:0<=s) :
 12/100000000*M<=A*S-B*C:=by
 have eM:=Rat.mul_nonneg he (show 0<=M by grind)
 have e1:=Rat.mul_nonneg (show 0<=1/1000000000000-e by grind) (show 0<=M by grind)
 by_cases h:C<=0
 . have k1:=Rat.mul_nonneg (show 0<=A-1/2*M by grind) (show 0<=S by grind)
   have k2:=Rat.mul_nonneg (show 0<=M by grind) (show 0<=S-28/100000000 by grind)
   have k3:=Rat.mul_nonneg (show 0<=B+e*M by grind) (show 0<=-C by grind)
   have k4:=Rat.mul_nonneg eM (show 0<=1+C by grind)
   grind
 . have k1:=Rat.mul_nonneg (show 0<=A*s-B*c+e*M by grind) (show 0<=C by grind)
   have k2:=Rat.mul_nonneg eM (show 0<=1-C by grind)
   have k3:=Rat.mul_nonneg (show 0<=A by grind) (show 0<=S*c-C*s-(T-e) by grind)
   have k4:=Rat.mul_nonneg (show 0<=A-1/2*M by grind) (show 0<=T by grind)
   have k5:=Rat.mul_nonneg (show 0<=M by grind) (show 0<=T-28/100000000 by grind)
   have k6:=Rat.mul_nonneg he (show 0<=2*M-A by grind)
   have tot:13/100000000*M<=c*(A*S-B*C):=by grind
   refine Rat.not_lt.1 fun hh=>?_
   have k7:=Rat.mul_nonneg (Rat.le_of_lt hc.1) (show 0<=12/100000000*M-(A*S-B*C) by grind)
   have k8:=Rat.mul_nonneg (show 0<=1-c by grind) (show 0<=M by grind)
   grind
theorem wG (x y c:Int) (h:¬ (x=0/\y=0)) (hx:iF x) (hy:iF y) (hd:2<=(c-aU x y)%21600000∨kC x y=true/\1<=(c-aU x y)%21600000) (hd2:(c-aU x y)%21600000<=10799999) :
 1/10000000*alc x y<=(x:Rat)*sg c-y*cg c:=by
 have bq:=Alm.ahX x y 2147483648 h hx hy;obtain ⟨m1,m2,m3⟩:=xM x y h bq.1 bq.2.2.1;obtain ⟨f1,f2,f3,f4⟩:=rH x y h hx hy;have t:=DT x y c h hx hy;have t1:=DT x y (aU x y+1) h hx hy;rw [show aU x y+1-aU x y=1 by omega,iB.1,iB.2] at t1
 obtain ⟨p1,p2⟩:=pR (m:=c-aU x y) (n:=(c-aU x y)%21600000) (by omega)
 rw [p1,p2] at t;have sl:=Ex ((c-aU x y)%21600000) (by omega) hd2
 have oC:=(g1 ((c-aU x y)%21600000)).1;have e:=bz;have e0:500*ee<=1/1000000000000:=by unfold ee;decide +kernel
 have eM:=Rat.mul_nonneg (Rat.le_of_lt e) (show 0<=alc x y by grind)
 have eM2:=Rat.mul_nonneg (show 0<=1/1000000000000-500*ee by grind) (show 0<=alc x y by grind)
 obtain ⟨oc,os⟩:=g1 (aU x y);have n1:=o1m oc m2.1 m2.2;have n2:=o1m os m3.1 m3.2;have A2:cg (aU x y)*x+sg (aU x y)*y<=2*alc x y:=by grind
 clear n1 n2 m2 m3 oc os;unfold Nr at t t1
 by_cases q:2<=(c-aU x y)%21600000
 . have st:=nO 1 ((c-aU x y)%21600000);have sl2:=Ex ((c-aU x y)%21600000-1) (by omega) (by omega)
   rw [iB.1,iB.2] at st;unfold Nr at st;have cp:=Om;have sp:=kV;have:=KJ (A:=cg (aU x y)*x+sg (aU x y)*y) (B:=cg (aU x y)*y-sg (aU x y)*x) (M:=alc x y) (S:=sg ((c-aU x y)%21600000)) (C:=cg ((c-aU x y)%21600000)) (T:=sg ((c-aU x y)%21600000-1)) (c:=c1) (s:=s1) (E:=0) (e:=500*ee) m1 (by grind) e0 f4 A2 (by grind) (by clear t st;grind) oC sl sl2 (by clear t t1;grind) ⟨by grind,cp.2⟩ (by grind)
   clear t1 f1 f2 f3 f4 A2 st sl2;grind
 . have ex:kC x y=true:=by
    rcases hd with hd|hd
    . exact absurd hd q
    . exact hd.1
   have b2:=f3 ex;have k1:=o1m oC f1 b2;have k2:=Rat.mul_nonneg (show 0<=cg (aU x y)*x+sg (aU x y)*y-1/2*alc x y by grind) (show 0<=sg ((c-aU x y)%21600000) by grind)
   have k3:=Rat.mul_nonneg (show 0<=alc x y by grind) (show 0<=sg ((c-aU x y)%21600000)-28/100000000 by grind)
   clear t1 f1 f2 f3 A2 b2;generalize (cg (aU x y)*x+sg (aU x y)*y)=A at *
   generalize (cg (aU x y)*y-sg (aU x y)*x)=B at *
   generalize sg ((c-aU x y)%21600000)=S at *
   generalize cg ((c-aU x y)%21600000)=C at *
   generalize alc x y=M at *
   grind
theorem zB (x y c:Int) (h:¬ (x=0/\y=0)) (hx:iF x) (hy:iF y) (hd:10800002<=(c-aU x y)%21600000∨kC x y=true/\10800001<=(c-aU x y)%21600000) :
 (x:Rat)*sg c-y*cg c<=-(1/10000000*alc x y):=by
 have b:10800001<=(c-aU x y)%21600000:=by rcases hd with q|q<;>omega
 have hd':2<=(c+10800000-aU x y)%21600000∨kC x y=true/\1<=(c+10800000-aU x y)%21600000:=by
  rcases hd with q|q
  . exact .inl (by omega)
  . exact .inr ⟨q.1,by omega⟩
 have a:=wG x y (c+10800000) h hx hy hd' (by omega)
 rw [jd,jA] at a;clear hd hd' b;grind
theorem mJ {fx fy xl xh yl yh:Int} {x y:Rat} (hx:(xl:Rat)<=x/\x<=xh) (hy:(yl:Rat)<=y/\y<=yh) (H:∀ px py:Int,(px=xl∨px=xh)->(py=yl∨py=yh)->0<=fx*py-fy*px):0<=(fx:Rat)*y-fy*x:=by
 have H':∀ px py:Int,(px=xl∨px=xh)->(py=yl∨py=yh)->(0:Rat)<=(fx:Rat)*py-fy*px:=fun px py a b=>by
  have:=H px py a b;have c:((0:Int):Rat)<=((fx*py-fy*px:Int):Rat):=Rat.intCast_le_intCast.2 this;rw [Rat.intCast_sub,Rat.intCast_mul,Rat.intCast_mul] at c;exact c
 have a1:=H' xl yl (.inl rfl) (.inl rfl);have a2:=H' xl yh (.inl rfl) (.inr rfl);have a3:=H' xh yl (.inr rfl) (.inl rfl);have a4:=H' xh yh (.inr rfl) (.inr rfl)
 have sx:(0:Rat)<=fx∨(fx:Rat)<=0:=by
  rcases Int.le_total 0 fx with h|h
  . exact .inl (Rat.intCast_le_intCast.2 h)
  . exact .inr (Rat.intCast_le_intCast.2 h)
 have sy:(0:Rat)<=fy∨(fy:Rat)<=0:=by
  rcases Int.le_total 0 fy with h|h
  . exact .inl (Rat.intCast_le_intCast.2 h)
  . exact .inr (Rat.intCast_le_intCast.2 h)
 clear H H'
 generalize (fx:Rat)=fx at *
 generalize (fy:Rat)=fy at *
 generalize (xl:Rat)=xl at *
 generalize (xh:Rat)=xh at *
 generalize (yl:Rat)=yl at *
 generalize (yh:Rat)=yh at *
 have b1:=fun h:0<=fx=>Rat.mul_nonneg h (show 0<=y-yl by grind)
 have b2:=fun h:fx<=0=>Rat.mul_nonneg (show 0<=-fx by grind) (show 0<=yh-y by grind)
 have b3:=fun h:0<=fy=>Rat.mul_nonneg h (show 0<=xh-x by grind)
 have b4:=fun h:fy<=0=>Rat.mul_nonneg (show 0<=-fy by grind) (show 0<=x-xl by grind)
 rcases sx with h|h<;>rcases sy with k|k
 . have:=b1 h;have:=b3 k;grind
 . have:=b1 h;have:=b4 k;grind
 . have:=b2 h;have:=b3 k;grind
 . have:=b2 h;have:=b4 k;grind
theorem mQ (x y:Int) (h:¬ (x=0/\y=0)) (hx:iF x) (hy:iF y):(0<=aU x y/\aU x y<21600000)/\(0<x->aU x y<5400000∨16200000<=aU x y)/\(x<0->5400000<=aU x y/\aU x y<16200000)/\(0<y->aU x y<10800000)/\(y<0->10800000<=aU x y):=by
 have bq:=Alm.ahX x y 2147483648 h hx hy;have H:=JB x y h;have D:=(mW x y h hx hy).1;unfold aU;omega
theorem dA {a b:Int} (h:a<=b):(a:Rat)<=(b:Rat):=Rat.intCast_le_intCast.2 h
theorem Af {r t:Rat} (hr:0<=r) (h:0<r*t):0<t:=by
 refine Rat.not_le.1 fun hh=>?_
 have:=Rat.mul_nonneg hr (show 0<=-t by grind)
 grind
theorem ZI {yl yh xl xh:Int} {r C S:Rat} (ho:¬ (xl<=0/\0<=xh/\yl<=0/\0<=yh)) (oc:O1 C) (os:O1 S) (hr:0<=r)
 (p1:(xl:Rat)-1/40000000<=r*C) (p2:r*C<=(xh:Rat)+1/40000000) (q1:(yl:Rat)-1/40000000<=r*S) (q2:r*S<=(yh:Rat)+1/40000000) :
 9/10<=r/\(0<xl->0<C)/\(xh<0->C<0)/\(0<yl->0<S)/\(yh<0->S<0):=by
 unfold O1 at oc os;have a1:=Rat.mul_nonneg hr (show 0<=1-C by grind)
 have a2:=Rat.mul_nonneg hr (show 0<=1+C by grind)
 have a3:=Rat.mul_nonneg hr (show 0<=1-S by grind)
 have a4:=Rat.mul_nonneg hr (show 0<=1+S by grind)
 have c1:0<xl->(9/10<=r/\0<C):=fun h=>by
  have h:(1:Rat)<=xl:=dA (a:=1) h;clear ho a2 a3 a4 q1 q2 p2 os;exact ⟨by grind,Af hr (by grind)⟩
 have c2:xh<0->(9/10<=r/\C<0):=fun h=>by
  have h:(xh:Rat)<=((-1:Int):Rat):=dA (show xh<=-1 by omega)
  rw [show ((-1:Int):Rat)=-1 from rfl] at h
  clear ho a1 a3 a4 q1 q2 p1 os;have:=Af hr (t:=-C) (by grind)
  exact ⟨by grind,by grind⟩
 have c3:0<yl->(9/10<=r/\0<S):=fun h=>by
  have h:(1:Rat)<=yl:=dA (a:=1) h;clear ho a1 a2 a4 q2 p1 p2 oc;exact ⟨by grind,Af hr (by grind)⟩
 have c4:yh<0->(9/10<=r/\S<0):=fun h=>by
  have h:(yh:Rat)<=((-1:Int):Rat):=dA (show yh<=-1 by omega)
  rw [show ((-1:Int):Rat)=-1 from rfl] at h
  clear ho a1 a2 a3 q1 p1 p2 oc;have:=Af hr (t:=-S) (by grind)
  exact ⟨by grind,by grind⟩
 refine ⟨?_,fun h=>(c1 h).2,fun h=>(c2 h).2,fun h=>(c3 h).2,fun h=>(c4 h).2⟩
 by_cases d1:0<xl
 . exact (c1 d1).1
 . by_cases d2:xh<0
   . exact (c2 d2).1
   . by_cases d3:0<yl
     . exact (c3 d3).1
     . exact (c4 (by omega)).1
theorem aaR {r X Y C S bx by0 M:Rat} (r9:9/10<=r) (M1:1<=M) (cf:0<=X*by0-Y*bx) (nf:-(1/40000000*M)<=X*(r*S-by0)-Y*(r*C-bx)) (a:X*S-Y*C<=-(1/10000000*M)):False:=by
 have b:=Rat.mul_nonneg (show 0<=r by grind) (show 0<=-(1/10000000*M)-(X*S-Y*C) by grind)
 have d:=Rat.mul_nonneg (show 0<=r-9/10 by grind) (show 0<=M by grind)
 grind
theorem Vw {r X Y C S bx by0 M:Rat} (r9:9/10<=r) (M1:1<=M) (cl:0<=-X*by0 - -Y*bx) (nl:X*(r*S-by0)-Y*(r*C-bx)<=1/40000000*M) (a:1/10000000*M<=X*S-Y*C):False:=by
 have b:=Rat.mul_nonneg (show 0<=r by grind) (show 0<=(X*S-Y*C)-1/10000000*M by grind)
 have d:=Rat.mul_nonneg (show 0<=r-9/10 by grind) (show 0<=M by grind)
 grind
theorem Zb {yl yh xl xh a c:Int} (ho:¬ (xl<=0/\0<=xh/\yl<=0/\0<=yh)) (b1:0<xl->0<cg c) (b2:xh<0->cg c<0) (b3:0<yl->0<sg c) (b4:yh<0->sg c<0)
 (s0:0<=a/\a<21600000) (s1:0<xl->a<5400000∨16200000<=a) (s2:xh<0->5400000<=a/\a<16200000) (s3:0<yl->a<10800000) (s4:yh<0->10800000<=a) :
 ¬ ((c-a)%21600000=10800000∨(c-a)%21600000=10800001):=fun h=>by
 have sc:=jd (c-10800000);have cc:=jA (c-10800000);rw [show c-10800000+10800000=c by omega] at sc cc
 by_cases d1:0<xl
 . have a:=fP (c-10800000) (by have:=s1 d1;omega)
   have:=b1 d1;clear ho b1 b2 b3 b4 s0 s1 s2 s3 s4 h;grind
 . by_cases d2:xh<0
   . have a:=rG (c-10800000) (by have:=s2 d2;omega)
     have:=b2 d2;clear ho b1 b2 b3 b4 s0 s1 s2 s3 s4 h;grind
   . by_cases d3:0<yl
     . have a:=kg (c-10800000) (by have:=s3 d3;omega)
       have:=b3 d3;clear ho b1 b2 b3 b4 s0 s1 s2 s3 s4 h;grind
     . have a:=AZ (c-10800000) (by have:=s4 (by omega);omega)
       have:=b4 (by omega)
       clear ho b1 b2 b3 b4 s0 s1 s2 s3 s4 h;grind
theorem ql {yl yh xl xh:Int} (hy:yl<=yh) (hx:xl<=xh) (eo:fK yl yh xl xh=false):∃ f1 f2 l1 l2:Int,
 ((f1=xl∨f1=xh)/\(f2=yl∨f2=yh))/\((l1=xl∨l1=xh)/\(l2=yl∨l2=yh))/\¬ (f1=0/\f2=0)/\¬ (l1=0/\l2=0) /\
 (∀ px py:Int,(px=xl∨px=xh)->(py=yl∨py=yh)->0<=f1*py-f2*px)/\(∀ px py:Int,(px=xl∨px=xh)->(py=yl∨py=yh)->0<=-l1*py - -l2*px)/\0<=crs f1 f2 l1 l2 /\
 aV yl yh xl xh=aU f1 f2/\bI yl yh xl xh=aU f1 f2+gp f1 f2 l1 l2+(if kC l1 l2 then 0 else 1):=by
 have ho:=eo;unfold fK at ho;simp only [decide_eq_false_iff_not] at ho;obtain ⟨u,v,H⟩:=Ou hy hx ho;have fi:=qG xl xh yl yh 4;have li:=uW xl xh yl yh 4
 have cf:∀ px py:Int,(px=xl∨px=xh)->(py=yl∨py=yh)->0<=(aQ xl xh yl yh 4).1*py-(aQ xl xh yl yh 4).2*px:=fun px py h k=>by
  obtain ⟨j,hj,e1,e2⟩:=zu xl xh yl yh _ _ h k;rw [<-e1,<-e2];exact DI H 4 j hj
 have cl:∀ px py:Int,(px=xl∨px=xh)->(py=yl∨py=yh)->0<=-(bA xl xh yl yh 4).1*py - -(bA xl xh yl yh 4).2*px:=fun px py h k=>by
  obtain ⟨j,hj,e1,e2⟩:=zu xl xh yl yh _ _ h k;have:=FN H 4 j hj;rw [e1,e2] at this;unfold crs at this;rw [Int.neg_mul,Int.neg_mul,Int.mul_comm (bA xl xh yl yh 4).1 py,Int.mul_comm (bA xl xh yl yh 4).2 px];omega
 refine ⟨_,_,_,_,fi,li,Us (H _ _ fi.1 fi.2),Us (H _ _ li.1 li.2),cf,cl,cf _ _ li.1 li.2,?_,?_⟩
 . unfold aV;rw [eo];rfl
 . rw [<-aaG];unfold bI;rw [eo];unfold aV;rw [eo];rfl
theorem Mk {A B c:Int} {E:Bool} (s0:0<=A/\A<21600000) (l0:0<=B/\B<21600000) (g2:(B-A)%21600000<=10800000) (nr:¬ 10800002<=(c-A)%21600000)
 (nl:¬ ((2<=(c-B)%21600000∨E=true/\1<=(c-B)%21600000)/\(c-B)%21600000<=10799999)) (op:¬ ((c-A)%21600000=10800000∨(c-A)%21600000=10800001)) :
 (c-A)%21600000<=A+(B-A)%21600000+(if E=true then 0 else 1)-A:=by
 cases E
 . simp only [Bool.false_eq_true,if_false,false_and,or_false] at nl ⊢
   omega
 . simp only [if_true,true_and] at nl ⊢
   omega
theorem fQ {xl xh f:Int} (h:f=xl∨f=xh) (h0:xl<=xh) (h2:-2147483648<=xl/\xh<=2147483648):iF f:=by unfold iF;omega
theorem bear_holds {yl yh xl xh c:Int} {r:Rat} (hy:yl<=yh) (hx:xl<=xh) (hy2:-2147483648<=yl/\yh<=2147483648) (hx2:-2147483648<=xl/\xh<=2147483648) (eo:fK yl yh xl xh=false) (hr:0<=r)
 (p1:(xl:Rat)-1/40000000<=r*cg c) (p2:r*cg c<=(xh:Rat)+1/40000000) (q1:(yl:Rat)-1/40000000<=r*sg c) (q2:r*sg c<=(yh:Rat)+1/40000000) :
 (c-aV yl yh xl xh)%21600000<=bI yl yh xl xh-aV yl yh xl xh:=by
 obtain ⟨f1,f2,g1',g2',fi,li,nf0,nl0,cf0,cl0,cfl,eL,eH⟩:=ql hy hx eo;rw [eL,eH];clear eL eH;have ho:¬ (xl<=0/\0<=xh/\yl<=0/\0<=yh):=of_decide_eq_false eo;obtain ⟨bx0,k1,k2,k3,k4⟩:=jV (dA hx) p1 p2 (by decide +kernel)
 obtain ⟨by0,l1,l2,l3,l4⟩:=jV (dA hy) q1 q2 (by decide +kernel)
 obtain ⟨r9,b1,b2,b3,b4⟩:=ZI ho (g1 c).1 (g1 c).2 hr p1 p2 q1 q2;have F1:=fQ fi.1 hx hx2;have F2:=fQ fi.2 hy hy2;have L1:=fQ li.1 hx hx2;have L2:=fQ li.2 hy hy2;have bf:=Alm.ahX _ _ 2147483648 nf0 F1 F2;have bl:=Alm.ahX _ _ 2147483648 nl0 L1 L2;have mf:=(xM _ _ nf0 bf.1 bf.2.2.1).1;have ml:=(xM _ _ nl0 bl.1 bl.2.2.1).1;have cf:=mJ (fx:=f1) (fy:=f2) ⟨k1,k2⟩ ⟨l1,l2⟩ cf0;have cl:=mJ (fx:=-g1') (fy:=-g2') ⟨k1,k2⟩ ⟨l1,l2⟩ cl0;rw [Rat.intCast_neg,Rat.intCast_neg] at cl;have nf:=(AA _ _ nf0 bf.1 bf.2.2.1 (u:=r*cg c-bx0) (v:=r*sg c-by0) (t:=1/40000000) k3 k4 l3 l4).1;have nl:=(AA _ _ nl0 bl.1 bl.2.2.1 (u:=r*cg c-bx0) (v:=r*sg c-by0) (t:=1/40000000) k3 k4 l3 l4).2;have sf:=mQ _ _ nf0 F1 F2;have sl:=mQ _ _ nl0 L1 L2;have gb:=Me nf0 nl0 cfl F1 F2 L1 L2;refine Mk sf.1 sl.1 gb.2.1 (fun h=>aaR r9 mf cf nf (zB _ _ c nf0 F1 F2 (.inl h))) (fun h=>Vw r9 ml cl nl (wG _ _ c nl0 L1 L2 h.1 h.2)) ?_
 clear cfl bf bl gb sl nf nl cf cl cf0 cl0 mf ml li k1 k2 k3 k4 l1 l2 l3 l4 p1 p2 q1 q2 hy2 hx2 r9 hr F1 F2 L1 L2 nl0 nf0 eo;exact Zb (a:=aU f1 f2) ho b1 b2 b3 b4 sf.1 (fun h=>sf.2.1 (by clear sf b1 b2 b3 b4 ho;omega)) (fun h=>sf.2.2.1 (by clear sf b1 b2 b3 b4 ho;omega)) (fun h=>sf.2.2.2.1 (by clear sf b1 b2 b3 b4 ho;omega)) (fun h=>sf.2.2.2.2 (by clear sf b1 b2 b3 b4 ho;omega))
