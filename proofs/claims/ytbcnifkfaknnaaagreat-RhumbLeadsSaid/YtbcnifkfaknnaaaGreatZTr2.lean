/- The arc of the directions of a box holds the angle of a point near it. -/
import Derived.Test.YtbcnifkfaknnaaaGreatZSgn
import Derived.Test.YtbcnifkfaknnaaaGreatZBin
set_option linter.unusedVariables false
set_option linter.unusedSimpArgs false
namespace Go.Proofs.YtbcnifkfaknnaaaGreat
open Alm Sx
theorem EQ (k:Nat):0<=tS k:=by
 unfold tS;split
 . exact zs_pos k (by omega)
 . have:=dG (5400000-k) (by omega);grind
theorem E5 (k:Nat):0<=tC k:=by
 unfold tC;split
 . have:=dG k (by omega);grind
 . exact zs_pos (5400000-k) (by omega)
theorem FD (n:Int) (h:n%21600000<=10800000):0<=sg n:=by
 have s:bu n=false:=by unfold bu aj;rw [decide_eq_false_iff_not];omega
 unfold sg;rw [s,if_neg (by simp)];exact EQ _
theorem EC (n:Int) (h:10800000<=n%21600000∨n%21600000=0):sg n<=0:=by
 by_cases z:10800000<n%21600000
 . have s:bu n=true:=by unfold bu aj;rw [decide_eq_true_eq];exact z
   have:=EQ (aI n).toNat;unfold sg;rw [s,if_pos rfl];grind
 . have f:aI n=0:=by
    unfold aI aj;simp only []
    (repeat' split)<;>omega
   have s:bu n=false:=by unfold bu aj;rw [decide_eq_false_iff_not];exact z
   unfold sg;rw [s,f,if_neg (by simp)];rw [show (0:Int).toNat=0 from rfl,Ar];exact Rat.le_refl
theorem zY (n:Int) (h:n%21600000<=5400000∨16200000<=n%21600000):0<=cg n:=by
 have s:bu (n+5400000)=false:=by unfold bu aj;rw [decide_eq_false_iff_not];omega
 unfold cg;rw [s,if_neg (by simp)];exact E5 _
theorem Fa (n:Int) (h:5400000<=n%21600000/\n%21600000<=16200000):cg n<=0:=by
 by_cases z:10800000<(n+5400000)%21600000
 . have s:bu (n+5400000)=true:=by unfold bu aj;rw [decide_eq_true_eq];exact z
   have:=E5 (aI n).toNat;unfold cg;rw [s,if_pos rfl];grind
 . have f:aI n=5400000:=by
    unfold aI aj;simp only []
    (repeat' split)<;>omega
   have s:bu (n+5400000)=false:=by unfold bu aj;rw [decide_eq_false_iff_not];exact z
   unfold cg;rw [s,f,if_neg (by simp)];rw [show (5400000:Int).toNat=5400000 from rfl,nU];exact Rat.le_refl
theorem ma (n:Int):cg (n+10800000)=-cg n:=by
 have f1:=fo n;have f2:=fo (n+5400000);rw [show n+5400000+5400000=n+10800000 by omega] at f2
 have f:aI (n+10800000)=aI n:=by omega
 by_cases z:aI n=5400000
 . unfold cg;rw [f,z,show (5400000:Int).toNat=5400000 from rfl,nU]
   split<;>split<;>grind
 . have s:bu (n+10800000+5400000)=!bu (n+5400000):=by
    have zz:(n+5400000)%21600000≠0/\(n+5400000)%21600000≠10800000:=by
     unfold aI aj at z;simp only [] at z
     (repeat' split at z)<;>omega
    unfold bu aj;rw [Bool.eq_iff_iff];simp only [decide_eq_true_eq,Bool.not_eq_true',decide_eq_false_iff_not];omega
   unfold cg;rw [f,s];cases bu (n+5400000)<;>simp<;>grind
theorem uI (k:Nat) (h:k<=5400000):sg (k:Int)=tS k/\cg (k:Int)=tC k:=by
 obtain ⟨a,b⟩:=qo k (by omega) (by omega)
 have c:bu ((k:Int)+5400000)=false:=by unfold bu aj;rw [decide_eq_false_iff_not];omega
 unfold sg cg;rw [a,b,c,if_neg (by simp),if_neg (by simp),Int.toNat_natCast]
 exact ⟨rfl,rfl⟩
theorem zs1:zs 1=s1/\zc 1=c1:=by
 have a:=bZ 0;have b:=bX 0;rw [dP,fE] at a b
 constructor<;>grind
theorem iA:sg 1=s1/\cg 1=c1:=by
 have h:=uI 1 (by omega)
 have a:tS 1=zs 1:=by unfold tS;rw [if_pos (by omega)]
 have b:tC 1=zc 1:=by unfold tC;rw [if_pos (by omega)]
 rw [a,b,zs1.1,zs1.2] at h;exact h
theorem VR (n:Int) (h:0<n) (h1:n<10800000):sg n=sg (10800000-n):=by
 have f:aI n=aI (10800000-n):=by
  unfold aI aj;simp only []
  (repeat' split)<;>omega
 have s1:bu n=false:=by unfold bu aj;rw [decide_eq_false_iff_not];omega
 have s2:bu (10800000-n)=false:=by unfold bu aj;rw [decide_eq_false_iff_not];omega
 unfold sg;rw [f,s1,s2]
theorem Fs (n:Int) (h:1<=n) (h1:n<=10799999):28/100000000<=sg n:=by
 have key:∀ m:Int,1<=m->m<=5400000->28/100000000<=sg m:=fun m a b=>by
  have s:=s1_low;have o:=iA.1;have e:=dm
  by_cases q:m=1
  . subst q;grind
  . have:=Vz 1 m (by omega) (by omega) b
    clear a b q h h1;grind
 by_cases q:n<=5400000
 . exact key n h q
 . rw [VR n (by omega) (by omega)]
   exact key _ (by omega) (by omega)
theorem o1m {x a e:Rat} (hx:O1 x) (h1:-e<=a) (h2:a<=e):-e<=x*a/\x*a<=e:=by
 unfold O1 at hx;have k1:=Rat.mul_nonneg (show 0<=1-x by grind) (show 0<=e-a by grind)
 have k2:=Rat.mul_nonneg (show 0<=1-x by grind) (show 0<=e+a by grind)
 have k3:=Rat.mul_nonneg (show 0<=1+x by grind) (show 0<=e-a by grind)
 have k4:=Rat.mul_nonneg (show 0<=1+x by grind) (show 0<=e+a by grind)
 constructor<;>grind
theorem AC (k:Int):Nr (sg (k+1)) (cg k*s1+sg k*c1) (150*ee)/\Nr (cg (k+1)) (cg k*c1-sg k*s1) (150*ee):=by
 have a:=Ay k (k+1);have b:=zS k (k+1);rw [show k+1-k=1 by omega] at a b
 rw [iA.1] at a;rw [iA.2] at b;have u:=jw k;obtain ⟨oc,os⟩:=g1 k;unfold Nr at a b;have m1:=o1m oc a.1 a.2;have m2:=o1m os b.1 b.2;have m3:=o1m oc b.1 b.2;have m4:=o1m os a.1 a.2;have us:=congrArg (·*sg (k+1)) u;have uc:=congrArg (·*cg (k+1)) u;unfold Nr;generalize sg (k+1)=S' at *
 generalize cg (k+1)=C' at *
 generalize sg k=S at *
 generalize cg k=C at *
 clear a b oc os u;refine ⟨⟨by grind,by grind⟩,⟨by grind,by grind⟩⟩
theorem BQ {u u' v v' X Y e:Rat} (hu:Nr u u' e) (hv:Nr v v' e) (hX:0<=X) (hY:0<=Y):Nr (u*X+v*Y) (u'*X+v'*Y) (e*(X+Y)):=by
 unfold Nr at *
 have a:=Rat.mul_nonneg hX (show 0<=e-(u-u') by grind)
 have b:=Rat.mul_nonneg hX (show 0<=e+(u-u') by grind)
 have c:=Rat.mul_nonneg hY (show 0<=e-(v-v') by grind)
 have d:=Rat.mul_nonneg hY (show 0<=e+(v-v') by grind)
 constructor<;>grind
theorem WR (k:Nat) (h:k<=5400000):(Nr (cg (5400000+k)) (-tS k) (3*ee)/\Nr (sg (5400000+k)) (tC k) (3*ee))/\(Nr (cg (10800000+k)) (-tC k) (3*ee)/\Nr (sg (10800000+k)) (-tS k) (3*ee))/\(Nr (cg (16200000+k)) (tS k) (3*ee)/\Nr (sg (16200000+k)) (-tC k) (3*ee)):=by
 have e:=dm;obtain ⟨s0,c0⟩:=uI k h;have q1:=uL k;rw [show (k:Int)+5400000=5400000+k by omega,s0,c0] at q1
 have h2:=jS k;have h2':=ma k;rw [show (k:Int)+10800000=10800000+k by omega,s0] at h2
 rw [show (k:Int)+10800000=10800000+k by omega,c0] at h2'
 have h3:=jS (5400000+k);have h3':=ma (5400000+k);rw [show (5400000:Int)+k+10800000=16200000+k by omega] at h3 h3'
 refine ⟨⟨q1.2.le (by grind),q1.1.le (by grind)⟩,⟨?_,?_⟩,⟨?_,?_⟩⟩
 . rw [h2'];exact (Nr.refl _).le (by grind)
 . rw [h2];exact (Nr.refl _).le (by grind)
 . rw [h3'];have:=q1.2.neg;rw [Rat.neg_neg] at this;exact this.le (by grind)
 . rw [h3];exact q1.1.neg.le (by grind)
def MM (x y:Int):Rat:=(qX x y:Rat)+qY x y
theorem yA (x y:Int) (h:¬ (x=0/\y=0)) (k:Nat) (hk:k<=5400000) (hX:0<qX x y) (hY:0<=qY x y) :
 Nr (cg (qT x y+k)*y-sg (qT x y+k)*x) (tC k*qY x y-tS k*qX x y) (3*ee*MM x y)/\Nr (cg (qT x y+k)*x+sg (qT x y+k)*y) (tC k*qX x y+tS k*qY x y) (3*ee*MM x y):=by
 have e:=dm;have H:=EW x y h;obtain ⟨Q1,Q2,Q3⟩:=WR k hk;obtain ⟨s0,c0⟩:=uI k hk;have pX:(0:Rat)<=(qX x y:Rat):=Rat.intCast_le_intCast.2 (Int.le_of_lt hX);have pY:(0:Rat)<=(qY x y:Rat):=Rat.intCast_le_intCast.2 hY;unfold MM;have nz:Nr (tC k) (tC k) (3*ee)/\Nr (tS k) (tS k) (3*ee):=⟨(Nr.refl _).le (by grind),(Nr.refl _).le (by grind)⟩
 generalize qX x y=X at *
 generalize qY x y=Y at *
 generalize qT x y=t at *
 rcases H with ⟨rfl,rfl,rfl⟩|⟨rfl,rfl,rfl⟩|⟨rfl,rfl,rfl⟩|⟨rfl,rfl,rfl⟩
 . rw [Int.zero_add,s0,c0];have a:=BQ nz.2.neg nz.1 pX pY;have b:=BQ nz.1 nz.2 pX pY;unfold Nr at *
   constructor<;>constructor<;>grind
 . rw [Rat.intCast_neg];have a:=BQ Q1.1 Q1.2 pX pY;have b:=BQ Q1.2 Q1.1.neg pX pY;unfold Nr at *
   constructor<;>constructor<;>grind
 . rw [Rat.intCast_neg,Rat.intCast_neg];have a:=BQ Q2.2 Q2.1.neg pX pY;have b:=BQ Q2.1.neg Q2.2.neg pX pY;unfold Nr at *
   constructor<;>constructor<;>grind
 . rw [Rat.intCast_neg];have a:=BQ Q3.1.neg Q3.2.neg pX pY;have b:=BQ Q3.2.neg Q3.1 pX pY;unfold Nr at *
   constructor<;>constructor<;>grind
theorem OW {x y:Int} {L:Nat} (hx:0<x/\x<=2147483648) (hy:0<=y/\y<=2147483648) (h:vY x y L) :
 (x:Rat)*tS L-y*tC L<=ee*((x:Rat)+y)/\-(ee*((x:Rat)+y))<=(x:Rat)*tS (L+1)-y*tC (L+1):=by
 obtain ⟨h0,h1,h2⟩:=h;have e:∀ k,frm x y k=(x:Rat)*tS k-y*tC k:=fun k=>by unfold frm tS tC;split<;>rfl
 have bx:=qE (Int.le_of_lt hx.1) hx.2;have by':=qE hy.1 hy.2
 have ep:=dm;have mm:=jb;have d:=pJ;have kx:=Rat.mul_nonneg (Rat.le_of_lt ep) bx.1;have ky:=Rat.mul_nonneg (Rat.le_of_lt ep) by'.1
 have z:=dG 2700000 (by omega)
 have tm:∀ k:Nat,k=2700000->tS k=zs 2700000/\tC k=zc 2700000:=fun k q=>by
  subst q;unfold tS tC;rw [if_pos (Nat.le_refl _),if_pos (Nat.le_refl _)];exact ⟨rfl,rfl⟩
 unfold past at h1 h2
 constructor
 . by_cases q:L=2700000
   . rw [if_pos q] at h1;have hxy:(x:Rat)<=y:=Rat.intCast_le_intCast.2 (by omega)
     rw [(tm L q).1,(tm L q).2];clear tm h0 h1 h2 hx hy q e;generalize zs 2700000=s at *
     generalize zc 2700000=c at *
     have k1:=Rat.mul_nonneg bx.1 (show 0<=1/4*ee-(s-c) by grind)
     have k2:=Rat.mul_nonneg (show 0<=(y:Rat)-x by grind) (show 0<=c by grind)
     grind
   . rw [if_neg q,e] at h1;have:=Rat.not_lt.1 h1;clear tm h0 h1 h2 hx hy q e mm z;grind
 . by_cases q:L+1=2700000
   . rw [if_pos q] at h2;have hxy:(y:Rat)<=x:=Rat.intCast_le_intCast.2 (by omega)
     rw [(tm _ q).1,(tm _ q).2];clear tm h0 h1 h2 hx hy q e;generalize zs 2700000=s at *
     generalize zc 2700000=c at *
     have k1:=Rat.mul_nonneg bx.1 (show 0<=1/4*ee+(s-c) by grind)
     have k2:=Rat.mul_nonneg (show 0<=(x:Rat)-y by grind) (show 0<=c by grind)
     grind
   . rw [if_neg q,e] at h2;clear tm h0 h1 hx hy q e mm z;grind
theorem TU (k:Nat):tC k*tC k+tS k*tS k=1:=by
 unfold tC tS;split
 . exact jk k
 . have:=jk (5400000-k);grind
theorem yu (x y:Int) (h:¬ (x=0/\y=0)) (hX:0<qX x y) (hY:0<=qY x y):1<=MM x y/\(-(MM x y)<=(x:Rat)/\(x:Rat)<=MM x y)/\(-(MM x y)<=(y:Rat)/\(y:Rat)<=MM x y):=by
 have H:=EW x y h;have pX:(1:Rat)<=(qX x y:Rat):=Rat.intCast_le_intCast.2 hX;have pY:(0:Rat)<=(qY x y:Rat):=Rat.intCast_le_intCast.2 hY;unfold MM;generalize qX x y=X at *
 generalize qY x y=Y at *
 generalize qT x y=t at *
 rcases H with ⟨rfl,rfl,rfl⟩|⟨rfl,rfl,rfl⟩|⟨rfl,rfl,rfl⟩|⟨rfl,rfl,rfl⟩
 all_goals
  try simp only [Rat.intCast_neg]
  refine ⟨?_,⟨?_,?_⟩,?_,?_⟩<;>grind
theorem NW (x y:Int) (h:¬ (x=0/\y=0)) (hX:0<qX x y) (hY:0<=qY x y) {u v t:Rat} (u1:-t<=u) (u2:u<=t) (v1:-t<=v) (v2:v<=t):-(t*MM x y)<=(x:Rat)*v-y*u/\(x:Rat)*v-y*u<=t*MM x y:=by
 have H:=EW x y h;have pX:(0:Rat)<=(qX x y:Rat):=Rat.intCast_le_intCast.2 (Int.le_of_lt hX);have pY:(0:Rat)<=(qY x y:Rat):=Rat.intCast_le_intCast.2 hY;unfold MM;have a1:=Rat.mul_nonneg pX (show 0<=t-u by grind)
 have a2:=Rat.mul_nonneg pX (show 0<=t+u by grind)
 have a3:=Rat.mul_nonneg pX (show 0<=t-v by grind)
 have a4:=Rat.mul_nonneg pX (show 0<=t+v by grind)
 have b1:=Rat.mul_nonneg pY (show 0<=t-u by grind)
 have b2:=Rat.mul_nonneg pY (show 0<=t+u by grind)
 have b3:=Rat.mul_nonneg pY (show 0<=t-v by grind)
 have b4:=Rat.mul_nonneg pY (show 0<=t+v by grind)
 generalize qX x y=X at *
 generalize qY x y=Y at *
 generalize qT x y=r at *
 rcases H with ⟨rfl,rfl,rfl⟩|⟨rfl,rfl,rfl⟩|⟨rfl,rfl,rfl⟩|⟨rfl,rfl,rfl⟩
 all_goals
  try simp only [Rat.intCast_neg]
  constructor<;>grind
theorem Lj {X Y p s e M:Rat} (hX:0<=X) (hY:0<=Y) (hM1:0<M) (hM:M=X+Y) (hp:0<=p/\p<=1) (hs:0<=s/\s<=1) (u:p*p+s*s=1) (he:0<=e) (he2:e<=1/1000000) (c1:X*s-Y*p<=e*M) (c2:-(e*M)<=X*s-Y*p):3/5*M<=p*X+s*Y:=by
 have hMn:0<=M:=by grind
 have k1:=Rat.mul_nonneg hs.1 (show 0<=e*M-(X*s-Y*p) by grind)
 have k2:=Rat.mul_nonneg hp.1 (show 0<=X*s-Y*p+e*M by grind)
 have ux:=congrArg (·*X) u;have uy:=congrArg (·*Y) u;have e1:X-s*(e*M)<=p*(p*X+s*Y):=by grind
 have e2:Y-p*(e*M)<=s*(p*X+s*Y):=by grind
 have eM:=Rat.mul_nonneg he hMn;have k3:=Rat.mul_nonneg (show 0<=1-s by grind) eM
 have k4:=Rat.mul_nonneg (show 0<=1-p by grind) eM
 have k5:=Rat.mul_nonneg (show 0<=1/1000000-e by grind) hMn
 have tot:99/100*M<=(p+s)*(p*X+s*Y):=by grind
 have sm:p+s<=3/2:=by
  refine Rat.not_lt.1 fun hh=>?_
  have:=Rat.mul_pos (show 0<p+s-3/2 by grind) (show 0<p+s+3/2 by grind)
  have q:=Rat.mul_nonneg (show 0<=1-p by grind) (show 0<=1-s by grind)
  have d:=iV (p-s);grind
 generalize p*X+s*Y=D at *
 refine Rat.not_lt.1 fun hh=>?_
 by_cases dn:0<=D
 . have:=Rat.mul_nonneg (show 0<=3/2-(p+s) by grind) dn
   grind
 . have:=Rat.mul_nonneg (show 0<=p+s by grind) (show 0<=-D by grind)
   grind
theorem mq (x y:Int) (h:¬ (x=0/\y=0)) (hx:bU x) (hy:bU y) :
 -(8*ee*MM x y)<=cg (aG x y)*y-sg (aG x y)*x/\cg (aG x y+1)*y-sg (aG x y+1)*x<=8*ee*MM x y/\(fG x y=true->cg (aG x y)*y-sg (aG x y)*x<=8*ee*MM x y)/\1/2*MM x y<=cg (aG x y)*x+sg (aG x y)*y:=by
 have bq:=Alm.q_bd x y 2147483648 h hx hy;have D:=iL x y h hx hy;have F:=OW ⟨bq.1,bq.2.1⟩ ⟨bq.2.2.1,bq.2.2.2⟩ D;have N0:=yA x y h (bQ x y) (by have:=D.1;omega) bq.1 bq.2.2.1
 have N1:=yA x y h (bQ x y+1) (by have:=D.1;omega) bq.1 bq.2.2.1
 have pX:(0:Rat)<=(qX x y:Rat):=Rat.intCast_le_intCast.2 (Int.le_of_lt bq.1);have pY:(0:Rat)<=(qY x y:Rat):=Rat.intCast_le_intCast.2 bq.2.2.1;have m1:=(yu x y h bq.1 bq.2.2.1).1;have e:=dm;have ev:aG x y+1=qT x y+((bQ x y+1:Nat):Int):=by unfold aG;omega
 have eM:MM x y=(qX x y:Rat)+qY x y:=rfl;have em:=Rat.mul_nonneg (Rat.le_of_lt e) (show 0<=MM x y by grind)
 rw [<-eM] at F
 have ex:fG x y=true->tC (bQ x y)*qY x y-tS (bQ x y)*qX x y<=ee*MM x y:=fun q=>by
  unfold fG at q;rw [Bool.or_eq_true,Bool.and_eq_true,Bool.and_eq_true] at q;simp only [decide_eq_true_eq] at q;rcases q with ⟨q1,q2⟩|⟨q1,q2⟩
  . rw [q1,q2,Ar,show ((0:Int):Rat)=0 from rfl];grind
  . have tm:∀ k:Nat,k=2700000->tS k=zs k/\tC k=zc k:=fun k q=>by unfold tS tC;rw [if_pos (by omega),if_pos (by omega)];exact ⟨rfl,rfl⟩
    have mm:∀ k:Nat,k=2700000->-(4*bM)<=zs k-zc k/\zs k-zc k<=4*bM:=fun k q=>by subst q;exact jb
    have mm:=mm _ q1;have d:=pJ;rw [(tm _ q1).1,(tm _ q1).2,<-q2];have pM:(qX x y:Rat)<=MM x y:=by grind
    have k:=Rat.mul_nonneg pX (show 0<=ee+(zs (bQ x y)-zc (bQ x y)) by clear N0 N1 F D tm pX pY m1 em pM;grind)
    have k2:=Rat.mul_nonneg (Rat.le_of_lt e) (show 0<=MM x y-qX x y by grind)
    clear N0 N1 F D tm;generalize zs (bQ x y)=s at *
    generalize zc (bQ x y)=c at *
    grind
 rw [ev];have ev0:aG x y=qT x y+((bQ x y:Nat):Int):=rfl;rw [ev0];have o:=t1 (bQ x y);have on:=EQ (bQ x y);have oc:=E5 (bQ x y);have u:=TU (bQ x y)
 have step:-(1/1000000*MM x y)<=(qX x y:Rat)*tS (bQ x y)-qY x y*tC (bQ x y):=by
  have st:tS (bQ x y+1)<=tS (bQ x y)+9/10000000/\tC (bQ x y)<=tC (bQ x y+1)+9/10000000:=by
   obtain ⟨a0,a1⟩:=uI (bQ x y) (by have:=D.1;omega)
   obtain ⟨b0,b1⟩:=uI (bQ x y+1) (by have:=D.1;omega)
   obtain ⟨r1,r2⟩:=AC (bQ x y);rw [show ((bQ x y:Nat):Int)+1=((bQ x y+1:Nat):Int) by omega,a0,a1] at r1 r2
   rw [b0] at r1;rw [b1] at r2;have sh:=tZ;have sl:=s1_low;have cd:=lL;have e0:150*ee<=1/10000000:=by unfold ee;decide +kernel
   unfold Nr at r1 r2;have w1:=Rat.mul_nonneg on (show 0<=1-c1 by grind)
   have w2:=Rat.mul_nonneg oc (show 0<=1-c1 by grind)
   have w3:=Rat.mul_nonneg (show 0<=1-tC (bQ x y) by have:=o.1.2;grind) (show 0<=s1 by grind)
   have w4:=Rat.mul_nonneg (show 0<=1-tS (bQ x y) by have:=o.2.2;grind) (show 0<=s1 by grind)
   have w5:=Rat.mul_nonneg (show 0<=1-tC (bQ x y) by have:=o.1.2;grind) (show 0<=1-c1 by grind)
   clear N0 N1 F D ex ev ev0 a0 a1 b0 b1;generalize tS (bQ x y)=S0 at *
   generalize tC (bQ x y)=C0 at *
   generalize tS (bQ x y+1)=S1 at *
   generalize tC (bQ x y+1)=C1 at *
   constructor<;>grind
  have k1:=Rat.mul_nonneg pX (show 0<=tS (bQ x y)+9/10000000-tS (bQ x y+1) by grind)
  have k2:=Rat.mul_nonneg pY (show 0<=tC (bQ x y+1)+9/10000000-tC (bQ x y) by grind)
  have e0:ee<=1/100000000:=by unfold ee;decide +kernel
  have k3:=Rat.mul_nonneg (show 0<=1/100000000-ee by grind) (show 0<=MM x y by grind)
  clear N0 N1 ex ev ev0 o on oc u;grind
 have dt:=Lj (e:=1/1000000) (M:=MM x y) pX pY (by grind) eM ⟨oc,o.1.2⟩ ⟨on,o.2.2⟩ u (by decide +kernel) (Rat.le_refl) (by
  have e0:ee<=1/1000000:=by unfold ee;decide +kernel
  have k3:=Rat.mul_nonneg (show 0<=1/1000000-ee by grind) (show 0<=MM x y by grind)
  grind) step
 have e0:ee<=1/1000000:=by unfold ee;decide +kernel
 have k3:=Rat.mul_nonneg (show 0<=1/1000000-ee by grind) (show 0<=MM x y by grind)
 clear ev ev0 eM step u o on oc D bq;unfold Nr at N0 N1;generalize tS (bQ x y)=S0 at *
 generalize tC (bQ x y)=C0 at *
 generalize tS (bQ x y+1)=S1 at *
 generalize tC (bQ x y+1)=C1 at *
 generalize cg (qT x y+((bQ x y:Nat):Int))=g0 at *
 generalize sg (qT x y+((bQ x y:Nat):Int))=h0 at *
 generalize cg (qT x y+((bQ x y+1:Nat):Int))=g1 at *
 generalize sg (qT x y+((bQ x y+1:Nat):Int))=h1 at *
 generalize MM x y=M at *
 refine ⟨by grind,by grind,fun q=>?_,by grind⟩
 have:=ex q;grind
theorem Cy (x y c:Int) (h:¬ (x=0/\y=0)) (hx:bU x) (hy:bU y) :
 Nr ((x:Rat)*sg c-y*cg c) ((cg (aG x y)*x+sg (aG x y)*y)*sg (c-aG x y)-(cg (aG x y)*y-sg (aG x y)*x)*cg (c-aG x y)) (300*ee*MM x y):=by
 have bq:=Alm.q_bd x y 2147483648 h hx hy;obtain ⟨m1,m2,m3⟩:=yu x y h bq.1 bq.2.2.1;have a:=Ay (aG x y) c;have b:=zS (aG x y) c;have u:=jw (aG x y);obtain ⟨oc,os⟩:=g1 (aG x y);have n1:=o1m oc m2.1 m2.2;have n2:=o1m os m3.1 m3.2;have n3:=o1m oc m3.1 m3.2;have n4:=o1m os m2.1 m2.2;have uu:=congrArg (·*((x:Rat)*sg c-y*cg c)) u;clear h hx hy bq;unfold Nr at *
 generalize sg (c-aG x y)=S' at *
 generalize cg (c-aG x y)=C' at *
 generalize sg (aG x y)=q at *
 generalize cg (aG x y)=p at *
 generalize sg c=S at *
 generalize cg c=C at *
 generalize MM x y=M at *
 generalize (x:Rat)=x at *
 generalize (y:Rat)=y at *
 have e:=dm;have k1:=Rat.mul_nonneg (show 0<=2*M-(p*x+q*y) by grind) (show 0<=80*ee-(S'-(S*p-C*q)) by grind)
 have k2:=Rat.mul_nonneg (show 0<=2*M-(p*x+q*y) by grind) (show 0<=80*ee+(S'-(S*p-C*q)) by grind)
 have k3:=Rat.mul_nonneg (show 0<=2*M+(p*x+q*y) by grind) (show 0<=80*ee-(S'-(S*p-C*q)) by grind)
 have k4:=Rat.mul_nonneg (show 0<=2*M+(p*x+q*y) by grind) (show 0<=80*ee+(S'-(S*p-C*q)) by grind)
 have l1:=Rat.mul_nonneg (show 0<=2*M-(p*y-q*x) by grind) (show 0<=70*ee-(C'-(C*p+S*q)) by grind)
 have l2:=Rat.mul_nonneg (show 0<=2*M-(p*y-q*x) by grind) (show 0<=70*ee+(C'-(C*p+S*q)) by grind)
 have l3:=Rat.mul_nonneg (show 0<=2*M+(p*y-q*x) by grind) (show 0<=70*ee-(C'-(C*p+S*q)) by grind)
 have l4:=Rat.mul_nonneg (show 0<=2*M+(p*y-q*x) by grind) (show 0<=70*ee+(C'-(C*p+S*q)) by grind)
 have id:x*S-y*C=(p*x+q*y)*(S*p-C*q)-(p*y-q*x)*(C*p+S*q):=by grind
 clear m2 m3 n1 n2 n3 n4 oc os a b u uu
 constructor<;>grind
theorem Jg {A B M S C T c s E e:Rat} (hM:1<=M) (he:0<=e) (he2:e<=1/1000000000000) (hA:1/2*M<=A) (hA2:A<=2*M) (hB:-(e*M)<=B) (hBA:-(e*M)<=A*s-B*c) (hC:-1<=C/\C<=1) (hS:28/100000000<=S) (hT:28/100000000<=T) (hTd:T-e<=S*c-C*s) (hc:0<c/\c<=1) (hs:0<=s) :
 12/100000000*M<=A*S-B*C:=by
 have eM:=Rat.mul_nonneg he (show 0<=M by grind)
 have e1:=Rat.mul_nonneg (show 0<=1/1000000000000-e by grind) (show 0<=M by grind)
 by_cases h:C<=0
 . have k1:=Rat.mul_nonneg (show 0<=A-1/2*M by grind) (show 0<=S by grind)
   have k2:=Rat.mul_nonneg (show 0<=M by grind) (show 0<=S-28/100000000 by grind)
   have k3:=Rat.mul_nonneg (show 0<=B+e*M by grind) (show 0<=-C by grind)
   have k4:=Rat.mul_nonneg eM (show 0<=1+C by grind)
   grind
 . have k1:=Rat.mul_nonneg (show 0<=A*s-B*c+e*M by grind) (show 0<=C by grind)
   have k2:=Rat.mul_nonneg eM (show 0<=1-C by grind)
   have k3:=Rat.mul_nonneg (show 0<=A by grind) (show 0<=S*c-C*s-(T-e) by grind)
   have k4:=Rat.mul_nonneg (show 0<=A-1/2*M by grind) (show 0<=T by grind)
   have k5:=Rat.mul_nonneg (show 0<=M by grind) (show 0<=T-28/100000000 by grind)
   have k6:=Rat.mul_nonneg he (show 0<=2*M-A by grind)
   have tot:13/100000000*M<=c*(A*S-B*C):=by grind
   refine Rat.not_lt.1 fun hh=>?_
   have k7:=Rat.mul_nonneg (Rat.le_of_lt hc.1) (show 0<=12/100000000*M-(A*S-B*C) by grind)
   have k8:=Rat.mul_nonneg (show 0<=1-c by grind) (show 0<=M by grind)
   grind
theorem Bw (x y c:Int) (h:¬ (x=0/\y=0)) (hx:bU x) (hy:bU y) (hd:2<=(c-aG x y)%21600000∨fG x y=true/\1<=(c-aG x y)%21600000) (hd2:(c-aG x y)%21600000<=10799999) :
 1/10000000*MM x y<=(x:Rat)*sg c-y*cg c:=by
 have bq:=Alm.q_bd x y 2147483648 h hx hy;obtain ⟨m1,m2,m3⟩:=yu x y h bq.1 bq.2.2.1;obtain ⟨f1,f2,f3,f4⟩:=mq x y h hx hy;have t:=Cy x y c h hx hy;have t1:=Cy x y (aG x y+1) h hx hy;rw [show aG x y+1-aG x y=1 by omega,iA.1,iA.2] at t1
 obtain ⟨p1,p2⟩:=kT (m:=c-aG x y) (n:=(c-aG x y)%21600000) (by omega)
 rw [p1,p2] at t;have sl:=Fs ((c-aG x y)%21600000) (by omega) hd2
 have oC:=(g1 ((c-aG x y)%21600000)).1;have e:=dm;have e0:500*ee<=1/1000000000000:=by unfold ee;decide +kernel
 have eM:=Rat.mul_nonneg (Rat.le_of_lt e) (show 0<=MM x y by grind)
 have eM2:=Rat.mul_nonneg (show 0<=1/1000000000000-500*ee by grind) (show 0<=MM x y by grind)
 obtain ⟨oc,os⟩:=g1 (aG x y);have n1:=o1m oc m2.1 m2.2;have n2:=o1m os m3.1 m3.2;have A2:cg (aG x y)*x+sg (aG x y)*y<=2*MM x y:=by grind
 clear n1 n2 m2 m3 oc os;unfold Nr at t t1
 by_cases q:2<=(c-aG x y)%21600000
 . have st:=Ay 1 ((c-aG x y)%21600000);have sl2:=Fs ((c-aG x y)%21600000-1) (by omega) (by omega)
   rw [iA.1,iA.2] at st;unfold Nr at st;have cp:=zV;have sp:=s1_low;have:=Jg (A:=cg (aG x y)*x+sg (aG x y)*y) (B:=cg (aG x y)*y-sg (aG x y)*x) (M:=MM x y) (S:=sg ((c-aG x y)%21600000)) (C:=cg ((c-aG x y)%21600000)) (T:=sg ((c-aG x y)%21600000-1)) (c:=c1) (s:=s1) (E:=0) (e:=500*ee) m1 (by grind) e0 f4 A2 (by grind) (by clear t st;grind) oC sl sl2 (by clear t t1;grind) ⟨by grind,cp.2⟩ (by grind)
   clear t1 f1 f2 f3 f4 A2 st sl2;grind
 . have ex:fG x y=true:=by
    rcases hd with hd|hd
    . exact absurd hd q
    . exact hd.1
   have b2:=f3 ex;have k1:=o1m oC f1 b2;have k2:=Rat.mul_nonneg (show 0<=cg (aG x y)*x+sg (aG x y)*y-1/2*MM x y by grind) (show 0<=sg ((c-aG x y)%21600000) by grind)
   have k3:=Rat.mul_nonneg (show 0<=MM x y by grind) (show 0<=sg ((c-aG x y)%21600000)-28/100000000 by grind)
   clear t1 f1 f2 f3 A2 b2;generalize (cg (aG x y)*x+sg (aG x y)*y)=A at *
   generalize (cg (aG x y)*y-sg (aG x y)*x)=B at *
   generalize sg ((c-aG x y)%21600000)=S at *
   generalize cg ((c-aG x y)%21600000)=C at *
   generalize MM x y=M at *
   grind
theorem Jk (x y c:Int) (h:¬ (x=0/\y=0)) (hx:bU x) (hy:bU y) (hd:10800002<=(c-aG x y)%21600000∨fG x y=true/\10800001<=(c-aG x y)%21600000) :
 (x:Rat)*sg c-y*cg c<=-(1/10000000*MM x y):=by
 have b:10800001<=(c-aG x y)%21600000:=by rcases hd with q|q<;>omega
 have hd':2<=(c+10800000-aG x y)%21600000∨fG x y=true/\1<=(c+10800000-aG x y)%21600000:=by
  rcases hd with q|q
  . exact .inl (by omega)
  . exact .inr ⟨q.1,by omega⟩
 have a:=Bw x y (c+10800000) h hx hy hd' (by omega)
 rw [jS,ma] at a;clear hd hd' b;grind
theorem yX {fx fy xl xh yl yh:Int} {x y:Rat} (hx:(xl:Rat)<=x/\x<=xh) (hy:(yl:Rat)<=y/\y<=yh) (H:∀ px py:Int,(px=xl∨px=xh)->(py=yl∨py=yh)->0<=fx*py-fy*px):0<=(fx:Rat)*y-fy*x:=by
 have H':∀ px py:Int,(px=xl∨px=xh)->(py=yl∨py=yh)->(0:Rat)<=(fx:Rat)*py-fy*px:=fun px py a b=>by
  have:=H px py a b;have c:((0:Int):Rat)<=((fx*py-fy*px:Int):Rat):=Rat.intCast_le_intCast.2 this;rw [Rat.intCast_sub,Rat.intCast_mul,Rat.intCast_mul] at c;exact c
 have a1:=H' xl yl (.inl rfl) (.inl rfl);have a2:=H' xl yh (.inl rfl) (.inr rfl);have a3:=H' xh yl (.inr rfl) (.inl rfl);have a4:=H' xh yh (.inr rfl) (.inr rfl)
 have sx:(0:Rat)<=fx∨(fx:Rat)<=0:=by
  rcases Int.le_total 0 fx with h|h
  . exact .inl (Rat.intCast_le_intCast.2 h)
  . exact .inr (Rat.intCast_le_intCast.2 h)
 have sy:(0:Rat)<=fy∨(fy:Rat)<=0:=by
  rcases Int.le_total 0 fy with h|h
  . exact .inl (Rat.intCast_le_intCast.2 h)
  . exact .inr (Rat.intCast_le_intCast.2 h)
 clear H H'
 generalize (fx:Rat)=fx at *
 generalize (fy:Rat)=fy at *
 generalize (xl:Rat)=xl at *
 generalize (xh:Rat)=xh at *
 generalize (yl:Rat)=yl at *
 generalize (yh:Rat)=yh at *
 have b1:=fun h:0<=fx=>Rat.mul_nonneg h (show 0<=y-yl by grind)
 have b2:=fun h:fx<=0=>Rat.mul_nonneg (show 0<=-fx by grind) (show 0<=yh-y by grind)
 have b3:=fun h:0<=fy=>Rat.mul_nonneg h (show 0<=xh-x by grind)
 have b4:=fun h:fy<=0=>Rat.mul_nonneg (show 0<=-fy by grind) (show 0<=x-xl by grind)
 rcases sx with h|h<;>rcases sy with k|k
 . have:=b1 h;have:=b3 k;grind
 . have:=b1 h;have:=b4 k;grind
 . have:=b2 h;have:=b3 k;grind
 . have:=b2 h;have:=b4 k;grind
theorem rz (x y:Int) (h:¬ (x=0/\y=0)) (hx:bU x) (hy:bU y):(0<=aG x y/\aG x y<21600000)/\(0<x->aG x y<5400000∨16200000<=aG x y)/\(x<0->5400000<=aG x y/\aG x y<16200000)/\(0<y->aG x y<10800000)/\(y<0->10800000<=aG x y):=by
 have bq:=Alm.q_bd x y 2147483648 h hx hy;have H:=EW x y h;have D:=(iL x y h hx hy).1;unfold aG;omega
theorem nC {a b:Int} (h:a<=b):(a:Rat)<=(b:Rat):=Rat.intCast_le_intCast.2 h
theorem wC {yl yh xl xh:Int} (hy:yl<=yh) (hx:xl<=xh) (eo:dX yl yh xl xh=false):∃ f1 f2 l1 l2:Int,
 ((f1=xl∨f1=xh)/\(f2=yl∨f2=yh))/\((l1=xl∨l1=xh)/\(l2=yl∨l2=yh))/\¬ (f1=0/\f2=0)/\¬ (l1=0/\l2=0) /\
 (∀ px py:Int,(px=xl∨px=xh)->(py=yl∨py=yh)->0<=f1*py-f2*px)/\(∀ px py:Int,(px=xl∨px=xh)->(py=yl∨py=yh)->0<=-l1*py - -l2*px)/\0<=crs f1 f2 l1 l2 /\
 aT yl yh xl xh=aG f1 f2/\bi yl yh xl xh=aG f1 f2+gp f1 f2 l1 l2+(if fG l1 l2 then 0 else 1):=by
 have ho:=eo;unfold dX at ho;simp only [decide_eq_false_iff_not] at ho;obtain ⟨u,v,H⟩:=Bv hy hx ho;have fi:=iw xl xh yl yh 4;have li:=jl xl xh yl yh 4
 have cf:∀ px py:Int,(px=xl∨px=xh)->(py=yl∨py=yh)->0<=(aL xl xh yl yh 4).1*py-(aL xl xh yl yh 4).2*px:=fun px py h k=>by
  obtain ⟨j,hj,e1,e2⟩:=iO xl xh yl yh _ _ h k;rw [<-e1,<-e2];exact kV H 4 j hj
 have cl:∀ px py:Int,(px=xl∨px=xh)->(py=yl∨py=yh)->0<=-(aQ xl xh yl yh 4).1*py - -(aQ xl xh yl yh 4).2*px:=fun px py h k=>by
  obtain ⟨j,hj,e1,e2⟩:=iO xl xh yl yh _ _ h k;have:=nN H 4 j hj;rw [e1,e2] at this;unfold crs at this;rw [Int.neg_mul,Int.neg_mul,Int.mul_comm (aQ xl xh yl yh 4).1 py,Int.mul_comm (aQ xl xh yl yh 4).2 px];omega
 refine ⟨_,_,_,_,fi,li,F5 (H _ _ fi.1 fi.2),F5 (H _ _ li.1 li.2),cf,cl,cf _ _ li.1 li.2,?_,?_⟩
 . unfold aT;rw [eo];rfl
 . rw [<-Um];unfold bi;rw [eo];unfold aT;rw [eo];rfl
theorem oP {xl xh f:Int} (h:f=xl∨f=xh) (h0:xl<=xh) (h2:-2147483648<=xl/\xh<=2147483648):bU f:=by unfold bU;omega
theorem Jz {yl yh xl xh:Int} (hy:yl<=yh) (hx:xl<=xh) (hy2:-2147483648<=yl/\yh<=2147483648) (hx2:-2147483648<=xl/\xh<=2147483648) (eo:dX yl yh xl xh=false) :
 bi yl yh xl xh-aT yl yh xl xh<=10800001:=by
 obtain ⟨f1,f2,g1',g2',fi,li,nf0,nl0,_,_,cfl,eL,eH⟩:=wC hy hx eo;have gb:=Mj nf0 nl0 cfl (by unfold bU;omega) (by unfold bU;omega) (by unfold bU;omega) (by unfold bU;omega)
 rw [eL,eH];have:=gb.2.1;split<;>omega
