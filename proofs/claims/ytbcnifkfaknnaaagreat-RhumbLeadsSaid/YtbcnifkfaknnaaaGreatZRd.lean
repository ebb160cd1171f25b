/- Plain: directions that need not be whole angles: which arcs hold them; the arc of a box holds the direction of every point in it. -/
import Derived.Test.YtbcnifkfaknnaaaGreatZTr2
import Derived.Test.YtbcnifkfaknnaaaGreatZBin
set_option linter.unusedVariables false
set_option linter.unusedSimpArgs false
namespace Go.Proofs.YtbcnifkfaknnaaaGreat
open Alm Sx
theorem Y8 (N:Nat):∃ n:Nat,n*n<=N/\N<(n+1)*(n+1):=by
 induction N with
 | zero=>exact ⟨0,by decide,by decide⟩
 | succ N ih =>
  obtain ⟨n,h1,h2⟩:=ih
  by_cases h:N+1<(n+1)*(n+1)
  . exact ⟨n,by omega,h⟩
  . refine ⟨n+1,by omega,?_⟩
    have:(n+1)*(n+1)<(n+1+1)*(n+1+1):=Nat.mul_lt_mul'' (by omega) (by omega)
    omega
def mil:Rat:=1000000000000000000000000000000000000000000000000000000000000000000000000000000000
theorem ul:1<mil:=by unfold mil;decide +kernel
theorem QS (n:Nat):((n:Int):Rat)=(n:Rat):=rfl
theorem Rv (q:Rat) (h:0<q):∃ r:Rat,0<r/\r*r<=q/\mil*q<=(mil+4)*(r*r):=by
 have hn:0<q.num:=by
  have a:=Rat.num_nonneg.2 (Rat.le_of_lt h);have b:q.num≠0:=fun c=>by rw [Rat.num_eq_zero.1 c] at h;exact absurd h (by decide)
  omega
 have hd:0<q.den:=q.den_pos
 have hq:q*(q.den:Rat)=(q.num:Rat):=by
  have a:=Rat.num_divInt_den q;rw [Rat.divInt_eq_div] at a
  have c:((q.den:Int):Rat)≠0:=fun e=>by
   have z:((q.den:Int))=0:=Rat.intCast_inj.1 (e.trans rfl);omega
  have b:=congrArg (·*((q.den:Int):Rat)) a;simp only [Rat.div_mul_cancel c] at b;exact b.symm
 have hN:(q.num:Rat)=((q.num.toNat:Nat):Rat):=by
  have:((q.num.toNat:Nat):Int)=q.num:=by omega
  rw [<-QS,this]
 obtain ⟨n,h1,h2⟩:=Y8 (q.num.toNat*q.den*(1000000000000000000000000000000000000000000000000000000000000000000000000000000000*1000000000000000000000000000000000000000000000000000000000000000000000000000000000));have c1:((n*n:Nat):Rat)<=((q.num.toNat*q.den*(1000000000000000000000000000000000000000000000000000000000000000000000000000000000*1000000000000000000000000000000000000000000000000000000000000000000000000000000000):Nat):Rat):=Rat.natCast_le_natCast.2 h1;have c2:((q.num.toNat*q.den*(1000000000000000000000000000000000000000000000000000000000000000000000000000000000*1000000000000000000000000000000000000000000000000000000000000000000000000000000000):Nat):Rat)<=(((n+1)*(n+1):Nat):Rat):=Rat.natCast_le_natCast.2 (Nat.le_of_lt h2);have hm:((1000000000000000000000000000000000000000000000000000000000000000000000000000000000:Nat):Rat)=mil:=by unfold mil;rfl
 have k1:1<=q.num.toNat*q.den:=Nat.mul_pos (by omega) hd
 have big:1000000000000000000000000000000000000000000000000000000000000000000000000000000000<=n:=by
  refine Nat.le_of_lt_succ ?_;refine Nat.lt_of_not_le fun hh=>?_
  have a:=Nat.mul_le_mul hh hh;have b:=Nat.mul_le_mul_right (1000000000000000000000000000000000000000000000000000000000000000000000000000000000*1000000000000000000000000000000000000000000000000000000000000000000000000000000000) k1;rw [Nat.one_mul] at b;have c:(n+1)*(n+1)<=1000000000000000000000000000000000000000000000000000000000000000000000000000000000*1000000000000000000000000000000000000000000000000000000000000000000000000000000000:=a;exact absurd (Nat.lt_of_lt_of_le h2 (Nat.le_trans c b)) (Nat.lt_irrefl _)
 have cb:mil<=(n:Rat):=by rw [<-hm];exact Rat.natCast_le_natCast.2 big
 simp only [Rat.natCast_mul,Rat.natCast_add,hm] at c1 c2;rw [<-hN] at c1 c2;have D0:(0:Rat)<(q.den:Rat):=Rat.natCast_pos.2 hd;have m1:=ul;clear h1 h2 hm k1 big hN hn hd;generalize (n:Rat)=n at *
 generalize (q.num:Rat)=N at *
 generalize (q.den:Rat)=D at *
 subst hq;have e1:((1:Nat):Rat)=1:=rfl;rw [e1] at c2;generalize mil=M at *
 have P0:0<D*M:=Rat.mul_pos D0 (by grind)
 have hi:D*M*(D*M)⁻¹=1:=Rat.mul_inv_cancel _ (by grind)
 have i0:0<(D*M)⁻¹:=Rat.inv_pos.2 P0;generalize (D*M)⁻¹=i at *
 have ii:0<i*i:=Rat.mul_pos i0 i0;refine ⟨n*i,Rat.mul_pos (by grind) i0,?_,?_⟩
 . have k:=Rat.mul_nonneg (Rat.le_of_lt ii) (show 0<=q*D*D*(M*M)-n*n by grind)
   have g:q*D*D*(M*M)*(i*i)=q*((D*M*i)*(D*M*i)):=by grind
   rw [hi] at g;grind
 . have g:q*D*D*(M*M)*(i*i)=q*((D*M*i)*(D*M*i)):=by grind
   rw [hi] at g;have k:=Rat.mul_nonneg (Rat.le_of_lt ii) (show 0<=(n+1)*(n+1)-q*D*D*(M*M) by grind)
   have k':0<=i*i*((n+1)*(n+1))-q:=by
    generalize q*D*D*(M*M)=W at *
    grind
   have a2:0<=(M+4)*(n*n)-M*((n+1)*(n+1)):=by
    have a3:=Rat.mul_nonneg (show 0<=n-M by grind) (show 0<=M by grind)
    have a4:=Rat.mul_nonneg (show 0<=n-M by grind) (show 0<=n-M by grind)
    have a5:=Rat.mul_nonneg (show 0<=M by grind) (show 0<=M-1 by grind)
    clear c1 c2 P0 hi g k k' i0 ii;grind
   have b:=Rat.mul_nonneg (Rat.le_of_lt ii) a2;have d:=Rat.mul_nonneg (show 0<=M by grind) k'
   clear c1 c2 P0 hi g k k' i0 a2;have fin:(M+4)*(n*i*(n*i))-M*q=i*i*((M+4)*(n*n)-M*((n+1)*(n+1)))+M*(i*i*((n+1)*(n+1))-q):=by clear b d;grind
   generalize i*i*((M+4)*(n*n)-M*((n+1)*(n+1)))=u at *
   generalize M*(i*i*((n+1)*(n+1))-q)=w at *
   clear cb m1 h D0 ii;grind
theorem Be {c s C S d:Rat} (hc:0<=c) (hC:0<=C) (n1:Nr (c*c+s*s) 1 d) (n2:Nr (C*C+S*S) 1 d) (hd:0<=d) (hd2:d<=1/100) (h:0<=c*S-s*C) (hs:0<=s) (hS:0<=S):s<=S+8*d:=by
 refine Rat.not_lt.1 fun hh=>?_
 unfold Nr at n1 n2;have a1:=Rat.mul_nonneg hc hS;have a2:=Rat.mul_nonneg hs hC;have p:=Rat.mul_nonneg h (show 0<=c*S+s*C by grind)
 have S2:=iV S;have s2:=iV s;have q1:=Rat.mul_nonneg (show 0<=1+d-s*s-c*c by grind) S2
 have q2:=Rat.mul_nonneg (show 0<=C*C-(1-d-S*S) by grind) s2
 have r:(1-d)*(s*s)<=(1+d)*(S*S):=by grind
 have t1:=Rat.mul_pos (show 0<s-(S+8*d) by grind) (show 0<s+(S+8*d) by grind)
 have t2:=Rat.mul_pos (show 0<1-d by grind) t1
 have S1:S*S<=1+d:=by have:=iV C;grind
 have S3:S<=2:=by
  refine Rat.not_lt.1 fun k=>?_
  have:=Rat.mul_pos (show 0<S-2 by grind) (show 0<S+2 by grind)
  grind
 have d1:=Rat.mul_nonneg hd hS;have d2:=Rat.mul_nonneg d1 (show 0<=2-S by grind)
 have d3:=Rat.mul_nonneg d1 (show 0<=1/100-d by grind)
 have d4:=Rat.mul_nonneg (Rat.mul_nonneg hd hd) (show 0<=1-d by grind)
 clear a1 a2 p q1 q2 n1 n2 h hc hC S1;grind
theorem fJ {c s C S d:Rat} (hc:0<=c) (hC:0<=C) (n1:Nr (c*c+s*s) 1 d) (n2:Nr (C*C+S*S) 1 d) (hd:0<=d) (hd2:d<=1/100) (h:0<=c*S-s*C) (hp:0<=c*C+s*S):s<=S+8*d:=by
 by_cases a:0<=S
 . by_cases b:0<=s
   . exact Be hc hC n1 n2 hd hd2 h b a
   . grind
 . by_cases b:s<=0
   . have:=Be (c:=C) (s:=-S) (C:=c) (S:=-s) hC hc (by unfold Nr at *;grind) (by unfold Nr at *;grind) hd hd2 (by grind) (by grind) (by grind)
     grind
   . exfalso;have x1:=Rat.mul_nonneg hc (show 0<=-S by grind)
     have x2:=Rat.mul_nonneg (show 0<=s by grind) hC
     have x3:s*C=0:=by grind
     have x4:C=0:=by
      rcases Rat.mul_eq_zero.1 x3 with k|k
      . grind
      . exact k
     subst x4;have x5:=Rat.mul_pos (show 0<s by grind) (show 0 < -S by grind)
     grind
theorem ivt (f:Int->Rat) (a:Int):∀ n:Nat,0<=f a->f (a+n)<=0->0<n->∃ k:Int,a<=k/\k<a+n/\0<=f k/\f (k+1)<=0
 | 0,_,_,h=>absurd h (Nat.lt_irrefl 0)
 | n+1,h0,h1,_=>by
  by_cases c:f (a+n)<=0
  . by_cases z:n=0
    . subst z;exact ⟨a,by omega,by omega,h0,by rw [show a+1=a+((0+1:Nat):Int) by omega];exact h1⟩
    . obtain ⟨k,i1,i2,i3,i4⟩:=ivt f a n h0 c (by omega)
      exact ⟨k,i1,by omega,i3,i4⟩
  . exact ⟨a+n,by omega,by omega,by grind,by rw [show a+(n:Int)+1=a+((n+1:Nat):Int) by omega];exact h1⟩
theorem JN {p q P Q c s K:Rat} (hK:0<K) (eK:p*Q-q*P=K) (h1:0<=p*s-q*c) (h2:P*s-Q*c<=0):∃ a b:Rat,0<=a/\0<=b/\c=a*p+b*P/\s=a*q+b*Q:=by
 have hi:K*K⁻¹=1:=Rat.mul_inv_cancel _ (by grind)
 have i0:0<K⁻¹:=Rat.inv_pos.2 hK;generalize K⁻¹=i at *
 refine ⟨(Q*c-P*s)*i,(p*s-q*c)*i,Rat.mul_nonneg (by grind) (Rat.le_of_lt i0),Rat.mul_nonneg h1 (Rat.le_of_lt i0),?_,?_⟩
 . have:(Q*c-P*s)*i*p+(p*s-q*c)*i*P=c*((p*Q-q*P)*i):=by grind
   rw [this,eK,hi,Rat.mul_one]
 . have:(Q*c-P*s)*i*q+(p*s-q*c)*i*Q=s*((p*Q-q*P)*i):=by grind
   rw [this,eK,hi,Rat.mul_one]
theorem OB {p q P Q c s a b d:Rat} (u:p*p+q*q=1) (v:P*P+Q*Q=1) (D:0<=p*P+q*Q) (D1:p*P+q*Q<=1) (ha:0<=a) (hb:0<=b) (ec:c=a*p+b*P) (es:s=a*q+b*Q) (n:Nr (c*c+s*s) 1 d) (hd:d<=1/100) :
 (a<=2/\b<=2)/\1/2<=a+b/\(∀ t,a<=t->t<=1/100->d<=t->Nr b 1 (6*t))/\(∀ t,b<=t->t<=1/100->d<=t->Nr a 1 (6*t)):=by
 have nn:c*c+s*s=a*a+b*b+2*(a*b*(p*P+q*Q)):=by
  have k1:=congrArg (·*(a*a)) u;have k2:=congrArg (·*(b*b)) v;subst ec es;clear n D D1 ha hb u v;grind
 rw [nn] at n;unfold Nr at n;have ab:=Rat.mul_nonneg ha hb;have m1:=Rat.mul_nonneg ab D;have m2:=Rat.mul_nonneg ab (show 0<=1-(p*P+q*Q) by grind)
 clear nn ec es u v;generalize p*P+q*Q=D at *
 have a2:a<=2:=by
  refine Rat.not_lt.1 fun k=>?_
  have:=Rat.mul_pos (show 0<a-2 by grind) (show 0<a+2 by grind)
  have:=iV b;grind
 have b2:b<=2:=by
  refine Rat.not_lt.1 fun k=>?_
  have:=Rat.mul_pos (show 0<b-2 by grind) (show 0<b+2 by grind)
  have:=iV a;grind
 refine ⟨⟨a2,b2⟩,?_,?_,?_⟩
 . refine Rat.not_lt.1 fun k=>?_
   have:=Rat.mul_nonneg (show 0<=1/2-(a+b) by grind) (show 0<=1/2+(a+b) by grind)
   grind
 . intro t h1 h2 h3;have x1:=Rat.mul_nonneg (show 0<=t-a by grind) hb
   have x2:=Rat.mul_nonneg (show 0<=t-a by grind) ha
   have x3:=Rat.mul_nonneg (show 0<=t by grind) (show 0<=2-b by grind)
   have x4:=Rat.mul_nonneg (show 0<=t by grind) (show 0<=1/100-a by grind)
   have lo:1-6*t<=b*b:=by grind
   have hi:b*b<=1+t:=by have:=iV a;grind
   unfold Nr
   constructor
   . refine Rat.not_lt.1 fun k=>?_
     have:=Rat.mul_nonneg (show 0<=1-6*t-b by grind) (show 0<=b by grind)
     have:=Rat.mul_nonneg (show 0<=1-b by grind) (show 0<=t by grind)
     grind
   . refine Rat.not_lt.1 fun k=>?_
     have:=Rat.mul_nonneg (show 0<=b-1 by grind) (show 0<=b-1 by grind)
     grind
 . intro t h1 h2 h3;have x1:=Rat.mul_nonneg (show 0<=t-b by grind) ha
   have x2:=Rat.mul_nonneg (show 0<=t-b by grind) hb
   have x3:=Rat.mul_nonneg (show 0<=t by grind) (show 0<=2-a by grind)
   have x4:=Rat.mul_nonneg (show 0<=t by grind) (show 0<=1/100-b by grind)
   have lo:1-6*t<=a*a:=by grind
   have hi:a*a<=1+t:=by have:=iV b;grind
   unfold Nr
   constructor
   . refine Rat.not_lt.1 fun k=>?_
     have:=Rat.mul_nonneg (show 0<=1-6*t-a by grind) (show 0<=a by grind)
     have:=Rat.mul_nonneg (show 0<=1-a by grind) (show 0<=t by grind)
     grind
   . refine Rat.not_lt.1 fun k=>?_
     have:=Rat.mul_nonneg (show 0<=a-1 by grind) (show 0<=a-1 by grind)
     grind
def tt:Rat:=1/1000000000000000000000000000000
def eta:Rat:=1/10000000000000000000000000000000000000000
def Bt (a b x t:Rat):Prop:=(a-t<=x/\x<=b+t)∨(b-t<=x/\x<=a+t)
def Onc (L H:Int) (c s t:Rat):Prop:=∃ k m:Int,(L<=k/\k<=H)/\(L<=m/\m<=H)/\Bt (sg k) (sg m) s t/\Bt (cg k) (cg m) c t
theorem GR {p q:Int} (h:p<=q):(p:Rat)*u30<=(q:Rat)*u30:=Rat.mul_le_mul_of_nonneg_right (Rat.intCast_le_intCast.2 h) (Rat.le_of_lt GU)
theorem RF (L H k:Int) (h1:L<=k) (h2:k<=H):InE (dF L H) (dH L H) (sg k) (2*ee):=by
 have a:=XE k k k (.inl rfl);have p:=uq L H k k h1 (by omega) h2
 unfold InE at *
 have u1:=GR p.1;have u2:=GR p.2;clear p h1 h2
 constructor<;>grind
theorem Kj (L H k:Int) (h1:L<=k) (h2:k<=H):InE (dF (L+5400000) (H+5400000)) (dH (L+5400000) (H+5400000)) (cg k) (2*ee):=by
 have a:=KX k k k (.inl rfl);have p:=uq (L+5400000) (H+5400000) (k+5400000) (k+5400000) (by omega) (by omega) (by omega)
 unfold InE at *
 have u1:=GR p.1;have u2:=GR p.2;clear p h1 h2
 constructor<;>grind
theorem Rx {L H:Int} {a b x t e:Rat} (h:Bt a b x t) (ha:InE L H a e) (hb:InE L H b e):InE L H x (e+t):=by
 unfold Bt InE at *
 rcases h with h|h<;>constructor<;>grind
theorem Onc.sin {L H:Int} {c s t:Rat} (h:Onc L H c s t):InE (uS L H).1 (uS L H).2 s (2*ee+t):=by
 obtain ⟨k,m,hk,hm,b,_⟩:=h;exact Rx b (RF L H k hk.1 hk.2) (RF L H m hm.1 hm.2)
theorem Onc.cos {L H:Int} {c s t:Rat} (h:Onc L H c s t):InE (uC L H).1 (uC L H).2 c (2*ee+t):=by
 obtain ⟨k,m,hk,hm,_,b⟩:=h;exact Rx b (Kj L H k hk.1 hk.2) (Kj L H m hm.1 hm.2)
theorem Bt.le {a b x t t':Rat} (h:Bt a b x t) (ht:t<=t'):Bt a b x t':=by
 unfold Bt at *
 rcases h with h|h
 . left;constructor<;>grind
 . right;constructor<;>grind
theorem Onc.le {L H:Int} {c s t t':Rat} (h:Onc L H c s t) (ht:t<=t'):Onc L H c s t':=by
 obtain ⟨k,m,hk,hm,a,b⟩:=h;exact ⟨k,m,hk,hm,a.le ht,b.le ht⟩
theorem Onc.wide {L H L' H':Int} {c s t:Rat} (h:Onc L H c s t) (h1:L'<=L) (h2:H<=H'):Onc L' H' c s t:=by
 obtain ⟨k,m,hk,hm,a,b⟩:=h;exact ⟨k,m,by omega,by omega,a,b⟩
theorem iR (k:Int):1/10000000<=cg k*sg (k+1)-sg k*cg (k+1)/\0<=cg k*cg (k+1)+sg k*sg (k+1)/\cg k*cg (k+1)+sg k*sg (k+1)<=1:=by
 have a:=Ay k (k+1);have b:=zS k (k+1);rw [show k+1-k=1 by omega] at a b
 have l:=Fs 1 (by omega) (by omega)
 have c:=zY 1 (by omega)
 have e:200*ee<=1/1000000000000:=by unfold ee;decide +kernel
 have u:=jw k;have v:=jw (k+1);have w:=jw 1;have hi:sg 1<=1/100:=by rw [iA.1];unfold s1;decide +kernel
 generalize sg 1=S1 at *
 generalize cg 1=C1 at *
 have cl:1/2<=C1:=by
  refine Rat.not_lt.1 fun hh=>?_
  clear a b u v e;have k1:=Rat.mul_nonneg (show 0<=1/100-S1 by grind) (show 0<=1/100+S1 by grind)
  have k2:=Rat.mul_nonneg (show 0<=1/2-C1 by grind) (show 0<=1/2+C1 by grind)
  grind
 unfold Nr at a b;have q1:=iV (cg k-cg (k+1));have q2:=iV (sg k-sg (k+1));refine ⟨by clear q1 q2 u v b w;grind,by clear q1 q2 u v a w;grind,by clear a b l c e cl w;grind⟩
theorem ZB (G:Int->Rat) (n:Nat) (hn:0<n) (h:∀ k:Int,G (k+n)=-G k):∃ k:Int,0<=k/\k<n+n/\0<=G k/\G (k+1)<=0:=by
 have h1:=h 0;have h2:=h n;rw [show (0:Int)+n=n by omega] at h1
 by_cases g:0<=G 0
 . obtain ⟨k,i1,i2,i3,i4⟩:=ivt G 0 n g (by rw [show (0:Int)+n=n by omega,h1];grind) hn
   exact ⟨k,i1,by omega,i3,i4⟩
 . obtain ⟨k,i1,i2,i3,i4⟩:=ivt G n n (by rw [h1];grind) (by rw [h2,h1];grind) hn
   exact ⟨k,by omega,by omega,i3,i4⟩
theorem SG (c s:Rat):∃ k:Int,0<=k/\k<21600000/\0<=cg k*s-sg k*c/\cg (k+1)*s-sg (k+1)*c<=0:=by
 obtain ⟨k,i1,i2,i3,i4⟩:=ZB (fun k=>cg k*s-sg k*c) 10800000 (by omega) (fun k=>by
  rw [show ((10800000:Nat):Int)=10800000 from rfl]
  show cg (k+10800000)*s-sg (k+10800000)*c=-(cg k*s-sg k*c);rw [ma,jS];grind)
 exact ⟨k,i1,by omega,i3,i4⟩
theorem XJ (k:Int) {c s:Rat} (h1:0<=cg k*s-sg k*c) (h2:cg (k+1)*s-sg (k+1)*c<=0):∃ a b:Rat,0<=a/\0<=b/\c=a*cg k+b*cg (k+1)/\s=a*sg k+b*sg (k+1) :=
 JN (by have:=(iR k).1;grind) rfl h1 h2
theorem Oj (k:Int) {c s d t:Rat} (n:Nr (c*c+s*s) 1 d) (hd:0<=d) (hd2:d<=1/100) (ht:8*d<=t) (h1:0<=cg k*s-sg k*c) (h2:cg (k+1)*s-sg (k+1)*c<=0):Bt (sg k) (sg (k+1)) s t/\Bt (cg k) (cg (k+1)) c t:=by
 obtain ⟨a,b,ha,hb,ec,es⟩:=XJ k h1 h2;obtain ⟨_,D,D1⟩:=iR k;have u:=jw k;have v:=jw (k+1);have nk:Nr (cg k*cg k+sg k*sg k) 1 d:=by unfold Nr;constructor<;>grind
 have nm:Nr (cg (k+1)*cg (k+1)+sg (k+1)*sg (k+1)) 1 d:=by unfold Nr;constructor<;>grind
 have p1:0<=cg k*c+sg k*s:=by
  have x:=Rat.mul_nonneg hb D;have y:=congrArg (·*a) u
  have z:cg k*c+sg k*s=a+b*(cg k*cg (k+1)+sg k*sg (k+1)):=by
   clear h1 h2 n nk nm D D1 v x;subst ec es;grind
  rw [z];clear n nk nm h1 h2 ec es u v y z D D1;grind
 have p2:0<=c*cg (k+1)+s*sg (k+1):=by
  have x:=Rat.mul_nonneg ha D;have y:=congrArg (·*b) v
  have z:c*cg (k+1)+s*sg (k+1)=b+a*(cg k*cg (k+1)+sg k*sg (k+1)):=by
   clear h1 h2 n nk nm D D1 u x p1;subst ec es;grind
  rw [z];clear n nk nm h1 h2 ec es u v y z D D1 p1;grind
 have comb:∀ x y:Rat,0<=x->0<=y->0<=a*x+b*y:=fun x y hx hy=>by
  have:=Rat.mul_nonneg ha hx;have:=Rat.mul_nonneg hb hy;clear p1 p2 n nk nm h1 h2 ec es u v;grind
 have combn:∀ x y:Rat,x<=0->y<=0->a*x+b*y<=0:=fun x y hx hy=>by
  have:=Rat.mul_nonneg ha (show 0<=-x by clear p1 p2 n nk nm h1 h2 ec es u v;grind);have:=Rat.mul_nonneg hb (show 0<=-y by clear p1 p2 n nk nm h1 h2 ec es u v;grind);clear p1 p2 n nk nm h1 h2 ec es u v;grind
 have sw:∀ {x y d:Rat},Nr (x*x+y*y) 1 d->Nr (y*y+x*x) 1 d:=fun {x y d} h=>by rw [show y*y+x*x=x*x+y*y by grind];exact h
 have ng:∀ {x y d:Rat},Nr (x*x+y*y) 1 d->Nr (-x*-x+y*y) 1 d:=fun {x y d} h=>by rw [show -x*-x+y*y=x*x+y*y by grind];exact h
 constructor
 . by_cases q:k%21600000<5400000∨16200000<=k%21600000
   . have c0:=zY k (by omega)
     have c1':=zY (k+1) (by omega)
     have cc:0<=c:=by rw [ec];exact comb _ _ c0 c1'
     have r1:=fJ cc c1' n nm hd hd2 (by clear p1 ec es u v n nk nm;grind) p2
     have r2:=fJ c0 cc nk n hd hd2 (by clear p2 ec es u v n nk nm;grind) p1
     clear p1 p2 ec es u v n nk nm h1 h2 comb combn
     left;constructor<;>grind
   . have c0:=Fa k (by omega)
     have c1':=Fa (k+1) (by omega)
     have cc:c<=0:=by rw [ec];exact combn _ _ c0 c1'
     have r1:=fJ (c:=-cg (k+1)) (s:=sg (k+1)) (C:=-c) (S:=s) (by clear n nk nm;grind) (by clear n nk nm;grind) (ng nm) (ng n) hd hd2 (by clear p1 ec es u v n nk nm;grind) (by clear p1 ec es u v n nk nm;grind)
     have r2:=fJ (c:=-c) (s:=s) (C:=-cg k) (S:=sg k) (by clear n nk nm;grind) (by clear n nk nm;grind) (ng n) (ng nk) hd hd2 (by clear p2 ec es u v n nk nm;grind) (by clear p2 ec es u v n nk nm;grind)
     clear p1 p2 ec es u v n nk nm h1 h2 comb combn
     right;constructor<;>grind
 . by_cases q:k%21600000<10800000
   . have c0:=FD k (by omega)
     have c1':=FD (k+1) (by omega)
     have cc:0<=s:=by rw [es];exact comb _ _ c0 c1'
     have r1:=fJ (c:=sg (k+1)) (s:=cg (k+1)) (C:=s) (S:=c) c1' cc (sw nm) (sw n) hd hd2 (by clear p1 ec es u v n nk nm;grind) (by clear p1 ec es u v n nk nm;grind)
     have r2:=fJ (c:=s) (s:=c) (C:=sg k) (S:=cg k) cc c0 (sw n) (sw nk) hd hd2 (by clear p2 ec es u v n nk nm;grind) (by clear p2 ec es u v n nk nm;grind)
     clear p1 p2 ec es u v n nk nm h1 h2 comb combn
     right;constructor<;>grind
   . have c0:=EC k (by omega)
     have c1':=EC (k+1) (by omega)
     have cc:s<=0:=by rw [es];exact combn _ _ c0 c1'
     have r1:=fJ (c:=-s) (s:=c) (C:=-sg (k+1)) (S:=cg (k+1)) (by clear n nk nm;grind) (by clear n nk nm;grind) (ng (sw n)) (ng (sw nm)) hd hd2 (by clear p1 ec es u v n nk nm;grind) (by clear p1 ec es u v n nk nm;grind)
     have r2:=fJ (c:=-sg k) (s:=cg k) (C:=-s) (S:=c) (by clear n nk nm;grind) (by clear n nk nm;grind) (ng (sw nk)) (ng (sw n)) hd hd2 (by clear p2 ec es u v n nk nm;grind) (by clear p2 ec es u v n nk nm;grind)
     clear p1 p2 ec es u v n nk nm h1 h2 comb combn
     left;constructor<;>grind
end Go.Proofs.YtbcnifkfaknnaaaGreat
namespace Go.Proofs.YtbcnifkfaknnaaaGreat
open Alm Sx
theorem Ff (k:Int):cg k*cg k+sg k*sg k=1:=by have:=jw k;grind
theorem xW {a b p q M:Rat} (ha:0<=a) (hb:0<=b) (ab:1/2<=a+b) (hM:1<=M) (hp:p<=-(1/10000000*M)) (hq:q<=-(1/10000000*M)) (h:-(2*eta*M)<=a*p+b*q):False:=by
 have e:2*eta<=1/1000000000:=by unfold eta;decide +kernel
 have k1:=Rat.mul_nonneg ha (show 0<=-(1/10000000*M)-p by grind)
 have k2:=Rat.mul_nonneg hb (show 0<=-(1/10000000*M)-q by grind)
 have k3:=Rat.mul_nonneg (show 0<=a+b-1/2 by grind) (show 0<=M by grind)
 have k4:=Rat.mul_nonneg (show 0<=1/1000000000-2*eta by grind) (show 0<=M by grind)
 grind
def tin:Rat:=1/100000000000000000000000000000000
theorem mE {a b p q M:Rat} (ha:0<=a) (hb:0<=b) (b2:b<=2) (hM:1<=M) (hp:p<=-(1/10000000*M)) (hq:q<=8*ee*M) (h:-(2*eta*M)<=a*p+b*q):a<=tin:=by
 have e:10000000*(2*eta+16*ee)<=tin:=by unfold eta ee tin;decide +kernel
 have e0:=dm;have M0:0<=M:=by grind
 have k1:=Rat.mul_nonneg ha (show 0<=-(1/10000000*M)-p by grind)
 have k2:=Rat.mul_nonneg hb (show 0<=8*ee*M-q by grind)
 have k3:=Rat.mul_nonneg (show 0<=2-b by grind) (Rat.mul_nonneg (Rat.le_of_lt e0) M0)
 refine Rat.not_lt.1 fun hh=>?_
 have k4:=Rat.mul_pos (show 0<a-10000000*(2*eta+16*ee) by grind) (show 0<M by grind)
 grind
theorem Ac {A B c x y t:Rat} (h:c=A*x+B*y) (hx:O1 x) (hy:O1 y) (hA:0<=A) (ha:A<=tin) (hB:Nr B 1 (6*t)) (ht:tin<=t):Nr c y (7*t):=by
 unfold O1 Nr at *
 have k1:=Rat.mul_nonneg hA (show 0<=1-x by grind)
 have k2:=Rat.mul_nonneg hA (show 0<=1+x by grind)
 have m1:=Rat.mul_nonneg (show 0<=6*t-(B-1) by grind) (show 0<=1-y by grind)
 have m2:=Rat.mul_nonneg (show 0<=6*t-(B-1) by grind) (show 0<=1+y by grind)
 have m3:=Rat.mul_nonneg (show 0<=6*t+(B-1) by grind) (show 0<=1-y by grind)
 have m4:=Rat.mul_nonneg (show 0<=6*t+(B-1) by grind) (show 0<=1+y by grind)
 constructor<;>grind
theorem H8 {a b:Int} (h:(a:Rat)<(b:Rat)):a<b:=Rat.intCast_lt_intCast.1 h
theorem UV {yl yh xl xh:Int} {r c s d:Rat} (ho:¬ (xl<=0/\0<=xh/\yl<=0/\0<=yh)) (hr:0<=r) (n:Nr (c*c+s*s) 1 d) (hd:d<=1/100)
 (p1:(xl:Rat)-eta<=r*c) (p2:r*c<=(xh:Rat)+eta) (q1:(yl:Rat)-eta<=r*s) (q2:r*s<=(yh:Rat)+eta):9/10<=r:=by
 refine Rat.not_lt.1 fun hh=>?_
 have e:eta<=1/1000:=by unfold eta;decide +kernel
 unfold Nr at n
 have bd:∀ z w:Rat,z*z+w*w-1<=d->-(95/100)<=r*z/\r*z<=95/100:=fun z w hz=>by
  have w0:=iV w
  have z1:z<=102/100:=by
   refine Rat.not_lt.1 fun k=>?_
   have:=Rat.mul_pos (show 0<z-102/100 by grind) (show 0<z+102/100 by grind)
   grind
  have z2:-(102/100)<=z:=by
   refine Rat.not_lt.1 fun k=>?_
   have:=Rat.mul_pos (show 0 < -(102/100)-z by grind) (show 0<102/100-z by grind)
   grind
  have m1:=Rat.mul_nonneg hr (show 0<=102/100-z by grind)
  have m2:=Rat.mul_nonneg hr (show 0<=102/100+z by grind)
  constructor<;>grind
 have bc:=bd c s n.2
 have bs:=bd s c (by have:s*s+c*c=c*c+s*s:=by grind
                     rw [this];exact n.2)
 clear bd n;have o1:(1:Rat)=((1:Int):Rat):=rfl;have o2:(-1:Rat)=((-1:Int):Rat):=rfl;have a1:xl<1:=H8 (by rw [<-o1];grind)
 have a2:-1<xh:=H8 (by rw [<-o2];grind)
 have a3:yl<1:=H8 (by rw [<-o1];grind)
 have a4:-1<yh:=H8 (by rw [<-o2];grind)
 clear bc bs p1 p2 q1 q2 hh e;omega
theorem Qx {yl yh xl xh:Int} {r c s d:Rat} (hr:0<=r) (n:Nr (c*c+s*s) 1 d) (hd:d<=1/100) (hy2:-2147483648<=yl/\yh<=2147483648) (hx2:-2147483648<=xl/\xh<=2147483648)
 (p1:(xl:Rat)-eta<=r*c) (p2:r*c<=(xh:Rat)+eta) (q1:(yl:Rat)-eta<=r*s) (q2:r*s<=(yh:Rat)+eta):r<=8589934592:=by
 refine Rat.not_lt.1 fun hh=>?_
 have e:eta<=1/1000:=by unfold eta;decide +kernel
 have i1:((-2147483648:Int):Rat)<=xl:=nC hx2.1;have i2:(xh:Rat)<=((2147483648:Int):Rat):=nC hx2.2;have i3:((-2147483648:Int):Rat)<=yl:=nC hy2.1;have i4:(yh:Rat)<=((2147483648:Int):Rat):=nC hy2.2;rw [show ((-2147483648:Int):Rat)=-2147483648 from rfl] at i1 i3
 rw [show ((2147483648:Int):Rat)=2147483648 from rfl] at i2 i4
 unfold Nr at n;have m1:=Rat.mul_nonneg (show 0<=2147483649-r*c by grind) (show 0<=2147483649+r*c by grind)
 have m2:=Rat.mul_nonneg (show 0<=2147483649-r*s by grind) (show 0<=2147483649+r*s by grind)
 have m3:=Rat.mul_nonneg (iV r) (show 0<=c*c+s*s-99/100 by grind)
 have m4:=Rat.mul_pos (show 0<r-8589934592 by grind) (show 0<r+8589934592 by grind)
 clear p1 p2 q1 q2 i1 i2 i3 i4 n;grind
theorem PM {yl yh xl xh:Int} {r c s:Rat} (ho:¬ (xl<=0/\0<=xh/\yl<=0/\0<=yh)) (hr:0<=r) (hr2:r<=8589934592)
 (p1:(xl:Rat)-eta<=r*c) (p2:r*c<=(xh:Rat)+eta) (q1:(yl:Rat)-eta<=r*s) (q2:r*s<=(yh:Rat)+eta)
 (b1:0<xl->c<=tin) (b2:xh<0->-tin<=c) (b3:0<yl->s<=tin) (b4:yh<0->-tin<=s):False:=by
 have e:eta<=1/1000:=by unfold eta;decide +kernel
 have t:8589934592*tin<=1/100:=by unfold tin;decide +kernel
 have t0:0<tin:=by unfold tin;decide +kernel
 have k:=Rat.mul_nonneg (show 0<=8589934592-r by grind) (Rat.le_of_lt t0)
 have m:∀ z,z<=tin->r*z<=1/100:=fun z hz=>by
  have:=Rat.mul_nonneg hr (show 0<=tin-z by grind);grind
 by_cases d1:0<xl
 . have h:(1:Rat)<=xl:=nC (a:=1) d1;have:=m c (b1 d1);grind
 . by_cases d2:xh<0
   . have h:(xh:Rat)<=((-1:Int):Rat):=nC (show xh<=-1 by omega)
     rw [show ((-1:Int):Rat)=-1 from rfl] at h
     have:=m (-c) (by have:=b2 d2;grind);grind
   . by_cases d3:0<yl
     . have h:(1:Rat)<=yl:=nC (a:=1) d3;have:=m s (b3 d3);grind
     . have d4:yh<0:=by omega
       have h:(yh:Rat)<=((-1:Int):Rat):=nC (show yh<=-1 by omega)
       rw [show ((-1:Int):Rat)=-1 from rfl] at h
       have:=m (-s) (by have:=b4 d4;grind);grind
theorem Jw {yl yh xl xh a j:Int} (s0:0<=a/\a<21600000) (s1:0<xl->a<5400000∨16200000<=a) (s2:xh<0->5400000<=a/\a<16200000) (s3:0<yl->a<10800000) (s4:yh<0->10800000<=a)
 (h:(j-a)%21600000=10800000∨(j-a)%21600000=10800001):(0<xl->cg j<=0)/\(xh<0->0<=cg j)/\(0<yl->sg j<=0)/\(yh<0->0<=sg j) :=
 ⟨fun d=>Fa j (by have:=s1 d;omega),fun d=>zY j (by have:=s2 d;omega),fun d=>EC j (by have:=s3 d;omega),fun d=>FD j (by have:=s4 d;omega)⟩
theorem Pb {a b x y:Rat} (ha:0<=a) (hb:0<=b) (hx:x<=0) (hy:y<=1) (b2:b<=tin):a*x+b*y<=tin:=by
 have k1:=Rat.mul_nonneg ha (show 0<=-x by grind)
 have k2:=Rat.mul_nonneg hb (show 0<=1-y by grind)
 grind
theorem MZ {a b x y:Rat} (ha:0<=a) (hb:0<=b) (hx:x<=0) (hy:y<=0):a*x+b*y<=tin:=by
 have t0:0<tin:=by unfold tin;decide +kernel
 have k1:=Rat.mul_nonneg ha (show 0<=-x by grind)
 have k2:=Rat.mul_nonneg hb (show 0<=-y by grind)
 grind
theorem Gm {r X Y c s bx by0 M e:Rat} (r9:9/10<=r) (e0:0<=e) (mf:1<=M) (cf:0<=X*by0-Y*bx) (nf:-(e*M)<=X*(r*s-by0)-Y*(r*c-bx)):-(2*e*M)<=X*s-Y*c:=by
 refine Rat.not_lt.1 fun hh=>?_
 have x:=Rat.mul_pos (show 0<r by grind) (show 0 < -(2*e*M)-(X*s-Y*c) by grind)
 have y0:=Rat.mul_nonneg e0 (show 0<=M by grind)
 have y:=Rat.mul_nonneg (show 0<=r-9/10 by grind) y0
 grind
theorem QE {yl yh xl xh:Int} {r c s d:Rat} (hy:yl<=yh) (hx:xl<=xh) (hy2:-2147483648<=yl/\yh<=2147483648) (hx2:-2147483648<=xl/\xh<=2147483648) (eo:dX yl yh xl xh=false) (hr:0<=r) (n:Nr (c*c+s*s) 1 d) (d1:d<=1/100)
 (p1:(xl:Rat)-eta<=r*c) (p2:r*c<=(xh:Rat)+eta) (q1:(yl:Rat)-eta<=r*s) (q2:r*s<=(yh:Rat)+eta) :
 ∃ (A B:Int) (E:Bool) (M N:Rat) (φ ψ:Int->Rat),(aT yl yh xl xh=A/\bi yl yh xl xh=A+(B-A)%21600000+(if E=true then 0 else 1))/\(B-A)%21600000<=10800000/\(1<=M/\1<=N) /\
  (∀ (a b:Rat) (k:Int),c=a*cg k+b*cg (k+1)->s=a*sg k+b*sg (k+1)->-(2*eta*M)<=a*φ k+b*φ (k+1)/\-(2*eta*N)<=a*ψ k+b*ψ (k+1)) /\
  (∀ j,10800002<=(j-A)%21600000->φ j<=-(1/10000000*M))/\(∀ j,(j-A)%21600000=0∨(j-A)%21600000=10800001->φ j<=8*ee*M) /\
  (∀ j,(2<=(j-B)%21600000∨E=true/\1<=(j-B)%21600000)->(j-B)%21600000<=10799999->ψ j<=-(1/10000000*N))/\(∀ j,(j-B)%21600000=(if E=true then 0 else 1)∨(j-B)%21600000=10800000->ψ j<=8*ee*N) /\
  (∀ j,(j-A)%21600000=10800000∨(j-A)%21600000=10800001->(0<xl->cg j<=0)/\(xh<0->0<=cg j)/\(0<yl->sg j<=0)/\(yh<0->0<=sg j)):=by
 obtain ⟨f1,f2,g1',g2',fi,li,nf0,nl0,cf0,cl0,cfl,eL,eH⟩:=wC hy hx eo;have ho:¬ (xl<=0/\0<=xh/\yl<=0/\0<=yh):=of_decide_eq_false eo;have e0:0<=eta:=by unfold eta;decide +kernel
 have r9:=UV ho hr n d1 p1 p2 q1 q2;obtain ⟨bx0,k1,k2,k3,k4⟩:=vV (nC hx) p1 p2 e0;obtain ⟨by0,l1,l2,l3,l4⟩:=vV (nC hy) q1 q2 e0;have F1:=oP fi.1 hx hx2;have F2:=oP fi.2 hy hy2;have L1:=oP li.1 hx hx2;have L2:=oP li.2 hy hy2;have bf:=Alm.q_bd _ _ 2147483648 nf0 F1 F2;have bl:=Alm.q_bd _ _ 2147483648 nl0 L1 L2;have mf:=(yu _ _ nf0 bf.1 bf.2.2.1).1;have ml:=(yu _ _ nl0 bl.1 bl.2.2.1).1;have cf:=yX (fx:=f1) (fy:=f2) ⟨k1,k2⟩ ⟨l1,l2⟩ cf0;have cl:=yX (fx:=-g1') (fy:=-g2') ⟨k1,k2⟩ ⟨l1,l2⟩ cl0;rw [Rat.intCast_neg,Rat.intCast_neg] at cl;have nf:=(NW _ _ nf0 bf.1 bf.2.2.1 (u:=r*c-bx0) (v:=r*s-by0) (t:=eta) k3 k4 l3 l4).1;have nl:=(NW _ _ nl0 bl.1 bl.2.2.1 (u:=r*c-bx0) (v:=r*s-by0) (t:=eta) k3 k4 l3 l4).2;have CF:-(2*eta*MM f1 f2)<=(f1:Rat)*s-f2*c:=Gm r9 e0 mf cf nf;have CL':=Gm (X:=-(g1':Rat)) (Y:=-(g2':Rat)) (s:=s) (c:=c) r9 e0 ml cl (nf:=by clear n nf cf p1 p2 q1 q2 CF k1 k2 k3 k4 l1 l2 l3 l4 cl cf0 cl0 hy hx hy2 hx2 eo cfl ho fi li bf bl eL eH;grind)
 have CL:(g1':Rat)*s-g2'*c<=2*eta*MM g1' g2':=by
  clear n nf nl cl cf p1 p2 q1 q2 CF k1 k2 k3 k4 l1 l2 l3 l4 cf0 cl0 hy hx hy2 hx2 eo cfl ho fi li bf bl eL eH;grind
 clear k1 k2 k3 k4 l1 l2 l3 l4 cf cl nf nl cf0 cl0 p1 p2 q1 q2 bf bl li n r9;have sf:=rz _ _ nf0 F1 F2;have gb:=Mj nf0 nl0 cfl F1 F2 L1 L2;have df:=mq _ _ nf0 F1 F2;have dl:=mq _ _ nl0 L1 L2;refine ⟨aG f1 f2,aG g1' g2',fG g1' g2',MM f1 f2,MM g1' g2',fun j=>(f1:Rat)*sg j-f2*cg j,fun j=>-((g1':Rat)*sg j-g2'*cg j),⟨eL,eH⟩,gb.2.1,⟨mf,ml⟩,?_,?_,?_,?_,?_,?_⟩
 . intro a b k ec es;clear sf gb df dl eL eH
   constructor
   . have z:(f1:Rat)*s-f2*c=a*((f1:Rat)*sg k-f2*cg k)+b*((f1:Rat)*sg (k+1)-f2*cg (k+1)):=by
      rw [ec,es];clear CF CL;grind
     rw [z] at CF;exact CF
   . have z:-((g1':Rat)*s-g2'*c)=a*-((g1':Rat)*sg k-g2'*cg k)+b*-((g1':Rat)*sg (k+1)-g2'*cg (k+1)):=by
      rw [ec,es];clear CF CL;grind
     show _<=a*-((g1':Rat)*sg k-g2'*cg k)+b*-((g1':Rat)*sg (k+1)-g2'*cg (k+1));rw [<-z];clear z CF;grind
 . intro j h;exact Jk f1 f2 j nf0 F1 F2 (.inl h)
 . intro j h;show (f1:Rat)*sg j-f2*cg j<=_;rcases h with h|h
   . obtain ⟨z1,z2⟩:=kT (m:=j) (n:=aG f1 f2) (by omega)
     rw [z1,z2];clear sf gb dl eL eH CF CL;grind
   . obtain ⟨z1,z2⟩:=kT (m:=j) (n:=aG f1 f2+1+10800000) (by omega)
     rw [z1,z2,jS,ma];clear sf gb dl eL eH CF CL;grind
 . intro j h h'
   have:=Bw g1' g2' j nl0 L1 L2 h h'
   show -((g1':Rat)*sg j-g2'*cg j)<=_;clear sf gb df dl eL eH CF CL;grind
 . intro j h;show -((g1':Rat)*sg j-g2'*cg j)<=_;rcases h with h|h
   . by_cases q:fG g1' g2'=true
     . rw [if_pos q] at h;obtain ⟨z1,z2⟩:=kT (m:=j) (n:=aG g1' g2') (by omega)
       have:=dl.2.2.1 q;rw [z1,z2];clear sf gb df dl eL eH CF CL;grind
     . rw [if_neg q] at h;obtain ⟨z1,z2⟩:=kT (m:=j) (n:=aG g1' g2'+1) (by omega)
       have:=dl.2.1;rw [z1,z2];clear sf gb df dl eL eH CF CL;grind
   . obtain ⟨z1,z2⟩:=kT (m:=j) (n:=aG g1' g2'+10800000) (by omega)
     have:=dl.1;rw [z1,z2,jS,ma];clear sf gb df dl eL eH CF CL;grind
 . intro j h;clear gb df dl eL eH CF CL;exact Jw (yl:=yl) (yh:=yh) (xl:=xl) (xh:=xh) (a:=aG f1 f2) (j:=j) sf.1 (fun h=>sf.2.1 (by clear sf;omega)) (fun h=>sf.2.2.1 (by clear sf;omega)) (fun h=>sf.2.2.2.1 (by clear sf;omega)) (fun h=>sf.2.2.2.2 (by clear sf;omega)) h
theorem KY {yl yh xl xh:Int} {r c s a b p q p' q':Rat} (ho:¬ (xl<=0/\0<=xh/\yl<=0/\0<=yh)) (hr:0<=r) (hr2:r<=8589934592)
 (p1:(xl:Rat)-eta<=r*c) (p2:r*c<=(xh:Rat)+eta) (q1:(yl:Rat)-eta<=r*s) (q2:r*s<=(yh:Rat)+eta)
 (ha:0<=a) (hb:0<=b) (ec:c=a*p+b*p') (es:s=a*q+b*q') (S:(0<xl->p<=0)/\(xh<0->0<=p)/\(0<yl->q<=0)/\(yh<0->0<=q)) (o1:O1 p') (o2:O1 q')
 (h:b<=tin∨((0<xl->p'<=0)/\(xh<0->0<=p')/\(0<yl->q'<=0)/\(yh<0->0<=q'))):False:=by
 unfold O1 at o1 o2
 have key:∀ X x y:Rat,X=a*x+b*y->x<=0->y<=1->(b<=tin∨y<=0)->X<=tin:=fun X x y e hx hy h=>by
  rw [e];rcases h with h|h
  . exact Pb ha hb hx hy h
  . exact MZ ha hb hx h
 have neg:∀ {X x y:Rat},X=a*x+b*y->-X=a*-x+b*-y:=fun {X x y} e=>by rw [e];clear key p1 p2 q1 q2 ec es;grind
 have mir:∀ {X:Rat},-X<=tin->-tin<=X:=fun {X} e=>by clear key p1 p2 q1 q2 ec es neg;grind
 refine PM ho hr hr2 p1 p2 q1 q2 (fun g=>key c p p' ec (S.1 g) o1.2 ?_) (fun g=>mir (key (-c) (-p) (-p') (neg ec) ?_ ?_ ?_)) (fun g=>key s q q' es (S.2.2.1 g) o2.2 ?_) (fun g=>mir (key (-s) (-q) (-q') (neg es) ?_ ?_ ?_))
 . rcases h with h|h
   . exact .inl h
   . exact .inr (h.1 g)
 . have:=S.2.1 g;clear key p1 p2 q1 q2 ec es neg mir;grind
 . clear key p1 p2 q1 q2 ec es neg mir;grind
 . rcases h with h|h
   . exact .inl h
   . have:=h.2.1 g;right;clear key p1 p2 q1 q2 ec es neg mir;grind
 . rcases h with h|h
   . exact .inl h
   . exact .inr (h.2.2.1 g)
 . have:=S.2.2.2 g;clear key p1 p2 q1 q2 ec es neg mir;grind
 . clear key p1 p2 q1 q2 ec es neg mir;grind
 . rcases h with h|h
   . exact .inl h
   . have:=h.2.2.2 g;right;clear key p1 p2 q1 q2 ec es neg mir;grind
theorem Ke {yl yh xl xh k:Int} {r c s d:Rat} (hy:yl<=yh) (hx:xl<=xh) (hy2:-2147483648<=yl/\yh<=2147483648) (hx2:-2147483648<=xl/\xh<=2147483648) (eo:dX yl yh xl xh=false) (hr:0<=r) (n:Nr (c*c+s*s) 1 d) (hd:d<=tin)
 (p1:(xl:Rat)-eta<=r*c) (p2:r*c<=(xh:Rat)+eta) (q1:(yl:Rat)-eta<=r*s) (q2:r*s<=(yh:Rat)+eta)
 (h1:0<=cg k*s-sg k*c) (h2:cg (k+1)*s-sg (k+1)*c<=0) :
 ((k-aT yl yh xl xh)%21600000<=bi yl yh xl xh-aT yl yh xl xh/\(k+1-aT yl yh xl xh)%21600000<=bi yl yh xl xh-aT yl yh xl xh) ∨
 ((k-aT yl yh xl xh)%21600000<=bi yl yh xl xh-aT yl yh xl xh/\Nr c (cg k) (7*tin)/\Nr s (sg k) (7*tin)) ∨
 ((k+1-aT yl yh xl xh)%21600000<=bi yl yh xl xh-aT yl yh xl xh/\Nr c (cg (k+1)) (7*tin)/\Nr s (sg (k+1)) (7*tin)):=by
 have tn:tin<=1/100:=by unfold tin;decide +kernel
 have d1:d<=1/100:=Rat.le_trans hd tn;obtain ⟨a,b,ha,hb,ec,es⟩:=XJ k h1 h2;obtain ⟨_,D0,D1⟩:=iR k;obtain ⟨⟨a2,b2⟩,ab,nb,na⟩:=OB (Ff k) (Ff (k+1)) D0 D1 ha hb ec es n d1
 have near1:a<=tin->Nr c (cg (k+1)) (7*tin)/\Nr s (sg (k+1)) (7*tin):=fun h=>by
  have B:=nb tin h tn hd;exact ⟨Ac ec (g1 k).1 (g1 (k+1)).1 ha h B Rat.le_refl,Ac es (g1 k).2 (g1 (k+1)).2 ha h B Rat.le_refl⟩
 have near0:b<=tin->Nr c (cg k) (7*tin)/\Nr s (sg k) (7*tin):=fun h=>by
  have A:=na tin h tn hd;exact ⟨Ac (by rw [ec];exact Rat.add_comm _ _) (g1 (k+1)).1 (g1 k).1 hb h A Rat.le_refl,Ac (by rw [es];exact Rat.add_comm _ _) (g1 (k+1)).2 (g1 k).2 hb h A Rat.le_refl⟩
 have ho:¬ (xl<=0/\0<=xh/\yl<=0/\0<=yh):=of_decide_eq_false eo;have rh:=Qx hr n d1 hy2 hx2 p1 p2 q1 q2;obtain ⟨A,B,E,M,N,φ,ψ,⟨eL,eH⟩,hg,⟨m1,m2⟩,lin,f1,f2,g1',g2',sv⟩:=QE hy hx hy2 hx2 eo hr n d1 p1 p2 q1 q2;rw [eL,eH];obtain ⟨lf,lg⟩:=lin a b k ec es;have ec':c=b*cg (k+1)+a*cg k:=by rw [ec];exact Rat.add_comm _ _
 have es':s=b*sg (k+1)+a*sg k:=by rw [es];exact Rat.add_comm _ _
 have opp0:=fun S h=>KY ho hr rh p1 p2 q1 q2 ha hb ec es S (g1 (k+1)).1 (g1 (k+1)).2 h
 have opp1:=fun S h=>KY ho hr rh p1 p2 q1 q2 hb ha ec' es' S (g1 k).1 (g1 k).2 h
 have lf':-(2*eta*M)<=b*φ (k+1)+a*φ k:=by rw [Rat.add_comm];exact lf
 have lg':-(2*eta*N)<=b*ψ (k+1)+a*ψ k:=by rw [Rat.add_comm];exact lg
 have sa:a<=tin->_:=near1;clear p1 p2 q1 q2 n h1 h2 ec es ec' es' na nb D0 D1 lin eL eH hy hx hy2 hx2 eo hr rh ho hd d1 tn
 by_cases c1:(k-A)%21600000<=10799999
 . by_cases c2:(k-A)%21600000+1<=(B-A)%21600000+(if E=true then 0 else 1)
   . left
     clear near0 near1 opp0 opp1 lf lg lf' lg' f1 f2 g1' g2' sv sa ab;cases E<;>simp only [Bool.false_eq_true,if_false,if_true] at*<;>omega
   . by_cases c3:(k-A)%21600000=(B-A)%21600000+(if E=true then 0 else 1)
     . right;left
       have x1:ψ k<=8*ee*N:=g2' k (.inl (by cases E<;>simp only [Bool.false_eq_true,if_false,if_true] at*<;>omega))
       have x2:ψ (k+1)<=-(1/10000000*N):=g1' (k+1) (by cases E<;>simp only [Bool.false_eq_true,if_false,if_true,false_and,true_and,or_false] at*<;>omega) (by cases E<;>simp only [Bool.false_eq_true,if_false,if_true] at*<;>omega)
       refine ⟨?_,near0 (mE hb ha a2 m2 x2 x1 lg')⟩;clear near0 near1 opp0 opp1 lf lg lf' lg' f1 f2 g1' g2' sv sa ab x1 x2;omega
     . exfalso;have x1:ψ k<=-(1/10000000*N):=g1' k (by cases E<;>simp only [Bool.false_eq_true,if_false,if_true,false_and,true_and,or_false] at*<;>omega) (by cases E<;>simp only [Bool.false_eq_true,if_false,if_true] at*<;>omega)
       by_cases c4:(k+1-B)%21600000<=10799999
       . have x2:ψ (k+1)<=-(1/10000000*N):=g1' (k+1) (by cases E<;>simp only [Bool.false_eq_true,if_false,if_true,false_and,true_and,or_false] at*<;>omega) c4
         exact xW ha hb ab m2 x1 x2 lg
       . have x2:ψ (k+1)<=8*ee*N:=g2' (k+1) (.inr (by cases E<;>simp only [Bool.false_eq_true,if_false,if_true] at*<;>omega))
         have sm:=mE ha hb b2 m2 x1 x2 lg;exact opp1 (sv (k+1) (.inl (by cases E<;>simp only [Bool.false_eq_true,if_false,if_true] at*<;>omega))) (.inl sm)
 . by_cases c2:(k-A)%21600000=21599999
   . right;right
     have x1:φ k<=-(1/10000000*M):=f1 k (by omega)
     have x2:φ (k+1)<=8*ee*M:=f2 (k+1) (.inl (by omega))
     refine ⟨?_,near1 (mE ha hb b2 m1 x1 x2 lf)⟩;clear near0 near1 opp0 opp1 lf lg lf' lg' f1 f2 g1' g2' sv sa ab x1 x2;cases E<;>simp only [Bool.false_eq_true,if_false,if_true] at*<;>omega
   . exfalso
     by_cases c3:10800002<=(k-A)%21600000
     . exact xW ha hb ab m1 (f1 k c3) (f1 (k+1) (by omega)) lf
     . by_cases c4:(k-A)%21600000=10800001
       . have x1:φ k<=8*ee*M:=f2 k (.inr c4);have x2:φ (k+1)<=-(1/10000000*M):=f1 (k+1) (by omega)
         exact opp0 (sv k (.inr c4)) (.inl (mE hb ha a2 m1 x2 x1 lf'))
       . exact opp0 (sv k (.inl (by omega))) (.inr (sv (k+1) (.inr (by omega))))
def del:Rat:=1/10000000000000000000000000000000000000000000000000000000000000000000000
theorem Uh:4<=mil*del:=by unfold mil del;decide +kernel
theorem Qy {x y:Rat} (h:¬ (x=0/\y=0)):∃ r c s:Rat,0<r/\x=r*c/\y=r*s/\Nr (c*c+s*s) 1 del/\1<=c*c+s*s:=by
 have q0:0<x*x+y*y:=by
  have a:=iV x;have b:=iV y;refine Rat.not_le.1 fun hh=>h ?_
  have a0:x*x=0:=by grind
  have b0:y*y=0:=by grind
  refine ⟨?_,?_⟩
  . rcases Rat.mul_eq_zero.1 a0 with k|k<;>exact k
  . rcases Rat.mul_eq_zero.1 b0 with k|k<;>exact k
 obtain ⟨r,r0,r1,r2⟩:=Rv _ q0;have hi:r*r⁻¹=1:=Rat.mul_inv_cancel _ (by grind)
 have i0:0<r⁻¹:=Rat.inv_pos.2 r0;have dk:=Uh;have mp:=ul;generalize r⁻¹=i at *
 have ii:0<i*i:=Rat.mul_pos i0 i0;refine ⟨r,x*i,y*i,r0,?_,?_,?_⟩
 . have:r*(x*i)=x*(r*i):=by grind
   rw [this,hi,Rat.mul_one]
 . have:r*(y*i)=y*(r*i):=by grind
   rw [this,hi,Rat.mul_one]
 . have e:x*i*(x*i)+y*i*(y*i)=(x*x+y*y)*(i*i):=by grind
   have o:r*r*(i*i)=1:=by
    have:r*r*(i*i)=(r*i)*(r*i):=by grind
    rw [this,hi,Rat.mul_one]
   rw [e];generalize x*x+y*y=q at *
   generalize i*i=j at *
   generalize r*r=R at *
   generalize mil=M at *
   generalize del=D at *
   have k1:=Rat.mul_nonneg (Rat.le_of_lt ii) (show 0<=q-R by grind)
   have k2:=Rat.mul_nonneg (Rat.le_of_lt ii) (show 0<=(M+4)*R-M*q by grind)
   clear hi i0 e r0 r1 r2 h q0
   have k3:M*(q*j)<=M+4:=by
    have:j*((M+4)*R-M*q)=(M+4)*(R*j)-M*(q*j):=by grind
    rw [this,o] at k2;clear k1 this;grind
   have one:1<=q*j:=by clear k2 k3;grind
   refine ⟨?_,one⟩;unfold Nr
   constructor
   . refine Rat.not_lt.1 fun hh=>?_
     have D0:0<=D:=by
      refine Rat.not_lt.1 fun h=>?_
      have:=Rat.mul_pos (show 0<M by grind) (show 0 < -D by grind)
      grind
     grind
   . refine Rat.not_lt.1 fun hh=>?_
     have:=Rat.mul_pos (show 0<M by grind) (show 0<q*j-1-D by grind)
     grind
theorem yz {L H:Int} {x e:Rat} (h:InE L H x e) (he:1073741824*e<=eta):(L:Rat)-eta<=1073741824*x/\1073741824*x<=(H:Rat)+eta:=by
 unfold InE at h;have u1:=Qk
 have k:∀ z:Rat,1073741824*(z*u30)=z:=fun z=>by
  have:1073741824*(z*u30)=z*(1073741824*u30):=by grind
  rw [this,u1,Rat.mul_one]
 have a:=k L;have b:=k H;clear k u1
 constructor<;>grind
theorem uf {x a t:Rat} (h:Nr x a t):Bt a a x t:=by unfold Nr at h;left;constructor<;>grind
theorem WK:8*del<=8*tin/\0<=del/\del<=tin/\del<=1/100/\0<tin:=by unfold del tin;decide +kernel
theorem Ka {yl yh xl xh:Int} (hy:yl<=yh) (hx:xl<=xh) (hy2:-2147483648<=yl/\yh<=2147483648) (hx2:-2147483648<=xl/\xh<=2147483648) {x y e:Rat} (hX:InE xl xh x e) (hY:InE yl yh y e) (he:1073741824*e<=eta) :
 ∃ r c s:Rat,0<=r/\x=r*c/\y=r*s/\(Nr (c*c+s*s) 1 del/\1<=c*c+s*s)/\Onc (aT yl yh xl xh) (bi yl yh xl xh) c s (8*tin):=by
 have S:=WK
 have U:∃ r c s:Rat,0<=r/\x=r*c/\y=r*s/\Nr (c*c+s*s) 1 del/\1<=c*c+s*s:=by
  by_cases z:x=0/\y=0
  . exact ⟨0,1,0,Rat.le_refl,by rw [z.1,Rat.zero_mul],by rw [z.2,Rat.zero_mul],by unfold Nr;constructor<;>(clear z hX hY;grind),by decide +kernel⟩
  . obtain ⟨r,c,s,a,b⟩:=Qy z;exact ⟨r,c,s,Rat.le_of_lt a,b⟩
 obtain ⟨r,c,s,r0,ex,ey,n,n1⟩:=U;refine ⟨r,c,s,r0,ex,ey,⟨n,n1⟩,?_⟩;obtain ⟨k,k0,k1,h1,h2⟩:=SG c s;have B:=Oj k n S.2.1 S.2.2.2.1 S.1 h1 h2;cases eo:dX yl yh xl xh
 . have sx:=yz hX he;have sy:=yz hY he;rw [ex] at sx;rw [ey] at sy;have ax:1073741824*(r*c)=1073741824*r*c:=by clear hX hY sx sy h1 h2;grind
   have ay:1073741824*(r*s)=1073741824*r*s:=by clear hX hY sx sy h1 h2;grind
   rw [ax] at sx;rw [ay] at sy;have hf:=Jz hy hx hy2 hx2 eo;have R:=Ke hy hx hy2 hx2 eo (Rat.mul_nonneg (show (0:Rat)<=1073741824 by decide) r0) n S.2.2.1 sx.1 sx.2 sy.1 sy.2 h1 h2
   have bb:=Aa yl yh xl xh;clear sx sy ax ay hX hY he h1 h2 ex ey eo hy hx hy2 hx2;generalize aT yl yh xl xh=L at *
   generalize bi yl yh xl xh=H at *
   have t7:7*tin<=8*tin:=by have:=S.2.2.2.2;clear S n B;grind
   have pk:=kT (m:=L+(k-L)%21600000) (n:=k) (by omega)
   have pm:=kT (m:=L+(k+1-L)%21600000) (n:=k+1) (by omega)
   rcases R with ⟨a,b⟩|⟨a,p,q⟩|⟨a,p,q⟩
   . exact ⟨L+(k-L)%21600000,L+(k+1-L)%21600000,by omega,by omega,by rw [pk.1,pm.1];exact B.1,by rw [pk.2,pm.2];exact B.2⟩
   . exact ⟨L+(k-L)%21600000,L+(k-L)%21600000,by omega,by omega,by rw [pk.1];exact (uf q).le t7,by rw [pk.2];exact (uf p).le t7⟩
   . exact ⟨L+(k+1-L)%21600000,L+(k+1-L)%21600000,by omega,by omega,by rw [pm.1];exact (uf q).le t7,by rw [pm.2];exact (uf p).le t7⟩
 . have eL:aT yl yh xl xh=0:=by unfold aT;rw [eo];rfl
   have eH:bi yl yh xl xh=21600000:=by unfold bi;rw [eo];rfl
   rw [eL,eH];exact ⟨k,k+1,by omega,by omega,B.1,B.2⟩
