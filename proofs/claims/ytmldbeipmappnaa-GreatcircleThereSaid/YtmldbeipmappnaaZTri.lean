/- Plain: distances along great circles, and the law of the triangle. -/
import Derived.Test.YtmldbeipmappnaaZGc
import Derived.Test.YtmldbeipmappnaaZDs
set_option linter.unusedVariables false
set_option linter.unusedSimpArgs false
namespace Go.Proofs.Ytmldbeipmappnaa
open Alm Sx
theorem Tv {p q P Q C t:Rat} (ht:0<=t) (hp:P<=p/\p<=1) (hq:Q<=q/\q<=1) (hC:C<=P*Q) (cP:C<=P+t) (cQ:C<=Q+t):C-t<=p*q:=by
 by_cases h:0<=q
 . have k1:=Rat.mul_nonneg (show 0<=p-P by grind) h
   by_cases h2:0<=P
   . have k2:=Rat.mul_nonneg h2 (show 0<=q-Q by grind)
     grind
   . have k2:=Rat.mul_nonneg (show 0<=-P by grind) (show 0<=1-q by grind)
     grind
 . have k1:=Rat.mul_nonneg (show 0<=1-p by grind) (show 0<=-q by grind)
   grind
theorem DR {p P q C t:Rat} (ht:0<=t) (hp:P<=p/\p<=1) (P1:-1<=P) (h:-t<=P-C*q):-(4*t)<=(p-P)*(p+P-2*(C*q)):=by
 have k:=Rat.mul_nonneg (show 0<=p-P by grind) (show 0<=p+P-2*(C*q)+2*t by grind)
 have k2:=Rat.mul_nonneg (show 0<=2-(p-P) by grind) ht
 grind
theorem O3 {p q r P Q S T t g:Rat} (ht:0<=t) (tb:t<=1) (hg:0<g) (htg:22*t<g*g) (u:P*P+S*S=1) (v:Q*Q+T*T=1) (hS:0<=S) (hT:0<=T) (sn:-t<=S*Q+P*T) (cP:P*Q-S*T<=P+t) (cQ:P*Q-S*T<=Q+t)
 (p1:-1<=p/\p<=1) (q1:-1<=q/\q<=1) (r1:-1<=r/\r<=1) (hp:P<=p+t) (hq:Q<=q+t) (gram:(r-p*q)*(r-p*q)<=(1-p*p)*(1-q*q)):P*Q-S*T<=r+g:=by
 have P1:-1<=P/\P<=1:=by
  have s:=bT S;clear cP cQ sn v gram
  constructor
  . refine Rat.not_lt.1 fun h=>?_
    have:=Rat.mul_pos (show 0 < -1-P by grind) (show 0<1-P by grind);grind
  . refine Rat.not_lt.1 fun h=>?_
    have:=Rat.mul_pos (show 0<P-1 by grind) (show 0<P+1 by grind);grind
 have Q1:-1<=Q/\Q<=1:=by
  have s:=bT T;clear cP cQ sn u gram
  constructor
  . refine Rat.not_lt.1 fun h=>?_
    have:=Rat.mul_pos (show 0 < -1-Q by grind) (show 0<1-Q by grind);grind
  . refine Rat.not_lt.1 fun h=>?_
    have:=Rat.mul_pos (show 0<Q-1 by grind) (show 0<Q+1 by grind);grind
 have S1:S<=1:=by
  have s:=bT P;clear cP cQ sn v gram;refine Rat.not_lt.1 fun h=>?_
  have:=Rat.mul_pos (show 0<S-1 by grind) (show 0<S+1 by grind);grind
 have T1:T<=1:=by
  have s:=bT Q;clear cP cQ sn u gram;refine Rat.not_lt.1 fun h=>?_
  have:=Rat.mul_pos (show 0<T-1 by grind) (show 0<T+1 by grind);grind
 have ST:=Rat.mul_nonneg hS hT;obtain ⟨C,hC⟩:∃ C,C=P*Q-S*T:=⟨_,rfl⟩
 have i1:P-C*Q=T*(S*Q+P*T):=by
  have:=congrArg (·*P) v;rw [hC];clear cP cQ sn gram hC u;grind
 have i2:Q-C*P=S*(S*Q+P*T):=by
  have:=congrArg (·*Q) u;rw [hC];clear cP cQ sn gram hC v i1;grind
 have F0:P*P+Q*Q-2*(C*(P*Q))+C*C-1=0:=by
  have a:=congrArg (·*(T*T)) u;have b:=congrArg (·*(P*P)) v;have c:=congrArg (·*(Q*Q)) u;rw [hC];clear cP cQ sn gram hC i1 i2;grind
 rw [<-hC] at cP cQ ⊢
 have j1:-t<=P-C*Q:=by
  rw [i1];have k:=Rat.mul_nonneg hT (show 0<=S*Q+P*T+t by grind)
  have k2:=Rat.mul_nonneg (show 0<=1-T by grind) ht
  clear cP cQ sn gram hC i1 i2 F0 u v;grind
 have j2:-t<=Q-C*P:=by
  rw [i2];have k:=Rat.mul_nonneg hS (show 0<=S*Q+P*T+t by grind)
  have k2:=Rat.mul_nonneg (show 0<=1-S by grind) ht
  clear cP cQ sn gram hC i1 i2 F0 u v;grind
 have CPQ:C<=P*Q:=by rw [hC];clear cP cQ sn gram i1 i2 F0 u v j1 j2;grind
 clear i1 i2 sn hC u v hS hT S1 T1 ST;refine Rat.not_lt.1 fun hr=>?_
 obtain ⟨p',a1,a2,a3,a4⟩:∃ p',P<=p'/\p<=p'/\p'<=p+t/\p'<=1:=by
  by_cases h:P<=p
  . exact ⟨p,h,Rat.le_refl,by grind,p1.2⟩
  . exact ⟨P,Rat.le_refl,by grind,hp,P1.2⟩
 obtain ⟨q',b1,b2,b3,b4⟩:∃ q',Q<=q'/\q<=q'/\q'<=q+t/\q'<=1:=by
  by_cases h:Q<=q
  . exact ⟨q,h,Rat.le_refl,by grind,q1.2⟩
  . exact ⟨Q,Rat.le_refl,by grind,hq,Q1.2⟩
 have low:=Tv ht ⟨a1,a4⟩ ⟨b1,b4⟩ CPQ cP cQ
 have j3:-t<=P-C*q':=by
  by_cases h:0<=C
  . have:=Rat.mul_nonneg h (show 0<=1-q' by grind);clear gram F0 low j1 j2;grind
  . have:=Rat.mul_nonneg (show 0<=-C by grind) (show 0<=q'-Q by grind);clear gram F0 low j2;grind
 have s1:=DR ht ⟨a1,a4⟩ P1.1 j3;have s2:=DR ht ⟨b1,b4⟩ Q1.1 j2;have d1:=Rat.mul_nonneg (show 0<=p'-p by grind) (show 0<=2-(p'+p) by grind)
 have d2:=Rat.mul_nonneg (show 0<=q'-q by grind) (show 0<=2-(q'+q) by grind)
 have o:∀ x y z:Rat,-1<=x/\x<=1->-1<=y/\y<=1->0<=z/\z<=t->-t<=x*y*z:=fun x y z hx hy hz=>by
  have xy:-1<=x*y:=by
   by_cases h:0<=y
   . have:=Rat.mul_nonneg (show 0<=x+1 by grind) h;clear gram F0 low s1 s2 d1 d2 j1 j2 j3;grind
   . have:=Rat.mul_nonneg (show 0<=1-x by grind) (show 0<=-y by grind);clear gram F0 low s1 s2 d1 d2 j1 j2 j3;grind
  have:=Rat.mul_nonneg (show 0<=x*y+1 by grind) hz.1
  clear gram F0 low s1 s2 d1 d2 j1 j2 j3;grind
 have pp:-1<=p'/\p'<=1:=⟨by grind,a4⟩
 have d3:=o r p' (q'-q) r1 pp ⟨by grind,by grind⟩
 have d4:=o r q (p'-p) r1 q1 ⟨by grind,by grind⟩
 have G:-(8*t)<=1-p'*p'-q'*q'-r*r+2*(p'*q'*r):=by
  clear F0 low s1 s2 j1 j2 j3 CPQ cP cQ o;grind
 have F:-(8*t)<=p'*p'+q'*q'-2*(C*(p'*q'))+C*C-1:=by
  clear G low d1 d2 d3 d4 j1 j2 j3 CPQ cP cQ o gram;have z:p'*p'+q'*q'-2*(C*(p'*q'))+C*C-1=(p'-P)*(p'+P-2*(C*q'))+(q'-Q)*(q'+Q-2*(C*P))+(P*P+Q*Q-2*(C*(P*Q))+C*C-1):=by clear F0 s1 s2;grind
  rw [z,F0];grind
 have w1:=Rat.mul_nonneg (show 0<=p'*q'-C+t by grind) (show 0<=C-r by grind)
 have C1:C<=1+t:=by clear gram F0 low s1 s2 d1 d2 j1 j2 j3 G F w1;grind
 have w2:=Rat.mul_nonneg ht (show 0<=3-(C-r) by grind)
 have w3:=Rat.mul_pos (show 0<(C-r)-g by grind) (show 0<(C-r)+g by grind)
 clear gram F0 low s1 s2 d1 d2 d3 d4 j1 j2 j3 CPQ cP cQ o a1 a2 a3 b1 b2 b3;have fin:(1-p'*p'-q'*q'-r*r+2*(p'*q'*r))+(p'*p'+q'*q'-2*(C*(p'*q'))+C*C-1)+2*((p'*q'-C+t)*(C-r))+(C-r)*(C-r)=2*(t*(C-r)):=by clear G F w1 w2 w3;grind
 generalize 1-p'*p'-q'*q'-r*r+2*(p'*q'*r)=X at *
 generalize p'*p'+q'*q'-2*(C*(p'*q'))+C*C-1=Y at *
 generalize (p'*q'-C+t)*(C-r)=Z at *
 clear hp hq p1 q1 r1 P1 Q1 pp;grind
theorem wD {a1 a2 a3 b1 b2 b3:Rat} (ha:a1*a1+a2*a2+a3*a3=1) (hb:b1*b1+b2*b2+b3*b3=1):(b2*a3-b3*a2)*(b2*a3-b3*a2)+(b3*a1-b1*a3)*(b3*a1-b1*a3)+(b1*a2-b2*a1)*(b1*a2-b2*a1)=1-(a1*b1+a2*b2+a3*b3)*(a1*b1+a2*b2+a3*b3):=by
 have m:(a1*a1+a2*a2+a3*a3)*(b1*b1+b2*b2+b3*b3)=1:=by rw [ha,hb,Rat.mul_one]
 clear ha hb;grind
theorem TK (e1 e2 e3 f1 f2 f3:Rat):(e1*f1+e2*f2+e3*f3)*(e1*f1+e2*f2+e3*f3)<=(e1*e1+e2*e2+e3*e3)*(f1*f1+f2*f2+f3*f3):=by
 have x:=bT (e1*f2-e2*f1);have y:=bT (e2*f3-e3*f2);have z:=bT (e3*f1-e1*f3);have w:(e1*e1+e2*e2+e3*e3)*(f1*f1+f2*f2+f3*f3)-(e1*f1+e2*f2+e3*f3)*(e1*f1+e2*f2+e3*f3)=(e1*f2-e2*f1)*(e1*f2-e2*f1)+(e2*f3-e3*f2)*(e2*f3-e3*f2)+(e3*f1-e1*f3)*(e3*f1-e1*f3):=by clear x y z;grind
 grind
theorem Jk {a1 a2 a3 b1 b2 b3 c1 c2 c3:Rat} (ha:a1*a1+a2*a2+a3*a3=1) (hb:b1*b1+b2*b2+b3*b3=1) (hc:c1*c1+c2*c2+c3*c3=1) {p q r:Rat} (hp:p=a1*b1+a2*b2+a3*b3) (hq:q=c1*b1+c2*b2+c3*b3) (hr:r=a1*c1+a2*c2+a3*c3) :
 (r-p*q)*(r-p*q)<=(1-p*p)*(1-q*q):=by
 have L:=wD ha hb;have M:=wD hc hb;have C:=TK (b2*a3-b3*a2) (b3*a1-b1*a3) (b1*a2-b2*a1) (b2*c3-b3*c2) (b3*c1-b1*c3) (b1*c2-b2*c1);rw [L,M,<-hp,<-hq] at C
 have z:(b2*a3-b3*a2)*(b2*c3-b3*c2)+(b3*a1-b1*a3)*(b3*c1-b1*c3)+(b1*a2-b2*a1)*(b1*c2-b2*c1)=r-p*q:=by
  have k:=congrArg (·*r) hb;have w:(b2*a3-b3*a2)*(b2*c3-b3*c2)+(b3*a1-b1*a3)*(b3*c1-b1*c3)+(b1*a2-b2*a1)*(b1*c2-b2*c1)=(b1*b1+b2*b2+b3*b3)*(a1*c1+a2*c2+a3*c3)-(a1*b1+a2*b2+a3*b3)*(c1*b1+c2*b2+c3*b3):=by clear k L M C ha hb hc hp hq hr;grind
  rw [w,hb,<-hp,<-hq,<-hr,Rat.one_mul]
 rw [z] at C;exact C
def dot (a b c d:Int):Rat:=cg a*cg b*(cg c*cg d)+cg a*sg b*(cg c*sg d)+sg a*sg c
theorem qL (a b:Int):cg a*cg b*(cg a*cg b)+cg a*sg b*(cg a*sg b)+sg a*sg a=1:=by
 have u:=cO a;have v:=cO b;have k:=congrArg (·*(cg a*cg a)) v;clear v;grind
theorem Bo (a b c d:Int):O1 (dot a b c d):=by
 have L:=wD (qL a b) (qL c d);have s1:=bT (cg c*sg d*sg a-sg c*(cg a*sg b));have s2:=bT (sg c*(cg a*cg b)-cg c*cg d*sg a);have s3:=bT (cg c*cg d*(cg a*sg b)-cg c*sg d*(cg a*cg b));have e:dot a b c d=cg a*cg b*(cg c*cg d)+cg a*sg b*(cg c*sg d)+sg a*sg c:=rfl;rw [<-e] at L;have h:dot a b c d*dot a b c d<=1:=by clear e;grind
 clear L s1 s2 s3 e;generalize dot a b c d=D at *
 unfold O1
 constructor
 . refine Rat.not_lt.1 fun k=>?_
   have:=Rat.mul_pos (show 0 < -1-D by grind) (show 0<1-D by grind);grind
 . refine Rat.not_lt.1 fun k=>?_
   have:=Rat.mul_pos (show 0<D-1 by grind) (show 0<D+1 by grind);grind
theorem jW {x y:Rat} (hx:O1 x) (hy:O1 y):O1 (x*y):=by
 unfold O1 at *
 have a:=Rat.mul_nonneg (show 0<=1-x by grind) (show 0<=1-y by grind)
 have b:=Rat.mul_nonneg (show 0<=1-x by grind) (show 0<=1+y by grind)
 have c:=Rat.mul_nonneg (show 0<=1+x by grind) (show 0<=1-y by grind)
 have d:=Rat.mul_nonneg (show 0<=1+x by grind) (show 0<=1+y by grind)
 constructor<;>grind
theorem lT {x y z e:Rat} (hx:O1 x) (h:Nr y z e):Nr (x*y) (x*z) e:=by
 unfold O1 Nr at *
 have a:=Rat.mul_nonneg (show 0<=1-x by grind) (show 0<=e-(y-z) by grind)
 have b:=Rat.mul_nonneg (show 0<=1-x by grind) (show 0<=e+(y-z) by grind)
 have c:=Rat.mul_nonneg (show 0<=1+x by grind) (show 0<=e-(y-z) by grind)
 have d:=Rat.mul_nonneg (show 0<=1+x by grind) (show 0<=e+(y-z) by grind)
 constructor<;>grind
theorem abP (n:Int):sg (sgd n)=sg n/\cg (sgd n)=cg n:=pR (by unfold sgd;split<;>omega)
theorem wJ (a b c d:Int):Nr (dot a b c d) (sg a*sg c+cg a*cg c*cg (sgd (d-b))) (70*ee):=by
 have s:=ik b d;rw [(abP (d-b)).2];have m:=lT (jW (g1 a).1 (g1 c).1) s;unfold dot Nr at *
 clear s
 constructor<;>grind
theorem Px (a b c d:Int):InE (iN a c (sgd (d-b))).1 (iN a c (sgd (d-b))).2 (1/2*(1-dot a b c d)) (100*ee):=by
 have ep:=bz;have p1:(0:Rat)<=2*ee:=by grind
 have um:=(U_M (U_C a a) (U_C c c)).2.2;have um2:=(U_M um (U_H (sgd (d-b)))).2.2;have M2:=fI (U_C a a) (U_C c c) (lM a a a (.inl rfl)) (lM c c c (.inl rfl)) p1 p1 (g1 a).1;have M3:=fI um (U_H (sgd (d-b))) M2 (G8 (sgd (d-b))) (by grind) (by grind) (jW (g1 a).1 (g1 c).1)
 have A:=Cq (U_H (c-a)) um2 (G8 (c-a)) M3;have D:=ik a c;have E:=wJ a b c d;unfold InE at A ⊢
 unfold Nr at D E;show ((uA _ _).1:Rat)*u30-_<=_/\_<=((uA _ _).2:Rat)*u30+_;clear um um2 M2 M3 p1
 constructor<;>grind
theorem aeJ (x:Int):max x 0=x/\0<=x∨max x 0=0/\x<=0:=by omega
theorem aeB (x:Int):min x 1073741824=x/\x<=1073741824∨min x 1073741824=1073741824/\1073741824<=x:=by omega
theorem TE {y:Int} {z:Rat} (hy:y<=1073741824) (hz:z<=1) (h:z<=(y:Rat)*u30):z-10*ee<=cg (jJ y):=by
 have ep:=bz;unfold jJ;have e1:yn y 1073741824=y:=by unfold yn;split<;>omega
 rw [e1];obtain ⟨a0,a1,a2,_⟩:=dE (-y);generalize bR (-y)=m at *
 have q:=(gq m).2;rw [show (5400000:Int)+m=m+5400000 by omega]
 unfold Nr at q;rcases a2 with a2|a2
 . have l:bHi (-5400000)=-1073741824:=by decide +kernel
   have s:=(ww m).2;rw [a2] at s q ⊢
   rw [l] at s;have u1:=fe;have k:((-1073741824:Int):Rat)=-1073741824:=rfl;rw [k] at s;clear a0 a1 h;grind
 . have s:=(ww m).2;have c:(bHi m:Rat)<=((-y:Int):Rat):=Rat.intCast_le_intCast.2 a2;rw [Rat.intCast_neg] at c;have u:=Rat.mul_le_mul_of_nonneg_right c (Rat.le_of_lt dU);clear a0 a1 a2 c e1;grind
theorem Mr (m:Int):Nr (sg (-m)) (-sg m) (80*ee):=by
 have h:=nO m 0;have z0:sg 0=0/\cg 0=1:=by decide +kernel
 rw [z0.1,z0.2,show (0:Int)-m=-m by omega] at h
 unfold Nr at *
 constructor<;>grind
theorem LH {y:Int} {z:Rat} (hy:-1073741824<=y) (hz:-1<=z) (h:(y:Rat)*u30<=z):cg (jc y)<=z+100*ee:=by
 have ep:=bz;unfold jc;have e1:rD y (-1073741824)=y:=by unfold rD;split<;>omega
 rw [e1];obtain ⟨a0,a1,a2,_⟩:=dE y;generalize bR y=m at *
 have q:=(gq (-m)).2;have o:=Mr m;rw [show (5400000:Int)-m=-m+5400000 by omega]
 unfold Nr at q o;rcases a2 with a2|a2
 . have l:bHi (-5400000)=-1073741824:=by decide +kernel
   have s:=(ww m).2;rw [a2] at s q o ⊢
   rw [l] at s;have u1:=fe;have k:((-1073741824:Int):Rat)=-1073741824:=rfl;rw [k] at s;clear a0 a1 h;grind
 . have s:=(ww m).2;have c:(bHi m:Rat)<=(y:Rat):=Rat.intCast_le_intCast.2 a2;have u:=Rat.mul_le_mul_of_nonneg_right c (Rat.le_of_lt dU);clear a0 a1 a2 c e1;grind
theorem fxR (y:Int):((1073741824-2*y:Int):Rat)*u30=1-2*((y:Rat)*u30):=by
 have u1:=fe;rw [Rat.intCast_sub,Rat.intCast_mul];have k:((1073741824:Int):Rat)=1073741824:=rfl;have k2:((2:Int):Rat)=2:=rfl;rw [k,k2];grind
theorem lK (a b c d:Int):dot a b c d-300*ee<=cg ((aP a b c d).getD 0 0)/\cg ((aP a b c d).getD 1 0)<=dot a b c d+300*ee:=by
 obtain ⟨e0,e1,_⟩:=qi a b c d;rw [e0,e1];have T:=Px a b c d;have o:=Bo a b c d;have ep:=bz;have u1:=fe;unfold InE at T;unfold O1 at o;generalize (iN a c (sgd (d-b))).1=L at *
 generalize (iN a c (sgd (d-b))).2=H at *
 generalize dot a b c d=D at *
 have z0:((0:Int):Rat)*u30=0:=by rw [show ((0:Int):Rat)=0 from rfl,Rat.zero_mul]
 constructor
 . unfold Dm
   have k:=TE (y:=1073741824-2*max L 0) (z:=D-200*ee) (by omega) (by clear T;grind) (by
    rw [fxR];rcases aeJ L with m|m
    . rw [m.1];clear m;grind
    . rw [m.1,z0];clear T;grind)
   clear T u1 z0;grind
 . unfold Cc
   have k:=LH (y:=1073741824-2*min H 1073741824) (z:=D+200*ee) (by omega) (by clear T;grind) (by
    rw [fxR];rcases aeB H with m|m
    . rw [m.1];clear m;grind
    . rw [m.1,show ((1073741824:Int):Rat)=1073741824 from rfl,u1];clear T;grind)
   clear T u1 z0;grind
theorem VZ (x y:Int):Nr (sg (x+y)) (sg x*cg y+cg x*sg y) (300*ee):=by
 have h:=nO (-y) x;have o:=Mr y;have c:=ik y 0;have z0:sg 0=0/\cg 0=1:=by decide +kernel
 rw [z0.1,z0.2,show (0:Int)-y=-y by omega] at c
 rw [show x - -y=x+y by omega] at h
 have m1:=lT (g1 x).2 (y:=cg (-y)) (z:=cg y) (e:=70*ee) (by unfold Nr at *;constructor<;>grind)
 have m2:=lT (g1 x).1 o;have e:=bz;unfold Nr at *
 clear o c z0
 constructor<;>grind
theorem Am (a b c d m n:Int) (h1:PtV a b) (h2:PtV c d) (h3:PtV m n) (B1:0<=(aP a b c d).getD 1 0/\(aP a b c d).getD 1 0<=10800000) (B2:0<=(aP c d m n).getD 1 0/\(aP c d m n).getD 1 0<=10800000) (B3:0<=(aP a b m n).getD 0 0/\(aP a b m n).getD 0 0<=10800000) :
 (aP a b m n).getD 0 0<=(aP a b c d).getD 1 0+(aP c d m n).getD 1 0:=by
 obtain ⟨_,x1⟩:=lK a b c d;obtain ⟨_,y1⟩:=lK c d m n;obtain ⟨z1,_⟩:=lK a b m n;generalize (aP a b c d).getD 1 0=X at *
 generalize (aP c d m n).getD 1 0=Y at *
 generalize (aP a b m n).getD 0 0=Z at *
 refine Int.not_lt.1 fun hh=>?_
 have ep:=bz;have ca:=aaJ Y X;have sa:=VZ X Y;have s0:=kg (X+Y) (by omega)
 have gx:=uR X (X+Y) B1.1 (by omega) (by omega)
 have gy:=uR Y (X+Y) B2.1 (by omega) (by omega)
 have gz:=sZ (X+Y) Z (by omega) hh B3.2
 have sX:=kg X (by omega)
 have sY:=kg Y (by omega)
 have G:=Jk (qL a b) (qL c d) (qL m n) (p:=dot a b c d) (q:=dot c d m n) (r:=dot a b m n) rfl (by unfold dot;grind) rfl
 have tn:=Ad;unfold Nr at ca sa;have uX:cg X*cg X+sg X*sg X=1:=by have:=cO X;clear ca sa G;grind
 have uY:cg Y*cg Y+sg Y*sg Y=1:=by have:=cO Y;clear ca sa G;grind
 have T:=O3 (t:=2000*ee) (g:=1/10000000000000000) tn.2.2.1 tn.2.1 (by decide +kernel) tn.1 uX uY sX sY (by clear G ca gx gy gz uX uY;grind) (by clear G sa gy gz uX uY;grind) (by clear G sa gx gz uX uY;grind) (Bo a b c d) (Bo c d m n) (Bo a b m n) (by clear G ca sa gx gy gz uX uY;grind) (by clear G ca sa gx gy gz uX uY;grind) G
 clear G sa gx gy uX uY x1 y1 s0;grind
theorem Oo (a b c d:Int) (h1:PtV a b) (h2:PtV c d) (B1:0<=(aP a b c d).getD 1 0/\(aP a b c d).getD 1 0<=10800000):a-c<=(aP a b c d).getD 1 0/\c-a<=(aP a b c d).getD 1 0:=by
 obtain ⟨_,x1⟩:=lK a b c d;generalize (aP a b c d).getD 1 0=X at *
 have ep:=bz;have E:=wJ a b c d;have c1:=fP a (by unfold PtV at h1;omega)
 have c2:=fP c (by unfold PtV at h2;omega)
 have k:=Rat.mul_nonneg (Rat.mul_nonneg c1 c2) (show 0<=1-cg (sgd (d-b)) by have:=(g1 (sgd (d-b))).1.2;grind)
 have g:=Ad.2.2.2
 have main:∀ n:Int,(n=a-c∨n=c-a)->n<=X:=fun n hn=>by
  refine Int.not_lt.1 fun hh=>?_
  have f:=sZ X n B1.1 hh (by unfold PtV at h1 h2;omega)
  have cs:Nr (cg n) (sg a*sg c+cg a*cg c) (70*ee):=by
   rcases hn with rfl|rfl
   . have:=ik c a;unfold Nr at *;clear E k;constructor<;>grind
   . have:=ik a c;unfold Nr at *;clear E k;constructor<;>grind
  unfold Nr at E cs;clear hn hh B1 h1 h2 c1 c2;grind
 exact ⟨main _ (.inl rfl),main _ (.inr rfl)⟩
