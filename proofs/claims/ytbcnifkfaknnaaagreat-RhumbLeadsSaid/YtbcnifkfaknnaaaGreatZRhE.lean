/- Plain numbers: the number whose artanh is taken is near the exact one. -/
import Derived.Test.YtbcnifkfaknnaaaGreatZRhD
set_option linter.unusedVariables false
set_option linter.unusedSimpArgs false
namespace Alm
theorem Ul (s t u v b d:Rat) (hd:0<d) (t1:-(220*d)<=t-s) (t2:t-s<=220*d) (u1:u*(1-t)<=1+t) (u2:1+t<=(u+d)*(1-t)) (v1:v*b<=u) (v2:u<=(v+d)*b) (s0:0<=s) (s1:s<=1) (q0:0<=t) (q1:t<=1) (u0:0<=u) (u3:u<=400000) (b0:0<=b) (b1:b<=524288) :
 -(90000000*d)<=v*(b*(1-s))-(1+s)/\v*(b*(1-s))-(1+s)<=90000000*d:=by
 have k:=aB u (t-s) 400000 (220*d) (by grind) u3 t1 t2
 have k1:=Rat.mul_nonneg (show 0<=u-v*b by grind) (show 0<=1-s by grind)
 have k2:=Rat.mul_nonneg (show 0<=(v+d)*b-u by grind) (show 0<=1-s by grind)
 have k3:=Rat.mul_nonneg (show 0<=d by grind) (show 0<=524288-b by grind)
 have k4:=Rat.mul_nonneg (Rat.mul_nonneg (show 0<=d by grind) b0) s0
 have k5:=Rat.mul_nonneg (show 0<=d by grind) q0
 constructor
 . grind
 . grind
theorem MR (s b v z y N E d:Rat) (hd:0<d) (hE:E=v*(b*(1-s))-(1+s)) (E1:-(90000000*d)<=E) (E2:E<=90000000*d) (z1:-(d*(v+1))<=z*(v+1)-(v-1)) (z2:z*(v+1)-(v-1)<=d*(v+1)) (s0:0<=s) (s1:s<=1) (b0:0<=b) (b1:b<=524288) (v0:0<=v) (v1:v<=3/2) (za:-(2/5)<=z) (zb:z<=2/5) (hN:N=(1+s)+b*(1-s)) (hy:y*N=(1+s)-b*(1-s)):-(200000000*d)<=z-y/\z-y<=200000000*d:=by
 have w0:=Rat.mul_nonneg b0 (show 0<=1-s by grind)
 have w1:b*(1-s)<=524288:=by
  have:=Rat.mul_nonneg b0 s0;grind
 generalize hW:b*(1-s)=w at *
 have N1:1<=N:=by grind
 have e3a:-(5/2*d)<=z*(v+1)-(v-1):=by
  have:=Rat.mul_nonneg (show 0<=d by grind) (show 0<=3/2-v by grind);grind
 have e3b:z*(v+1)-(v-1)<=5/2*d:=by
  have:=Rat.mul_nonneg (show 0<=d by grind) (show 0<=3/2-v by grind);grind
 have m1:=aB (z*(v+1)-(v-1)) w (5/2*d) 524288 e3a e3b (by grind) w1
 have m2:=aB z E (2/5) (90000000*d) za zb E1 E2
 have key:(z-y)*N=E+(z*(v+1)-(v-1))*w-z*E:=by
  have:(z-y)*N=z*N-y*N:=by grind
  rw [this,hy,hN,hE];grind
 generalize (z*(v+1)-(v-1))*w=M at *
 generalize z*E=F at *
 clear z1 z2 e3a e3b hE hN hy hW;have lo:-(200000000*d)<=(z-y)*N:=by rw [key];grind
 have hi:(z-y)*N<=200000000*d:=by rw [key];grind
 clear key m1 m2
 constructor
 . rcases Rat.le_total (a:=-(200000000*d)) (b:=z-y) with g|g
   . exact g
   . have:=Rat.mul_nonneg (show 0<=-(200000000*d)-(z-y) by grind) (show 0<=N-1 by grind)
     have:=Rat.mul_nonneg (show 0<=d by grind) (show 0<=N-1 by grind)
     grind
 . rcases Rat.le_total (a:=z-y) (b:=200000000*d) with g|g
   . exact g
   . have:=Rat.mul_nonneg (show 0<=(z-y)-200000000*d by grind) (show 0<=N-1 by grind)
     have:=Rat.mul_nonneg (show 0<=d by grind) (show 0<=N-1 by grind)
     grind
theorem kX (X Y:Nat) (hY:0<Y):(bD X Y:Rat)*ak*(Y*ak)<=X*ak/\(X:Rat)*ak<=((bD X Y:Rat)*ak+ak)*(Y*ak):=by
 have q:=fU (X*QA) Y hY;have hq:=zF;have hd:=bn;unfold bD;rw [Rat.natCast_mul] at q;generalize ((X*QA/Y:Nat):Rat)=u at *
 generalize (X:Rat)=x at *
 generalize (Y:Rat)=y at *
 generalize (QA:Rat)=Q at *
 generalize ak=d at *
 have k1:=Rat.mul_le_mul_of_nonneg_right q.1 (aH d);have k2:=Rat.mul_le_mul_of_nonneg_right q.2 (aH d);have e:x*Q*(d*d)=x*d:=by rw [show x*Q*(d*d)=x*d*(Q*d) by grind,hq];grind
 rw [e] at k1 k2
 constructor<;>grind
theorem tJ {a b:Nat} (h:a<=b):(a:Rat)*ak<=(b:Rat)*ak:=Rat.mul_le_mul_of_nonneg_right (bS _ _ h) (by have:=bn;grind)
theorem yS {a b:Nat} (h:b<=a):((a-b:Nat):Rat)*ak=(a:Rat)*ak-(b:Rat)*ak:=by rw [gZ a b h];grind
theorem xV (a b:Nat):((a+b:Nat):Rat)*ak=(a:Rat)*ak+(b:Rat)*ak:=by rw [Rat.natCast_add];grind
def bN (n:Nat):Rat:=((2^(kN n):Nat):Rat)
def zeN (n:Nat):Rat:=if vN n<QA then -((zN n:Rat)*ak) else (zN n:Rat)*ak
def zq (b s:Rat):Rat:=((1+s)-b*(1-s))/((1+s)+b*(1-s))
theorem uU (b s:Rat) (hb:0<=b) (s0:0<=s) (s1:s<=1):zq b s*((1+s)+b*(1-s))=(1+s)-b*(1-s):=by
 unfold zq;apply Rat.div_mul_cancel;have:=Rat.mul_nonneg hb (show 0<=1-s by grind)
 grind
theorem NP (n:Nat) (h:n<=5340000):1<=bN n/\bN n<=524288:=by
 have v:=QZ n h;have a:1<=2^(kN n):=Nat.one_le_two_pow;have b:2^(kN n)<=2^19:=Nat.pow_le_pow_right (by omega) v.2.2.2.2.2
 have ra:=bS _ _ a;have rb:=bS _ _ b;unfold bN;have e1:((1:Nat):Rat)=1:=rfl;have e2:((2^19:Nat):Rat)=524288:=by decide +kernel
 rw [e1] at ra;rw [e2] at rb;exact ⟨ra,rb⟩
theorem Ry (a b d:Rat):a*d*b=a*b*d:=by grind
theorem UL (a b d:Rat):(a*d+d)*b=(a*b+b)*d:=by grind
theorem xE (n:Nat) (h:n<=5340000):(-(200000000*ak)<=zeN n-zq (bN n) (zs n)/\zeN n-zq (bN n) (zs n)<=200000000*ak)/\-(1/7)<=zeN n/\zeN n<=1/5+2*ak/\(vN n<QA->zeN n<=0)/\(¬ vN n<QA->0<=zeN n):=by
 have q:=dD;have hq:=zF;have hd:=bn;have hd1:=ko;have u:=Ky n h;have v:=QZ n h;have z:=VS n h;have sb:=sc_bd n h;have e:=(pK n h).2;have t:=AQ n h;rw [<-e,Rat.intCast_natCast] at t
 have lo:(QA+QA/2)/2<=vN n:=by
  rcases v.2.2.2.1 with x|x
  . have:=v.2.2.2.2.1 x;omega
  . exact x
 have bb:=NP n h;have t0:0<=(bL n:Rat)*ak:=Rat.mul_nonneg (aF _) (by grind)
 have t1:=tJ (Nat.le_of_lt u.2.2);have ru:=kX (QA+bL n) (QA-bL n) (by omega)
 rw [yS (Nat.le_of_lt u.2.2),xV,hq] at ru;rw [hq] at t1;have hu:bD (QA+bL n) (QA-bL n)=uN n:=rfl;rw [hu] at ru;have u0:0<=(uN n:Rat)*ak:=Rat.mul_nonneg (aF _) (by grind)
 have u4:=tJ u.2.1;rw [Rat.natCast_mul] at u4;have e4:((400000:Nat):Rat)=400000:=rfl;rw [e4,Rat.mul_assoc,hq] at u4;have rv:=fU (uN n) (2^(kN n)) (Nat.two_pow_pos _);rw [<-v.2.2.1] at rv;have eb:((2^(kN n):Nat):Rat)=bN n:=rfl;rw [eb] at rv;have v0:0<=(vN n:Rat)*ak:=Rat.mul_nonneg (aF _) (by grind)
 have v3:=tJ (show 2*vN n<=3*QA by omega)
 rw [Rat.natCast_mul,Rat.natCast_mul] at v3;have e2:((2:Nat):Rat)=2:=rfl;have e3:((3:Nat):Rat)=3:=rfl;rw [e2,e3,Rat.mul_assoc,Rat.mul_assoc,hq] at v3;have z0:0<=(zN n:Rat)*ak:=Rat.mul_nonneg (aF _) (by grind)
 have z5:=tJ z.1;rw [Rat.natCast_mul,Rat.natCast_mul,e2] at z5;have e5:((5:Nat):Rat)=5:=rfl;rw [e5,Rat.mul_assoc,Rat.mul_assoc,hq] at z5
 have hz:(-(ak*((vN n:Rat)*ak+1))<=zeN n*((vN n:Rat)*ak+1)-((vN n:Rat)*ak-1)/\zeN n*((vN n:Rat)*ak+1)-((vN n:Rat)*ak-1)<=ak*((vN n:Rat)*ak+1))/\-(1/7)<=zeN n/\zeN n<=2/5/\(vN n<QA->zeN n<=0)/\(¬ vN n<QA->0<=zeN n):=by
  by_cases c:vN n<QA
  . have r:=kX (QA-vN n) (vN n+QA) (by omega)
    have ez:bD (QA-vN n) (vN n+QA)=zN n:=by unfold zN;rw [if_pos c]
    rw [ez,yS (Nat.le_of_lt c),xV,hq] at r;have ee:zeN n=-((zN n:Rat)*ak):=by unfold zeN;rw [if_pos c]
    have z7:=tJ (z.2 c);rw [Rat.natCast_mul] at z7;have e7:((7:Nat):Rat)=7:=rfl;rw [e7,Rat.mul_assoc,hq] at z7;rw [ee];clear rv ru u0 u4 t t0 t1 v3 sb bb ez ee lo q u v z e hu eb hq e2 e3 e4 e5 h;generalize (zN n:Rat)*ak=zz at *
    generalize (vN n:Rat)*ak=vv at *
    generalize ak=d at *
    refine ⟨⟨by grind,by grind⟩,by grind,by grind,fun _=>by grind,fun x=>absurd c x⟩
  . have r:=kX (vN n-QA) (vN n+QA) (by omega)
    have ez:bD (vN n-QA) (vN n+QA)=zN n:=by unfold zN;rw [if_neg c]
    rw [ez,yS (Nat.le_of_not_lt c),xV,hq] at r;have ee:zeN n=(zN n:Rat)*ak:=by unfold zeN;rw [if_neg c]
    rw [ee];clear rv ru u0 u4 t t0 t1 v3 sb bb ez ee lo q u v z e hu eb hq e2 e3 e4 e5 h;generalize (zN n:Rat)*ak=zz at *
    generalize (vN n:Rat)*ak=vv at *
    generalize ak=d at *
    refine ⟨⟨by grind,by grind⟩,by grind,by grind,fun x=>absurd x c,fun _=>by grind⟩
 obtain ⟨⟨h1,h2⟩,h3,h4,h5,h6⟩:=hz;have mk:=uU (bN n) (zs n) (Rat.le_trans (by decide) bb.1) sb.2.2.1 (dL n).2
 have k1:=Rat.mul_le_mul_of_nonneg_right rv.1 (show 0<=ak by grind)
 have k2:=Rat.mul_le_mul_of_nonneg_right rv.2 (show 0<=ak by grind)
 have v32:(vN n:Rat)*ak<=3/2:=by
  clear mk k1 k2 rv ru u0 u4 t t0 t1 sb bb lo q u v z e hu eb hq h1 h2 h3 h4 h5 h6 z5;grind
 clear lo q u v z e hu eb e2 e3 e4 e5
 have z15:zeN n<=1/5+2*ak:=by
  clear mk k1 k2 rv ru u0 u4 t t0 t1 v3 sb z5 h3 h5 h6 h1 bb hq h;generalize zeN n=zz at *
  generalize (vN n:Rat)*ak=vv at *
  generalize ak=d at *
  rcases Rat.le_total (a:=zz) (b:=1/5+2*d) with g|g
  . exact g
  . have a1:=Rat.mul_nonneg (show 0<=zz-(1/5+2*d) by grind) (show 0<=vv+1 by grind)
    have a2:=Rat.mul_nonneg (show 0<=d by grind) v0
    grind
 refine ⟨?_,h3,z15,h5,h6⟩;have l1:=(dL n).2;have b0:0<=bN n:=Rat.le_trans (by decide) bb.1
 rw [Rat.mul_one] at u4;rw [<-Ry] at k1;rw [<-UL] at k2;have za:-(2/5)<=zeN n:=Rat.le_trans (by decide +kernel) h3
 have E:=Ul (zs n) ((bL n:Rat)*ak) ((uN n:Rat)*ak) ((vN n:Rat)*ak) (bN n) ak hd t.1 t.2 ru.1 ru.2 k1 k2 sb.2.2.1 l1 t0 t1 u0 u4 b0 bb.2;exact MR (zs n) (bN n) ((vN n:Rat)*ak) (zeN n) (zq (bN n) (zs n)) _ _ ak hd rfl E.1 E.2 h1 h2 sb.2.2.1 l1 b0 bb.2 v0 v32 za h4 rfl mk
end Alm
namespace Alm
theorem Jo (f:Nat):∀ U,eG f U<=eG (f+1) U:=by
 induction f with
 | zero=>intro U;simp only [eG];omega
 | succ f ih =>
  intro U;have:=ih (U/2);rw [show eG (f+1+1) U=(if U<QA+QA/2 then 0 else eG (f+1) (U/2)+1) from rfl,show eG (f+1) U=(if U<QA+QA/2 then 0 else eG f (U/2)+1) from rfl]
  split<;>omega
theorem yN (f:Nat):∀ U V,U<=V->eG f U<=eG f V:=by
 induction f with
 | zero=>intro U V _;simp only [eG];omega
 | succ f ih =>
  intro U V h;have:=ih (U/2) (V/2) (by omega)
  simp only [eG];split
  . omega
  . split<;>omega
theorem Od (f:Nat) (U V:Nat) (h:V<=2*U+1):eG f V<=eG f U+1:=by
 cases f with
 | zero=>simp only [eG];omega
 | succ f =>
  have a:=yN f (V/2) U (by omega)
  have b:=Jo f U;rw [show eG (f+1) V=(if V<QA+QA/2 then 0 else eG f (V/2)+1) from rfl]
  split<;>omega
theorem Fw (z y:Rat) (hz:-(1/4)<=z) (hy:y<=1/4) (hzy:z<=y):0<=at' 96 y-at' 96 z/\at' 96 y-at' 96 z<=2*(y-z):=by
 have b1:=aB z y (1/4) (1/4) hz (by grind) (by grind) hy
 have e:(y-z)/(1-z*y)*(1-z*y)=y-z:=Rat.div_mul_cancel (by grind)
 generalize (y-z)/(1-z*y)=D at e;obtain ⟨_,h2,h3,h4,h5⟩:=AP z y D hz hy hzy e;refine ⟨h5,?_⟩;generalize at' 96 y-at' 96 z=X at *
 generalize z*y=w at *
 have k1:=Rat.mul_nonneg h3 (show 0<=1/16-w by grind)
 have k2:=Rat.mul_nonneg h3 (show 0<=1/16+w by grind)
 have k3:=Rat.mul_nonneg h3 (show 0<=8/15-D by grind)
 have k4:=Rat.mul_nonneg h5 (show 0<=64/225-D*D by grind)
 grind
theorem OT (z y e:Rat) (hz:-(1/4)<=z) (hz2:z<=1/4) (hy:-(1/4)<=y) (hy2:y<=1/4) (h1:-e<=y-z) (h2:y-z<=e):-(2*e)<=at' 96 y-at' 96 z/\at' 96 y-at' 96 z<=2*e:=by
 rcases Rat.le_total (a:=z) (b:=y) with g|g
 . have:=Fw z y hz hy2 g;generalize at' 96 y=a at *
   generalize at' 96 z=b at *
   constructor<;>grind
 . have:=Fw y z hy hz2 g;generalize at' 96 y=a at *
   generalize at' 96 z=b at *
   constructor<;>grind
theorem NC (z y D e:Rat) (hz:-(1/4)<=z) (hz2:z<=1/4) (hy:-(1/4)<=y) (hy2:y<=1/4) (he:0<=e) (he1:e<=1/100) (h:-e<=y-z) (hD:D*(1-z*y)=y-z) :
 D-2*aU-4*e<=at' 96 y-at' 96 z/\(1-D*D)*(at' 96 y-at' 96 z)<=D+4*e/\-(2*e)<=D/\D<=8/15:=by
 have hd:=dU;have b1:=aB z y (1/4) (1/4) hz hz2 hy hy2;rcases Rat.le_total (a:=z) (b:=y) with g|g
 . obtain ⟨h1,h2,h3,h4,_⟩:=AP z y D hz hy2 g hD;generalize at' 96 y-at' 96 z=X at *
   exact ⟨by grind,by grind,by grind,h4⟩
 . have l:=Fw y z hy hz2 g;generalize at' 96 y=a at *
   generalize at' 96 z=b at *
   generalize z*y=w at *
   have D0:D<=0:=by
    rcases Rat.le_total (a:=D) (b:=0) with k|k
    . exact k
    . have:=Rat.mul_nonneg k (show 0<=1-w-1/2 by grind)
      grind
   have D1:-(2*e)<=D:=by
    rcases Rat.le_total (a:=-(2*e)) (b:=D) with k|k
    . exact k
    . have:=Rat.mul_nonneg (show 0<=-(2*e)-D by grind) (show 0<=1-w-1/2 by grind)
      have:=Rat.mul_nonneg he (show 0<=1-w-1/2 by grind)
      grind
   have DD:D*D<=1:=by
    have:=aB D D (2*e) (2*e) D1 (by grind) D1 (by grind)
    have:=aB e e (1/100) (1/100) (by grind) he1 (by grind) he1
    grind
   have:=Rat.mul_nonneg (show 0<=1-D*D by grind) (show 0<=b-a by grind)
   exact ⟨by grind,by grind,D1,by grind⟩
theorem ZG (b s t D z y:Rat) (hb:0<b) (s0:0<=s) (s1:s<1) (t0:0<=t) (t1:t<1) (hD:D*(1-s*t)=t-s) (hz:z*((1+s)+b*(1-s))=(1+s)-b*(1-s)) (hy:y*((1+t)+b*(1-t))=(1+t)-b*(1-t)):D*(1-z*y)=y-z:=by
 have n1:0<(1+s)+b*(1-s):=by have:=Rat.mul_pos hb (show 0<1-s by grind);grind
 have n2:0<(1+t)+b*(1-t):=by have:=Rat.mul_pos hb (show 0<1-t by grind);grind
 have k1:((1+s)+b*(1-s))*((1+t)+b*(1-t))*(1-z*y)=4*b*(1-s*t):=by
  have:((1+s)+b*(1-s))*((1+t)+b*(1-t))*(1-z*y)=((1+s)+b*(1-s))*((1+t)+b*(1-t))-(z*((1+s)+b*(1-s)))*(y*((1+t)+b*(1-t))):=by grind
  rw [this,hz,hy];grind
 have k2:((1+s)+b*(1-s))*((1+t)+b*(1-t))*(y-z)=4*b*(t-s):=by
  have:((1+s)+b*(1-s))*((1+t)+b*(1-t))*(y-z)=(y*((1+t)+b*(1-t)))*((1+s)+b*(1-s))-(z*((1+s)+b*(1-s)))*((1+t)+b*(1-t)):=by grind
  rw [this,hz,hy];grind
 have nn:=Rat.mul_pos n1 n2;generalize ((1+s)+b*(1-s))*((1+t)+b*(1-t))=M at *
 have k3:M*(D*(1-z*y))=M*(y-z):=by
  rw [k2,<-hD];have:M*(D*(1-z*y))=D*(M*(1-z*y)):=by grind
  rw [this,k1];grind
 exact Rat.le_antisymm (Rat.le_of_mul_le_mul_left (by rw [k3];grind) nn) (Rat.le_of_mul_le_mul_left (by rw [k3];grind) nn)
theorem ZV (b s t D z y d1 d2:Rat) (hb:0<b) (s0:0<=s) (s1:s<1) (t0:0<=t) (t1:t<1) (hD:D*(1-s*t)=t-s) (hz:z*((1+s)+b*(1-s))=(1+s)-b*(1-s)) (hy:y*((1+t)+2*b*(1-t))=(1+t)-2*b*(1-t))
 (h1:d1*(3*(b*(1-s))+2*(1+s))=3*(b*(1-s))-2*(1+s)) (h2:d2*(2*(1+t)+3*(b*(1-t)))=2*(1+t)-3*(b*(1-t))):d1*(1-z*(1/5))=1/5-z/\d2*(1-(-(1/7))*y)=y-(-(1/7))/\d1+d2=D*(1+d1*d2):=by
 have w1:=Rat.mul_pos hb (show 0<1-s by grind)
 have w2:=Rat.mul_pos hb (show 0<1-t by grind)
 generalize hw1:b*(1-s)=p at *
 have hy':y*((1+t)+2*(b*(1-t)))=(1+t)-2*(b*(1-t)):=by grind
 clear hy;generalize hw2:b*(1-t)=r at *
 have n1:0<(1+s)+p:=by grind
 have n2:0<(1+t)+2*r:=by grind
 have n3:0<3*p+2*(1+s):=by grind
 have n4:0<2*(1+t)+3*r:=by grind
 refine ⟨?_,?_,?_⟩
 . have k:((1+s)+p)*(d1*(1-z*(1/5)))=((1+s)+p)*(1/5-z):=by
    have a1:((1+s)+p)*(1-z*(1/5))=(4*(1+s)+6*p)*(1/5):=by
     have:((1+s)+p)*(1-z*(1/5))=((1+s)+p)-z*((1+s)+p)*(1/5):=by grind
     rw [this,hz];grind
    have a2:((1+s)+p)*(1/5-z)=(6*p-4*(1+s))*(1/5):=by
     have:((1+s)+p)*(1/5-z)=((1+s)+p)*(1/5)-z*((1+s)+p):=by grind
     rw [this,hz];grind
    have a3:((1+s)+p)*(d1*(1-z*(1/5)))=d1*(((1+s)+p)*(1-z*(1/5))):=by grind
    rw [a3,a1,a2];have:d1*((4*(1+s)+6*p)*(1/5))=(d1*(3*p+2*(1+s)))*(2/5):=by grind
    rw [this,h1];grind
   exact Rat.le_antisymm (Rat.le_of_mul_le_mul_left (by rw [k];grind) n1) (Rat.le_of_mul_le_mul_left (by rw [k];grind) n1)
 . have k:((1+t)+2*r)*(d2*(1-(-(1/7))*y))=((1+t)+2*r)*(y-(-(1/7))):=by
    have a1:((1+t)+2*r)*(1-(-(1/7))*y)=(8*(1+t)+12*r)*(1/7):=by
     have:((1+t)+2*r)*(1-(-(1/7))*y)=((1+t)+2*r)+y*((1+t)+2*r)*(1/7):=by grind
     rw [this,hy'];grind
    have a2:((1+t)+2*r)*(y-(-(1/7)))=(8*(1+t)-12*r)*(1/7):=by
     have:((1+t)+2*r)*(y-(-(1/7)))=((1+t)+2*r)*(1/7)+y*((1+t)+2*r):=by grind
     rw [this,hy'];grind
    have a3:((1+t)+2*r)*(d2*(1-(-(1/7))*y))=d2*(((1+t)+2*r)*(1-(-(1/7))*y)):=by grind
    rw [a3,a1,a2];have:d2*((8*(1+t)+12*r)*(1/7))=(d2*(2*(1+t)+3*r))*(4/7):=by grind
    rw [this,h2];grind
   exact Rat.le_antisymm (Rat.le_of_mul_le_mul_left (by rw [k];grind) n2) (Rat.le_of_mul_le_mul_left (by rw [k];grind) n2)
 . have nn:=Rat.mul_pos n3 n4
   have a1:(3*p+2*(1+s))*(2*(1+t)+3*r)*(d1+d2)=24*b*(t-s):=by
    have:(3*p+2*(1+s))*(2*(1+t)+3*r)*(d1+d2)=(d1*(3*p+2*(1+s)))*(2*(1+t)+3*r)+(d2*(2*(1+t)+3*r))*(3*p+2*(1+s)):=by grind
    rw [this,h1,h2,<-hw1,<-hw2];grind
   have a2:(3*p+2*(1+s))*(2*(1+t)+3*r)*(1+d1*d2)=24*b*(1-s*t):=by
    have:(3*p+2*(1+s))*(2*(1+t)+3*r)*(1+d1*d2)=(3*p+2*(1+s))*(2*(1+t)+3*r)+(d1*(3*p+2*(1+s)))*(d2*(2*(1+t)+3*r)):=by grind
    rw [this,h1,h2,<-hw1,<-hw2];grind
   generalize (3*p+2*(1+s))*(2*(1+t)+3*r)=M at *
   have k:M*(d1+d2)=M*(D*(1+d1*d2)):=by
    have:M*(D*(1+d1*d2))=D*(M*(1+d1*d2)):=by grind
    rw [this,a2,a1,<-hD];grind
   exact Rat.le_antisymm (Rat.le_of_mul_le_mul_left (by rw [k];grind) nn) (Rat.le_of_mul_le_mul_left (by rw [k];grind) nn)
end Alm
namespace Alm
def a3r:Rat:=(bI (QA/3):Rat)*ak
def lgN (n:Nat):Rat:=a3r*((kN n:Nat):Rat)+at' 96 (zq (bN n) (zs n))
theorem JO:200000000*ak<=1/1000000:=by unfold ak;decide +kernel
theorem Sd (x y d:Rat) (hd:0<d) (hs:200000000*d<=1/1000000) (z1:-(200000000*d)<=x-y) (z2:x-y<=200000000*d) (z3:-(1/7)<=x) (z4:x<=1/5+2*d):(-(1/7)-200000000*d<=y/\y<=1/5+2*d+200000000*d)/\(-(1/4)<=y/\y<=1/4)/\(-(1/4)<=x/\x<=1/4):=by
 refine ⟨⟨?_,?_⟩,⟨?_,?_⟩,?_,?_⟩<;>grind
theorem CJ (n:Nat) (h:n<=5340000):(-(1/7)-200000000*ak<=zq (bN n) (zs n)/\zq (bN n) (zs n)<=1/5+2*ak+200000000*ak)/\(-(1/4)<=zq (bN n) (zs n)/\zq (bN n) (zs n)<=1/4)/\(-(1/4)<=zeN n/\zeN n<=1/4):=by
 have z:=xE n h;exact Sd _ _ _ bn JO z.1.1 z.1.2 z.2.1 z.2.2.1
theorem Wh (X Y Z d:Rat) (a1:-(384*d)<=Y-X) (a2:Y-X<=384*d):-(384*d)<=(Z-Y)-(Z+-X)/\(Z-Y)-(Z+-X)<=384*d:=by constructor<;>grind
theorem WC (X Y Z d:Rat) (a1:-(384*d)<=Y-X) (a2:Y-X<=384*d):-(384*d)<=(Z+Y)-(Z+X)/\(Z+Y)-(Z+X)<=384*d:=by constructor<;>grind
theorem ZC (n:Nat) (h:n<=5340000):-(384*ak)<=(gN n:Rat)*ak-(a3r*((kN n:Nat):Rat)+at' 96 (zeN n))/\(gN n:Rat)*ak-(a3r*((kN n:Nat):Rat)+at' 96 (zeN n))<=384*ak:=by
 have zo:=VS n h;have a:=Dm (zN n) zo.1;have w:=lY n h;have ea:a3r*((kN n:Nat):Rat)=((bI (QA/3)*kN n:Nat):Rat)*ak:=by unfold a3r;rw [Rat.natCast_mul];exact Ry _ _ _
 rw [ea]
 by_cases c:vN n<QA
 . have e1:gN n=bI (QA/3)*kN n-bI (zN n):=if_pos c;have e2:zeN n=-((zN n:Rat)*ak):=if_pos c;rw [e1,e2,L9,yS (w.2.2.2.2 c)];exact Wh _ _ _ _ a.2.2.1 a.2.2.2
 . have e1:gN n=bI (QA/3)*kN n+bI (zN n):=if_neg c;have e2:zeN n=(zN n:Rat)*ak:=if_neg c;rw [e1,e2,xV];exact WC _ _ _ _ a.2.2.1 a.2.2.2
theorem WB (G Z X Y d:Rat) (hd:0<d) (m1:-(384*d)<=G-(Z+Y)) (m2:G-(Z+Y)<=384*d) (d1:-(2*(200000000*d))<=Y-X) (d2:Y-X<=2*(200000000*d)):-(500000000*d)<=G-(Z+X)/\G-(Z+X)<=500000000*d:=by constructor<;>grind
theorem zZ (n:Nat) (h:n<=5340000):-(500000000*ak)<=(gN n:Rat)*ak-lgN n/\(gN n:Rat)*ak-lgN n<=500000000*ak:=by
 have z:=xE n h;have zi:=CJ n h;have di:=OT (zq (bN n) (zs n)) (zeN n) (200000000*ak) zi.2.1.1 zi.2.1.2 zi.2.2.1 zi.2.2.2 z.1.1 z.1.2;have m:=ZC n h;exact WB _ _ _ _ _ bn m.1 m.2 di.1 di.2
theorem DJ:-(1000*ak)<=a3r-at' 96 (1/5)-at' 96 (1/7)/\a3r-at' 96 (1/5)-at' 96 (1/7)<=1000*ak:=by
 unfold a3r;constructor<;>decide +kernel
theorem Dy:aU<=ak:=by unfold aU ak;decide +kernel
end Alm
namespace Alm
theorem UY (X c D p q r th:Rat) (hX:D-r<=X) (hD:2*p+11*(p*(q*q))<=D*c) (c0:0<=c) (c1:c<=1) (ht:th<=2*p) (p0:0<p) (pq:p<=q) (r0:0<=r) (hr:r<=p*p*p):th+p*p*p<=X*c:=by
 have a1:=Rat.mul_nonneg (show 0<=X-(D-r) by grind) c0
 have a2:=Rat.mul_nonneg r0 (show 0<=1-c by grind)
 have a3:=Rat.mul_nonneg (show 0<=p by grind) (Rat.mul_nonneg (show 0<=q-p by grind) (show 0<=q+p by grind))
 have a4:=Rat.mul_nonneg (show 0<=p by grind) (aH p)
 grind
theorem Tj (Y p q th:Rat) (hY:Y<=2*p*(1-q*q)) (ht:2*p-p*p*p<=th) (p0:0<p) (pq:p<=q):Y<=th-p*p*p:=by
 have a3:=Rat.mul_nonneg (show 0<=p by grind) (Rat.mul_nonneg (show 0<=q-p by grind) (show 0<=q+p by grind))
 grind
theorem OA (X L D d:Rat) (hd:0<d) (h1:L-1000000000*d<=X) (h2:D-2*d<=L):D-10000000000*d<=X:=by grind
theorem PU (X L D d:Rat) (hd:0<d) (h1:X<=L+1000000000*d) (h2:(1-D*D)*L<=D) (D0:0<=D) (D1:D<=1):(1-1*(D*D))*X<=D*(1+1*(D*D))+10000000000*d:=by
 have b:=aB D D 1 1 (by grind) D1 (by grind) D1
 have a1:=Rat.mul_nonneg (show 0<=L+1000000000*d-X by grind) (show 0<=1-D*D by grind)
 have a2:=Rat.mul_nonneg (show 0<=d by grind) (Rat.mul_nonneg D0 D0)
 have a3:=Rat.mul_nonneg D0 (Rat.mul_nonneg D0 D0);grind
theorem iR (D d1 X1 e:Rat) (D0:0<=D) (D1:D<=1/100) (he:0<=e) (dl:-(2*e)<=d1) (du:d1<=2*D) (eD:e<=D) (x0:d1-2*e-4*e<=X1) (x1:(1-d1*d1)*X1<=d1+4*e):(1-4*(D*D))*X1<=d1+13*e:=by
 have q:d1*d1<=4*(D*D):=by
  have:=Rat.mul_nonneg (show 0<=2*D-d1 by grind) (show 0<=2*D+d1 by grind)
  grind
 have q0:=aH d1;have qq:=aB D D (1/100) (1/100) (by grind) D1 (by grind) D1
 have k:=Rat.mul_nonneg (show 0<=4*(D*D)-d1*d1 by grind) (show 0<=X1+8*e by grind)
 have k2:=Rat.mul_nonneg he (show 0<=1-(4*(D*D)-d1*d1) by grind)
 grind
theorem Jt (D d1 d2 X1 X2 X ka e d:Rat) (D0:0<=D) (D1:D<=1/100) (he:0<=e) (eD:100*e<=D) (hed:e=300000000*d) (hd:0<d) (hs:d1+d2=D*(1+d1*d2)) (l1:-(2*e)<=d1) (l2:-(2*e)<=d2) (u1:d1<=8/15) (u2:d2<=8/15)
 (x1:d1-2*e-4*e<=X1) (y1:(1-d1*d1)*X1<=d1+4*e) (x2:d2-2*e-4*e<=X2) (y2:(1-d2*d2)*X2<=d2+4*e) (k1:-(1000*d)<=ka) (k2:ka<=1000*d) (hX1:X1+X2+ka-1000000000*d<=X) (hX2:X<=X1+X2+ka+1000000000*d) :
 D-20000000000*d<=X/\(1-4*(D*D))*X<=D*(1+4*(D*D))+20000000000*d:=by
 have b12:=aB d1 d2 (8/15) (8/15) (by grind) u1 (by grind) u2
 have w1:d1<=2*D:=by
  have:=Rat.mul_nonneg D0 (show 0<=64/225-d1*d2 by grind);grind
 have w2:d2<=2*D:=by
  have:=Rat.mul_nonneg D0 (show 0<=64/225-d1*d2 by grind);grind
 have p12:d1*d2<=4*(D*D):=by
  have a:=Rat.mul_nonneg (show 0<=2*D-d1 by grind) (show 0<=2*D+d2 by grind)
  have b:=Rat.mul_nonneg (show 0<=2*D+d1 by grind) (show 0<=2*D-d2 by grind)
  grind
 have n12:-(4*e)<=d1*d2:=by
  have b:=Rat.mul_nonneg (show 0<=d1+2*e by grind) (show 0<=d2+2*e by grind)
  have c:=Rat.mul_nonneg he (show 0<=8/15-d1 by grind)
  have c2:=Rat.mul_nonneg he (show 0<=8/15-d2 by grind)
  have c4:=Rat.mul_nonneg he (show 0<=1/100-e by grind)
  grind
 have z1:=iR D d1 X1 e D0 D1 he l1 w1 (by grind) x1 y1
 have z2:=iR D d2 X2 e D0 D1 he l2 w2 (by grind) x2 y2
 have qq:=aB D D (1/100) (1/100) (by grind) D1 (by grind) D1
 have Dn:=Rat.mul_nonneg D0 (show 0<=d1*d2+4*e by grind)
 have De:=Rat.mul_nonneg he (show 0<=1/100-D by grind)
 have Dp:=Rat.mul_nonneg D0 (show 0<=4*(D*D)-d1*d2 by grind)
 have xx:=Rat.mul_nonneg (show 0<=X1+X2+ka+1000000000*d-X by grind) (show 0<=1-4*(D*D) by grind)
 have kk:=Rat.mul_nonneg (show 0<=1000*d-ka by grind) (show 0<=1-4*(D*D) by grind)
 have dq:=Rat.mul_nonneg (show 0<=d by grind) (Rat.mul_nonneg D0 D0)
 constructor
 . grind
 . grind
theorem Y6 (t r u v d:Rat) (hd:0<d) (hd1:d<=1/1000000) (u0:0<=u) (t0:0<=t) (tr:t<=r) (rt:r<=t+1/2000000) (r1:r<=1-1/200000) (u2:1+t<=(u+d)*(1-t)) (v1:v*(1-r)<=1+r):v<=2*u:=by
 rcases Rat.le_total (a:=v) (b:=2*u) with g|g
 . exact g
 . have a1:=Rat.mul_nonneg (show 0<=v-2*u by grind) (show 0<=1-r by grind)
   have a2:=Rat.mul_nonneg (show 0<=d by grind) t0
   have a3:=Rat.mul_nonneg u0 (show 0<=(1-r)-(9/10)*(1-t) by grind)
   grind
theorem GA (n:Nat) (h:n+1<=5340000):zs (n+1)-zs n<=3/10000000:=by
 have b:=sc_bd n (by omega)
 have u:=Aw;have e:s1<=3/10000000:=by unfold s1 s1n dd;decide +kernel
 rw [bZ];have m1:=Rat.mul_nonneg b.2.2.1 (show 0<=1-c1 by grind)
 have m2:=Rat.mul_nonneg (show 0<=s1 by grind) (show 0<=1-zc n by grind)
 generalize zs n=s at *
 generalize zc n=c at *
 clear b;grind
theorem Mt (n:Nat) (h:n+1<=5340000) (h64:64<=n):∃ e q D:Rat,e=zc n-pp*zs n/\q*e=pp/\D*(1+q*q)=2*q/\pp<=q/\q<=1/10000/\11*q<=zs n/\0<e/\D*(1-zs n*zs (n+1))=zs (n+1)-zs n/\zc (n+1)=e*c1-pp*zs n/\(2*pp+11*(pp*(q*q))<=D*zc n/\q<=D/\D<=2*q):=by
 have b:=sc_bd n (by omega)
 have p:=Bz;have u:=jk n;have lc:=gB n;have ls:=dL n;have k:=b.2.2.2.2.1 h64;obtain ⟨b1,b2,b3,b4,_,b6⟩:=b;refine ⟨zc n-pp*zs n,pp/(zc n-pp*zs n),2*(pp/(zc n-pp*zs n))/(1+(pp/(zc n-pp*zs n))*(pp/(zc n-pp*zs n))),rfl,?_⟩;have e0:pp/(zc n-pp*zs n)*(zc n-pp*zs n)=pp:=Rat.div_mul_cancel (by grind)
 have zr:=bZ n;have zcr:=bX n;generalize zs (n+1)=t at *
 generalize zc (n+1)=c' at *
 generalize zs n=s at *
 generalize zc n=c at *
 have hc:=Z6;have hs:=ZA;generalize c1=k1 at *
 generalize s1=r1 at *
 generalize pp=p' at *
 generalize p'/(c-p'*s)=q at e0 ⊢
 have q0:0<q:=by
  rcases Rat.le_total (a:=q) (b:=0) with g|g
  . have:=Rat.mul_nonneg (show 0<=-q by grind) (show 0<=c-p'*s by grind)
    grind
  . rcases Rat.le_iff_lt_or_eq.1 g with g|g
    . exact g
    . rw [<-g] at e0;grind
 have e1:2*q/(1+q*q)*(1+q*q)=2*q:=Rat.div_mul_cancel (by have:=aH q;grind)
 generalize 2*q/(1+q*q)=D at e1 ⊢
 have ps0:=Rat.mul_nonneg (show 0<=p' by grind) b3
 have q1:q<=1/10000:=by
  rcases Rat.le_total (a:=q) (b:=1/10000) with g|g
  . exact g
  . have:=Rat.mul_nonneg (show 0<=q-1/10000 by grind) (show 0<=c-p'*s-4/1000 by grind)
    grind
 have pq:p'<=q:=by
  have:=Rat.mul_nonneg (show 0<=q by grind) (show 0<=1-(c-p'*s) by grind)
  grind
 have sq:11*q<=s:=by
  rcases Rat.le_total (a:=11*q) (b:=s) with g|g
  . exact g
  . have:=Rat.mul_nonneg (show 0<=11*q-s by grind) (show 0<=c-p'*s-4/1000 by grind)
    grind
 have alg:=LK s c p' k1 r1 (c-p'*s) q D u hc hs rfl e0 e1 (by have:=aH p';grind)
 have lo:=O7 s c p' (c-p'*s) q D b3 ls.2 rfl e0 e1 q0 q1 (by grind) (by grind) sq
 refine ⟨e0,e1,pq,q1,sq,by grind,?_,?_,lo⟩
 . rw [zr];exact alg.1
 . rw [zcr];exact alg.2
