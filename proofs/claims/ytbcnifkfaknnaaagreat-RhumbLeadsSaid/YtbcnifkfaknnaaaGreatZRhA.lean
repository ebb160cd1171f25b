/- Plain numbers: the inverse hyperbolic tangent's series, differences of its values. -/
import Derived.Test.YtbcnifkfaknnaaaGreatZRnN
set_option linter.unusedVariables false
set_option linter.unusedSimpArgs false
namespace Alm
def at':Nat->Rat->Rat
 | 0,_=>0
 | m+1,z=>at' m z+z^(2*m+1)/((2*m+1:Nat):Rat)
theorem pow_even (z:Rat) (m:Nat):(-z)^(2*m)=z^(2*m):=by
 induction m with
 | zero=>simp [Rat.pow_zero]
 | succ m ih=>rw [show 2*(m+1)=2*m+1+1 by omega,Rat.pow_succ,Rat.pow_succ,Rat.pow_succ,Rat.pow_succ,ih];grind
theorem L9 (m:Nat) (z:Rat):at' m (-z)=-at' m z:=by
 induction m with
 | zero=>simp [at']
 | succ m ih =>
  simp only [at',ih];rw [Rat.pow_succ,Rat.pow_succ,pow_even,Rat.div_def,Rat.div_def];grind
theorem G8 (u h:Rat) (hh:0<=h) (j:Nat) :
 2*h*((2*j+1:Nat):Rat)*(u*u)^j<=(u+h)^(2*j+1)-(u-h)^(2*j+1)/\2*(u*u)^(j+1)<=u*((u+h)^(2*j+1)+(u-h)^(2*j+1))/\0<=(u*u)^j /\
 (u+h)^(2*j+1)-(u-h)^(2*j+1)<=((2*j+1:Nat):Rat)*h*(((u+h)*(u+h))^j+((u-h)*(u-h))^j)/\0<=u*(((u+h)*(u+h))^j-((u-h)*(u-h))^j)/\0<=((u+h)*(u+h))^j+((u-h)*(u-h))^j /\
 (u+h)^(2*j+1)=(u+h)*((u+h)*(u+h))^j/\(u-h)^(2*j+1)=(u-h)*((u-h)*(u-h))^j:=by
 induction j with
 | zero=>simp [Rat.pow_zero,Rat.pow_succ];grind
 | succ j ih =>
  obtain ⟨i1,i2,i3,i4,i5,i6,i7,i8⟩:=ih
  have e1:(u+h)^(2*(j+1)+1)=(u+h)*((u+h)*(u+h))^(j+1):=by
   rw [show 2*(j+1)+1=2*j+1+1+1 by omega,Rat.pow_succ,Rat.pow_succ,i7,Rat.pow_succ];grind
  have e2:(u-h)^(2*(j+1)+1)=(u-h)*((u-h)*(u-h))^(j+1):=by
   rw [show 2*(j+1)+1=2*j+1+1+1 by omega,Rat.pow_succ,Rat.pow_succ,i8,Rat.pow_succ];grind
  have ec:((2*(j+1)+1:Nat):Rat)=((2*j+1:Nat):Rat)+2:=by
   rw [show 2*(j+1)+1=(2*j+1)+2 by omega,Rat.natCast_add];rfl
  have en:(0:Rat)<=((2*j+1:Nat):Rat):=by exact_mod_cast Nat.zero_le _
  rw [e1,e2,ec];rw [i7,i8] at i1 i2 i4;rw [Rat.pow_succ (u*u) (j+1),Rat.pow_succ (u*u) j] at *
  rw [Rat.pow_succ ((u+h)*(u+h)) j,Rat.pow_succ ((u-h)*(u-h)) j];generalize ((2*j+1:Nat):Rat)=c at *
  generalize (u*u)^j=p at *
  generalize ((u+h)*(u+h))^j=x at *
  generalize ((u-h)*(u-h))^j=y at *
  have hu:=aH u;have h2:=aH h;have pu:0<=p*(u*u):=Rat.mul_nonneg i3 hu;have a1:=Rat.mul_nonneg hu (show 0<=((u+h)*x-(u-h)*y)-2*h*c*p by grind)
  have a2:=Rat.mul_nonneg h2 (show 0<=((u+h)*x-(u-h)*y) by
   have:0<=2*h*c*p:=Rat.mul_nonneg (Rat.mul_nonneg (Rat.mul_nonneg (by decide) hh) en) i3
   grind)
  have a3:=Rat.mul_nonneg hh (show 0<=u*((u+h)*x+(u-h)*y)-2*(p*(u*u)) by grind)
  have a4:=Rat.mul_nonneg hu (show 0<=u*((u+h)*x+(u-h)*y)-2*(p*(u*u)) by grind)
  have a5:=Rat.mul_nonneg h2 (show 0<=u*((u+h)*x+(u-h)*y) by grind)
  have a6:=Rat.mul_nonneg (Rat.mul_nonneg hu hh) (show 0<=((u+h)*x-(u-h)*y) by
   have:0<=2*h*c*p:=Rat.mul_nonneg (Rat.mul_nonneg (Rat.mul_nonneg (by decide) hh) en) i3
   grind)
  have b1:=Rat.mul_nonneg (show 0<=u*u+h*h by grind) (show 0<=c*h*(x+y)-((u+h)*x-(u-h)*y) by grind)
  have b2:=Rat.mul_nonneg (Rat.mul_nonneg h2 hh) i6;have b3:=Rat.mul_nonneg (Rat.mul_nonneg h2 en) i5;have b4:=Rat.mul_nonneg h2 i5;have b5:=Rat.mul_nonneg hu i5;have b6:=Rat.mul_nonneg hh (Rat.mul_nonneg hu i6);have b7:=Rat.mul_nonneg hu i6;have b8:=Rat.mul_nonneg h2 i6;have b9:=Rat.mul_nonneg hh i5;refine ⟨?_,?_,pu,?_,?_,?_,rfl,rfl⟩
  . grind
  . grind
  . grind
  . grind
  . grind
theorem UX (x y:Rat) (c:Nat) (h:x*((2*c+1:Nat):Rat)<=y):x<=y/((2*c+1:Nat):Rat):=by
 have hc:(0:Rat)<((2*c+1:Nat):Rat):=by exact_mod_cast Nat.succ_pos _
 have e:y/((2*c+1:Nat):Rat)*((2*c+1:Nat):Rat)=y:=Rat.div_mul_cancel (by grind)
 apply Rat.le_of_mul_le_mul_right (c:=((2*c+1:Nat):Rat)) _ hc;rw [e];exact h
theorem TA (x y:Rat) (c:Nat) (h:y<=x*((2*c+1:Nat):Rat)):y/((2*c+1:Nat):Rat)<=x:=by
 have hc:(0:Rat)<((2*c+1:Nat):Rat):=by exact_mod_cast Nat.succ_pos _
 have e:y/((2*c+1:Nat):Rat)*((2*c+1:Nat):Rat)=y:=Rat.div_mul_cancel (by grind)
 apply Rat.le_of_mul_le_mul_right (c:=((2*c+1:Nat):Rat)) _ hc;rw [e];exact h
theorem Df (x y:Rat) (c:Nat):(x-y)/((2*c+1:Nat):Rat)=x/((2*c+1:Nat):Rat)-y/((2*c+1:Nat):Rat):=by
 rw [Rat.div_def,Rat.div_def,Rat.div_def];grind
theorem Xp (u h:Rat) (hh:0<=h) (hu:0<=1-u*u) (m:Nat):2*h*(1-(u*u)^m)<=(1-u*u)*(at' m (u+h)-at' m (u-h)):=by
 induction m with
 | zero=>simp only [at',Rat.pow_zero];grind
 | succ m ih =>
  have o:=(G8 u h hh m).1;have d:=UX (2*h*(u*u)^m) _ m (show 2*h*(u*u)^m*((2*m+1:Nat):Rat)<=(u+h)^(2*m+1)-(u-h)^(2*m+1) by grind)
  rw [Df] at d;have k:=Rat.mul_le_mul_of_nonneg_left d hu;simp only [at'];rw [Rat.pow_succ (u*u) m];grind
theorem Xw (u h:Rat) (hh:0<=h) (h1:0<=1-(u+h)*(u+h)) (h2:0<=1-(u-h)*(u-h)) (m:Nat):(1-(u+h)*(u+h))*(1-(u-h)*(u-h))*(at' m (u+h)-at' m (u-h))<=h*((1-((u+h)*(u+h))^m)*(1-(u-h)*(u-h))+(1-((u-h)*(u-h))^m)*(1-(u+h)*(u+h))):=by
 induction m with
 | zero=>simp only [at',Rat.pow_zero];grind
 | succ m ih =>
  have o:=(G8 u h hh m).2.2.2.1;have d:=TA (h*(((u+h)*(u+h))^m+((u-h)*(u-h))^m)) _ m (show (u+h)^(2*m+1)-(u-h)^(2*m+1)<=h*(((u+h)*(u+h))^m+((u-h)*(u-h))^m)*((2*m+1:Nat):Rat) by grind)
  rw [Df] at d;have k:=Rat.mul_le_mul_of_nonneg_left d (Rat.mul_nonneg h1 h2);simp only [at'];rw [Rat.pow_succ ((u+h)*(u+h)) m,Rat.pow_succ ((u-h)*(u-h)) m];generalize ((u+h)*(u+h))^m=X at *
  generalize ((u-h)*(u-h))^m=Y at *
  generalize (u+h)^(2*m+1)/((2*m+1:Nat):Rat)=S at *
  generalize (u-h)^(2*m+1)/((2*m+1:Nat):Rat)=T at *
  generalize at' m (u+h)=V at *
  generalize at' m (u-h)=V2 at *
  have e1:(u+h)*(u+h)=1-(1-(u+h)*(u+h)):=by grind
  have e2:(u-h)*(u-h)=1-(1-(u-h)*(u-h)):=by grind
  generalize 1-(u+h)*(u+h)=A at *
  generalize 1-(u-h)*(u-h)=B at *
  rw [e1,e2];clear e1 e2 o;grind
theorem Fq (x:Rat) (h:0<=x) (m:Nat):0<=x^m:=by
 induction m with
 | zero=>rw [Rat.pow_zero];decide
 | succ m ih=>rw [Rat.pow_succ];exact Rat.mul_nonneg ih h
theorem Lv (x:Rat) (h0:0<=x) (h:x<=1/16) (m:Nat):x^m<=(1/16)^m:=by
 induction m with
 | zero=>simp [Rat.pow_zero]
 | succ m ih =>
  rw [Rat.pow_succ,Rat.pow_succ];have a:=Fq x h0 m;have b:=Rat.mul_le_mul_of_nonneg_left h a;have c:=Rat.mul_le_mul_of_nonneg_right ih (show (0:Rat)<=1/16 by grind)
  grind
theorem Y5:((1:Rat)/16)^96<=aU:=by unfold aU;decide +kernel
theorem Ur (D u2 h2 h:Rat) (hD:D*(1-u2+h2)=2*h) (a:0<=D*h2):D*(1-u2)<=2*h:=by grind
theorem OP (D u2 h X d p:Rat) (hu:u2<=1/16) (h0:0<=h) (h4:h<=1/4) (hd:0<d) (hp:p<=d) (lo:2*h*(1-p)<=(1-u2)*X) (a2:D*(1-u2)<=2*h):D-2*d<=X:=by
 have a3:=Rat.mul_nonneg h0 (show 0<=d-p by grind)
 have a4:=Rat.mul_nonneg (show 0<=1/4-h by grind) (show 0<=d by grind)
 rcases Rat.le_total (a:=D-2*d) (b:=X) with g|g
 . exact g
 . have:=Rat.mul_nonneg (show 0<=D-2*d-X by grind) (show 0<=1-u2-1/2 by grind)
   have:=Rat.mul_nonneg (show 0<=d by grind) (show 0<=1/16-u2 by grind)
   grind
theorem Ey (h q r z2 y2 zy D X:Rat) (h0:0<=h) (p2:0<=q) (p3:0<=r) (z1:z2<=1/16) (y1:y2<=1/16) (k:z2+y2=2*zy+4*(h*h)) (e1:D*(1-zy)=2*h) (pe:0<1-zy)
 (hi:(1-zy)*(1-zy)*(1-D*D)*X<=h*((1-q)*(1-z2)+(1-r)*(1-y2))):(1-D*D)*X<=D:=by
 have a1:=Rat.mul_nonneg (Rat.mul_nonneg h0 p2) (show 0<=1-z2 by grind)
 have a2:=Rat.mul_nonneg (Rat.mul_nonneg h0 p3) (show 0<=1-y2 by grind)
 have a3:=Rat.mul_nonneg h0 (aH h)
 have s:(1-zy)*((1-zy)*((1-D*D)*X))<=(1-zy)*((1-zy)*D):=by
  have kh:h*(z2+y2)=h*(2*zy+4*(h*h)):=by rw [k]
  have f1:h*((1-q)*(1-z2)+(1-r)*(1-y2))<=h*(2*(1-zy)):=by clear hi e1 k;grind
  have f2:(1-zy)*((1-zy)*D)=(1-zy)*(2*h):=by rw [<-e1];grind
  rw [f2];grind
 exact Rat.le_of_mul_le_mul_left (Rat.le_of_mul_le_mul_left s pe) pe
theorem AP (z y D:Rat) (hz:-(1/4)<=z) (hy:y<=1/4) (hzy:z<=y) (hD:D*(1-z*y)=y-z) :
 D-2*aU<=at' 96 y-at' 96 z/\(1-D*D)*(at' 96 y-at' 96 z)<=D/\0<=D/\D<=8/15/\0<=at' 96 y-at' 96 z:=by
 have hd:=dU;have hd1:aU<=1/1000:=by unfold aU;decide +kernel
 have b1:=aB z y (1/4) (1/4) hz (by grind) (by grind) hy
 have b2:=aB z z (1/4) (1/4) hz (by grind) hz (by grind)
 have b3:=aB y y (1/4) (1/4) (by grind) hy (by grind) hy
 generalize hu:(z+y)/2=u;generalize hh:(y-z)/2=h;have eu:u+h=y:=by rw [<-hu,<-hh,Rat.div_def,Rat.div_def];grind
 have ez:u-h=z:=by rw [<-hu,<-hh,Rat.div_def,Rat.div_def];grind
 have h0:0<=h:=by grind
 have b4:=aB u u (1/4) (1/4) (by grind) (by grind) (by grind) (by grind)
 have u0:=aH u;have z0:=aH z;have y0:=aH y;have lo:=Xp u h h0 (by grind) 96
 have hi:=Xw u h h0 (by rw [eu];grind) (by rw [ez];grind) 96
 rw [eu,ez] at hi lo;have p1:=Rat.le_trans (Lv (u*u) u0 (by grind) 96) Y5
 have p2:=Fq (y*y) y0 96;have p3:=Fq (z*z) z0 96;generalize (u*u)^96=p at *
 generalize (y*y)^96=q at *
 generalize (z*z)^96=r at *
 generalize at' 96 y-at' 96 z=X at *
 generalize aU=d at *
 have D0:0<=D:=by
  rcases Rat.le_total (a:=0) (b:=D) with g|g
  . exact g
  . have:=Rat.mul_nonneg (show 0<=-D by grind) (show 0<=1-z*y-1/2 by grind)
    grind
 have D1:D<=8/15:=by
  rcases Rat.le_total (a:=D) (b:=8/15) with g|g
  . exact g
  . have:=Rat.mul_nonneg (show 0<=D-8/15 by grind) (show 0<=1-z*y-15/16 by grind)
    grind
 have hy2:y-z=2*h:=by grind
 have hE:1-z*y=1-u*u+h*h:=by rw [<-eu,<-ez];grind
 have hq:=aH h
 have X0:0<=X:=by
  rcases Rat.le_total (a:=0) (b:=X) with g|g
  . exact g
  . have a1:=Rat.mul_nonneg (show 0<=-X by grind) (show 0<=1-u*u-1/2 by grind)
    have a2:=Rat.mul_nonneg h0 (show 0<=1-p by grind)
    grind
 have pe:0<1-z*y:=by grind
 refine ⟨?_,?_,D0,D1,X0⟩
 . exact OP D (u*u) h X d p (by grind) h0 (by grind) hd p1 lo (Ur D (u*u) (h*h) h (by rw [<-hE,<-hy2];exact hD) (Rat.mul_nonneg D0 hq))
 . have e:(1-y*y)*(1-z*z)=(1-z*y)*(1-z*y)*(1-D*D):=by
    have:(1-z*y)*(1-z*y)*(D*D)=(y-z)*(y-z):=by rw [<-hD];grind
    grind
   rw [e] at hi;exact Ey h q r (z*z) (y*y) (z*y) D X h0 p2 p3 (by grind) (by grind) (by rw [<-eu,<-ez];grind) (by rw [<-hy2];exact hD) pe hi
end Alm
namespace Alm
def atl:Nat->Nat->Rat->Rat->Rat
 | 0,_,_,_=>0
 | m+1,i,x,q=>x/((2*i+1:Nat):Rat)+atl m (i+1) (x*q) q
theorem Uo (z:Rat) (m:Nat):∀ i,at' (i+m) z=at' i z+atl m i (z^(2*i+1)) (z*z):=by
 induction m with
 | zero=>intro i;simp only [atl,Nat.add_zero];grind
 | succ m ih =>
  intro i;have e:=ih (i+1);rw [show i+(m+1)=i+1+m by omega,e]
  simp only [atl,at'];rw [show z^(2*(i+1)+1)=z^(2*i+1)*(z*z) by rw [show 2*(i+1)+1=2*i+1+1+1 by omega,Rat.pow_succ,Rat.pow_succ];grind]
  grind
def kP:Nat->Nat->Nat->Nat->Nat
 | 0,_,_,_=>0
 | m+1,Y,T,k=>T/k+kP m Y (aC T Y) (k+2)
theorem IM (m Y k:Nat):kP m Y 0 k=0:=by
 induction m generalizing k with
 | zero=>rfl
 | succ m ih =>
  have e:aC 0 Y=0:=by unfold aC;simp
  simp only [kP,e,ih];simp
theorem xQ (T Y:Nat) (hY:4*Y<=QA):4*aC T Y<=T:=by
 have h:aC T Y*QA<=T*Y:=by unfold aC;exact Nat.div_mul_le_self _ _
 have h2:T*(4*Y)<=T*QA:=Nat.mul_le_mul_left _ hY;have q:0<QA:=by rw [dD];decide
 apply Nat.le_of_mul_le_mul_right (c:=QA) _ q;grind
theorem Ic (g:Nat):∀ (f Y T k S:Nat),g+1<=f->4*Y<=QA->T<4^g->T<=QA->S+g*QA<=200*QA ->
 okA f Y T k S=true/\Am f Y T k S=S+kP g Y T k:=by
 induction g with
 | zero =>
  intro f Y T k S hf hY hT hT2 hS;obtain rfl:T=0:=by simpa using hT
  obtain ⟨f,rfl⟩:∃ f',f=f'+1:=⟨f-1,by omega⟩
  simp [okA,Am,kP]
 | succ g ih =>
  intro f Y T k S hf hY hT hT2 hS;obtain ⟨f,rfl⟩:∃ f',f=f'+1:=⟨f-1,by omega⟩
  by_cases z:T=0
  . subst z;rw [IM];simp [okA,Am]
  . have q:=dD;have m:=xQ T Y hY;have dk:T/k<=T:=Nat.div_le_self _ _
    have n1:T*Y<2^448:=by
     have:=Nat.mul_le_mul hT2 hY;have e:QA*QA<2^448:=by rw [q];decide +kernel
     have:T*(4*Y)=4*(T*Y):=by grind
     omega
    have hw:W=2^256:=by unfold W;rfl
    have hS2:S+T/k+g*QA<=200*QA:=by
     have e:(g+1)*QA=g*QA+QA:=by rw [Nat.add_mul];omega
     omega
    have p:T<4*4^g:=by rw [Nat.pow_succ] at hT;omega
    have r:=ih f Y (aC T Y) (k+2) (S+T/k) (by omega) hY (by omega) (by omega) hS2
    simp only [okA,Am,if_neg z,Bool.and_eq_true,decide_eq_true_eq,kP];generalize aC T Y=V at *
    have g0:0<=g*QA:=Nat.zero_le _;generalize g*QA=gq at *
    refine ⟨⟨⟨⟨by omega,n1⟩,by omega⟩,r.1⟩,?_⟩
    rw [r.2];omega
theorem F6 (m:Nat):∀ (Y T k:Nat),4*Y<=QA->kP m Y T k<=2*T:=by
 induction m with
 | zero=>intro Y T k _;simp only [kP];omega
 | succ m ih =>
  intro Y T k hY;have a:=ih Y (aC T Y) (k+2) hY;have b:=xQ T Y hY;have c:T/k<=T:=Nat.div_le_self _ _;simp only [kP];omega
theorem JW (T i:Nat) (x d:Rat) (hd:0<d) (h1:-(3*d)<=T*d-x) (h2:T*d-x<=3*d) :
 -(4*d)<=((T/(2*i+1):Nat):Rat)*d-x/((2*i+1:Nat):Rat)/\((T/(2*i+1):Nat):Rat)*d-x/((2*i+1:Nat):Rat)<=4*d:=by
 have q:=fU T (2*i+1) (by omega)
 have hc:(1:Rat)<=((2*i+1:Nat):Rat):=by exact_mod_cast (show 1<=2*i+1 by omega)
 have e:x/((2*i+1:Nat):Rat)*((2*i+1:Nat):Rat)=x:=Rat.div_mul_cancel (by grind)
 generalize ((T/(2*i+1):Nat):Rat)=u at *
 generalize x/((2*i+1:Nat):Rat)=y at *
 generalize ((2*i+1:Nat):Rat)=D at *
 have k1:=Rat.mul_le_mul_of_nonneg_right q.1 (show 0<=d by grind)
 have k2:=Rat.mul_le_mul_of_nonneg_right q.2 (show 0<=d by grind)
 have a1:(u*d-y)*D<=3*d:=by grind
 have a2:-(3*d)-D*d<=(u*d-y)*D:=by grind
 clear k1 k2 q e h1 h2;have dd':=Rat.mul_nonneg (show 0<=d by grind) (show 0<=D-1 by grind)
 constructor
 . rcases Rat.le_total (a:=-(4*d)) (b:=u*d-y) with h|h
   . exact h
   . have:=Rat.mul_nonneg (show 0<=-(4*d)-(u*d-y) by grind) (show 0<=D-1 by grind)
     grind
 . rcases Rat.le_total (a:=u*d-y) (b:=4*d) with h|h
   . exact h
   . have:=Rat.mul_nonneg (show 0<=(u*d-y)-4*d by grind) (show 0<=D-1 by grind)
     grind
theorem ko:ak<=1/1000000:=by unfold ak;decide +kernel
theorem JY (m:Nat):∀ (i T Y:Nat) (x q:Rat),0<=x->x<=1/2->0<=q->q<=1/4->-ak<=Y*ak-q->Y*ak-q<=ak->-(3*ak)<=T*ak-x->T*ak-x<=3*ak ->
 -((m:Rat)*(4*ak))<=(kP m Y T (2*i+1):Rat)*ak-atl m i x q/\(kP m Y T (2*i+1):Rat)*ak-atl m i x q<=(m:Rat)*(4*ak):=by
 induction m with
 | zero=>intro i T Y x q _ _ _ _ _ _ _ _;simp only [kP,atl];constructor<;>grind
 | succ m ih =>
  intro i T Y x q x0 x1 q0 q1 e1 e2 t1 t2;have hd:=bn;have hd1:=ko;have dk:=JW T i x ak hd t1 t2;have mr:=jR T Y;have xq0:=Rat.mul_nonneg x0 q0
  have xq1:x*q<=1/2:=by
   have:=Rat.mul_nonneg x0 (show 0<=1/4-q by grind);grind
  have n:-(3*ak)<=(aC T Y:Rat)*ak-x*q/\(aC T Y:Rat)*ak-x*q<=3*ak:=by
   clear ih dk xq1;generalize (aC T Y:Rat)*ak=M at *
   generalize (T:Rat)*ak=t at *
   generalize (Y:Rat)*ak=y at *
   generalize ak=d at *
   have b1:=aB (t-x) y (3*d) (1/4+d) t1 t2 (by grind) (by grind)
   have b2:=aB x (y-q) (1/2) d (by grind) x1 e1 e2
   have b3:=aB d d d (1/1000000) (by grind) (by grind) (by grind) hd1
   constructor<;>grind
  have r:=ih (i+1) (aC T Y) Y (x*q) q xq0 xq1 q0 q1 e1 e2 n.1 n.2;rw [show 2*(i+1)+1=2*i+1+2 by omega] at r
  simp only [kP,atl];have em:((m+1:Nat):Rat)=(m:Rat)+1:=by norm_cast
  rw [em,Rat.natCast_add];generalize (kP m Y (aC T Y) (2*i+1+2):Rat)=S at *
  generalize ((T/(2*i+1):Nat):Rat)=u at *
  generalize atl m (i+1) (x*q) q=V at *
  generalize x/((2*i+1:Nat):Rat)=y at *
  generalize ak=d at *
  constructor<;>grind
theorem Dm (z:Nat) (hz:5*z<=2*QA):lU z=true/\bI z<=QA/\-(384*ak)<=(bI z:Rat)*ak-at' 96 ((z:Rat)*ak)/\(bI z:Rat)*ak-at' 96 ((z:Rat)*ak)<=384*ak:=by
 have q:=dD;have hd:=bn;have hd1:=ko;have hw:W=2^256:=by unfold W;rfl
 have hQ:=zF
 have hzr:(z:Rat)*ak<=2/5:=by
  have:=Rat.mul_le_mul_of_nonneg_right (bS _ _ hz) (show 0<=ak by grind)
  rw [Rat.natCast_mul,Rat.natCast_mul] at this;have e5:((5:Nat):Rat)=5:=rfl;have e2:((2:Nat):Rat)=2:=rfl;rw [e5,e2] at this;grind
 have hz0:0<=(z:Rat)*ak:=Rat.mul_nonneg (aF z) (by grind)
 have hm:aC z z*QA<=z*z:=by unfold aC;exact Nat.div_mul_le_self _ _
 have hY:4*aC z z<=QA:=by
  have h2:=Nat.mul_le_mul hz hz;generalize aC z z=M at *
  have q0:0<QA:=by omega
  generalize QA=Q at *
  apply Nat.le_of_mul_le_mul_right (c:=25*Q) _ (by omega)
  have f1:5*z*(5*z)=25*(z*z):=by grind
  have f2:2*Q*(2*Q)=4*(Q*Q):=by grind
  have f3:4*M*(25*Q)=100*(M*Q):=by grind
  have f4:Q*(25*Q)=25*(Q*Q):=by grind
  omega
 have mr:=jR z z;have r:=Ic 96 200 (aC z z) z 1 0 (by omega) hY (by rw [show (4:Nat)^96=QA by rw [q]];omega) (by omega) (by omega)
 have n:=JY 96 0 z (aC z z) ((z:Rat)*ak) ((z:Rat)*ak*((z:Rat)*ak)) hz0 (by grind) (aH _) (by
  have:=aB ((z:Rat)*ak) ((z:Rat)*ak) (2/5) (2/5) (by grind) hzr (by grind) hzr
  grind) (by grind) (by grind) (by grind) (by grind)
 have e:=Uo ((z:Rat)*ak) 96 0;rw [show 0+96=96 from rfl,show 2*0+1=1 from rfl,Rat.pow_succ,Rat.pow_zero] at e
 have e0:at' 0 ((z:Rat)*ak)=0:=rfl;rw [e0] at e
 have e3:at' 96 ((z:Rat)*ak)=atl 96 0 ((z:Rat)*ak) ((z:Rat)*ak*((z:Rat)*ak)):=by
  rw [e,show (1:Rat)*((z:Rat)*ak)=(z:Rat)*ak by grind];grind
 rw [<-e3,show 2*0+1=1 from rfl] at n
 have va:bI z=kP 96 (aC z z) z 1:=by unfold bI;rw [r.2];omega
 rw [<-va] at n;have e96:((96:Nat):Rat)=96:=rfl;rw [e96] at n;refine ⟨?_,?_,by grind,by grind⟩
 . unfold lU;simp only [Bool.and_eq_true,decide_eq_true_eq]
   have n2:z*z<2^448:=by
    have a:z<=QA:=by omega
    have:=Nat.mul_le_mul a a;have e:QA*QA<2^448:=by rw [q];decide +kernel
    omega
   exact ⟨⟨⟨by omega,n2⟩,by omega⟩,r.1⟩
 . rw [va];have:=F6 96 (aC z z) z 1 hY;omega
end Alm
namespace Alm
def pp:Rat:=(tp:Rat)/((2^300:Int):Rat)
theorem Z6:c1*(1+pp*pp)=1-pp*pp:=by unfold c1 c1n dd pp;decide +kernel
theorem ZA:s1*(1+pp*pp)=2*pp:=by unfold s1 s1n dd pp;decide +kernel
theorem Bz:145/1000000000<=pp/\pp<=146/1000000000:=by unfold pp;constructor<;>decide +kernel
theorem PX:au<=2*pp/\2*pp-pp*pp*pp<=au:=by unfold au pp;constructor<;>decide +kernel
theorem Aw:1/10000000<=49/100*s1-(1-c1)/\c1<=1/\0<s1:=by unfold s1 s1n c1 c1n dd;refine ⟨?_,?_,?_⟩<;>decide +kernel
theorem H9 (n:Nat) (h:n<=2700000):(n:Rat)*(1/10000000)<=zs n:=by
 induction n with
 | zero=>rw [dP];grind
 | succ n ih =>
  have i:=ih (by omega)
  have c:=dG n (by omega)
  have b:=dL n;have u:=Aw;have e:((n+1:Nat):Rat)=(n:Rat)+1:=by norm_cast
  rw [e,bZ];have m1:=Rat.mul_nonneg (show 0<=1-zs n by grind) (show 0<=1-c1 by grind)
  have m2:=Rat.mul_nonneg (show 0<=zc n-49/100 by grind) (show 0<=s1 by grind)
  grind
theorem Fx:-(3*bM)<=zs 2700000-zc 2700000/\zs 2700000-zc 2700000<=3*bM:=by
 have n:=near 2700000 (by omega)
 have m:=jN (ps 2700000-pc 2700000) (ev sP M0-ev cP M0) L0 nW (by
  rw [Rat.intCast_sub];have a:=gD 2700000;have b:=iE 2700000;rw [show ((2700000:Nat):Int)=M0 by decide +kernel] at a b
  rw [<-a,<-b];grind) xP
 have d:aU<=bM:=by unfold bM aU;decide +kernel
 generalize zs 2700000=z1 at *
 generalize zc 2700000=z2 at *
 generalize ps 2700000=z3 at *
 generalize pc 2700000=z4 at *
 grind
theorem Xo:1-1/1000000<=zs 5400000/\-(1/1000000)<=zc 5400000/\zc 5400000<=1/1000000/\zs 5400000<=1:=by
 have a:=vM 2700000 2700000;have u:=jk 2700000;have m:=Fx;have b:=dL 2700000;have c:=gB 2700000;have d:bM<=1/1000000000:=by unfold bM aU;decide +kernel
 have d0:0<=bM:=by unfold bM aU;decide +kernel
 rw [show 2700000+2700000=5400000 by decide +kernel] at a
 have l:=dL 5400000;generalize zs 2700000=B at *
 generalize zc 2700000=A at *
 generalize zs 5400000=Q at *
 generalize zc 5400000=R at *
 have q:=aB (B-A) (B-A) (3*bM) (3*bM) m.1 m.2 m.1 m.2;have q2:=aB (B-A) (B+A) (3*bM) 2 m.1 m.2 (by grind) (by grind)
 have q3:=aB bM bM bM (1/1000000000) (by grind) (by grind) (by grind) d
 refine ⟨?_,?_,?_,l.2⟩
 . rw [a.2];grind
 . rw [a.1];grind
 . rw [a.1];grind
theorem TY (n:Nat) (h:2700000<=n) (h2:n<=5400000):zc n=zc 5400000*zc (5400000-n)+zs 5400000*zs (5400000-n)/\zs n=zs 5400000*zc (5400000-n)-zc 5400000*zs (5400000-n):=by
 have a:=vM n (5400000-n);rw [show n+(5400000-n)=5400000 by omega] at a
 have u:=jk (5400000-n);rw [a.1,a.2];generalize zc (5400000-n)=x at *
 generalize zs (5400000-n)=y at *
 constructor
 . have:zc n=zc n*(x*x+y*y):=by rw [u];grind
   grind
 . have:zs n=zs n*(x*x+y*y):=by rw [u];grind
   grind
theorem sc_bd (n:Nat) (h:n<=5340000):5/1000<=zc n/\zc n<=1/\0<=zs n/\zs n<=1-1/100000/\(64<=n->11*pp<=zs n*(zc n-pp*zs n))/\4/1000<=zc n-pp*zs n:=by
 have hp:=Bz;have lc:=gB n;have ls:=dL n;have u:=jk n
 have main:(49/100<=zc n/\(n:Rat)*(1/10000000)<=zs n)∨(5/1000<=zc n/\48/100<=zs n):=by
  by_cases hn:n<=2700000
  . exact .inl ⟨dG n hn,H9 n hn⟩
  . right
    have f:=TY n (by omega) (by omega)
    have q:=Xo;have j1:=dG (5400000-n) (by omega)
    have j2:=H9 (5400000-n) (by omega)
    have j3:=gB (5400000-n);have j4:=dL (5400000-n);have j5:=bS 60000 (5400000-n) (by omega)
    have j6:((60000:Nat):Rat)=60000:=rfl;rw [j6] at j5;rw [f.1,f.2];clear f lc ls u;generalize zc (5400000-n)=x at *
    generalize zs (5400000-n)=y at *
    generalize ((5400000-n:Nat):Rat)=jj at *
    generalize zs 5400000=Q at *
    generalize zc 5400000=R at *
    have m1:=aB (R) x (1/1000000) 1 q.2.1 q.2.2.1 (by grind) j3.2
    have m2:=aB (R) y (1/1000000) 1 q.2.1 q.2.2.1 (by grind) j4.2
    have m3:=Rat.mul_nonneg (show 0<=Q-(1-1/1000000) by grind) (show 0<=x by grind)
    have m4:=Rat.mul_nonneg (show 0<=Q-(1-1/1000000) by grind) (show 0<=y by grind)
    constructor<;>grind
 have n0:=aF n;have s0:0<=zs n:=by rcases main with m|m<;>grind
 have c0:5/1000<=zc n:=by rcases main with m|m<;>grind
 have n64:64<=n->(64:Rat)<=(n:Rat):=fun g=>by exact_mod_cast g
 generalize (n:Rat)=nn at *
 generalize zc n=c at *
 generalize zs n=s at *
 generalize pp=p at *
 have ps1:=aB p s (146/1000000000) 1 (by grind) hp.2 (by grind) ls.2
 have cc:=aB c c 1 1 lc.1 lc.2 lc.1 lc.2;have c2:=Rat.mul_nonneg (show 0<=c-5/1000 by grind) (show 0<=c by grind)
 refine ⟨c0,lc.2,s0,?_,?_,by grind⟩
 . rcases Rat.le_total (a:=s) (b:=1-1/100000) with g|g
   . exact g
   . have:=Rat.mul_nonneg (show 0<=s-(1-1/100000) by grind) (show 0<=s by grind)
     grind
 . intro g;have g:=n64 g;have hpe:0<=p:=by grind
   rcases main with m|m
   . have k1:=Rat.mul_nonneg (show 0<=s-64/10000000 by grind) (show 0<=c-p*s-48/100 by grind)
     grind
   . have k1:=Rat.mul_nonneg (show 0<=s-48/100 by grind) (show 0<=c-p*s-4/1000 by grind)
     grind
theorem LK (s c p k1 r1 e q D:Rat) (hu:c*c+s*s=1) (hc:k1*(1+p*p)=1-p*p) (hs:r1*(1+p*p)=2*p) (he:e=c-p*s) (hq:q*e=p) (hD:D*(1+q*q)=2*q) (hp:0<1+p*p) :
 D*(1-s*(s*k1+c*r1))=(s*k1+c*r1)-s/\c*k1-s*r1=e*k1-p*s:=by
 have a1:(1+p*p)*((s*k1+c*r1)-s)=2*p*e:=by grind
 have a2:(1+p*p)*(1-s*(s*k1+c*r1))=e*e+p*p:=by grind
 have a3:(1+p*p)*(c*k1-s*r1)=(1+p*p)*(e*k1-p*s):=by grind
 have a4:e*e+p*p=e*e*(1+q*q):=by grind
 have a5:(1+p*p)*(D*(1-s*(s*k1+c*r1)))=(1+p*p)*((s*k1+c*r1)-s):=by
  have:(1+p*p)*(D*(1-s*(s*k1+c*r1)))=D*(e*e*(1+q*q)):=by rw [<-a4,<-a2];grind
  rw [this,a1];have:D*(e*e*(1+q*q))=e*e*(2*q):=by rw [<-hD];grind
  rw [this];grind
 have hp':(1+p*p)≠0:=by grind
 constructor
 . exact Rat.le_antisymm (Rat.le_of_mul_le_mul_left (by rw [a5];grind) hp) (Rat.le_of_mul_le_mul_left (by rw [a5];grind) hp)
 . exact Rat.le_antisymm (Rat.le_of_mul_le_mul_left (by rw [a3];grind) hp) (Rat.le_of_mul_le_mul_left (by rw [a3];grind) hp)
theorem O7 (s c p e q D:Rat) (h0:0<=s) (h1:s<=1) (he:e=c-p*s) (hq:q*e=p) (hD:D*(1+q*q)=2*q) (q0:0<q) (q1:q<=1/10000) (hp:0<p) (hc:0<=c) (sq:11*q<=s):2*p+11*(p*(q*q))<=D*c/\q<=D/\D<=2*q:=by
 have qq:=Rat.mul_nonneg (show 0<=q by grind) (show 0<=q by grind)
 have D0:0<=D:=by
  rcases Rat.le_total (a:=0) (b:=D) with g|g
  . exact g
  . have:=Rat.mul_nonneg (show 0<=-D by grind) qq
    grind
 have D2:D<=2*q:=by
  have:=Rat.mul_nonneg D0 qq;grind
 have q3:=Rat.mul_nonneg qq (show 0<=q by grind)
 have q4:=Rat.mul_nonneg qq qq
 have D1:2*q*(1-q*q)<=D:=by
  have:=Rat.mul_nonneg (show 0<=2*q-D by grind) qq
  grind
 have m:=Rat.mul_nonneg (show 0<=1/10000-q by grind) (show 0<=q by grind)
 refine ⟨?_,?_,D2⟩
 . have a:=Rat.mul_nonneg (show 0<=D-2*q*(1-q*q) by grind) hc
   have e1:2*q*(1-q*q)*c=2*p*(1-q*q)*(1+q*s):=by
    have:c=e+p*s:=by rw [he];grind
    rw [this];have:q*(e+p*s)=p*(1+q*s):=by rw [Rat.mul_add,hq];grind
    grind
   have b1:=Rat.mul_nonneg (Rat.mul_nonneg (show 0<=p by grind) (show 0<=q by grind)) (show 0<=s-11*q by grind)
   have b2:=Rat.mul_nonneg (Rat.mul_nonneg (show 0<=p by grind) q3) (show 0<=1-s by grind)
   have b3:=Rat.mul_nonneg (Rat.mul_nonneg (show 0<=p by grind) qq) (show 0<=1/10000-q by grind)
   have b4:=Rat.mul_nonneg (show 0<=p by grind) qq
   grind
 . have:=Rat.mul_nonneg (show 0<=q by grind) (show 0<=1/2-q*q by grind)
   grind
theorem Q7 (m s c2 p k1 e q D X ep:Rat) (m1:1<=m) (m5:m<=5) (h0:0<=s) (h1:s<=1) (hq:q*e=p) (q0:0<q) (q1:q<=1/10000) (hp:0<p) (hc2:c2=e*k1-p*s) (k0:k1<=1) (c0:0<=c2) (c21:c2<=1) (e0:0<=e) (sq:(8*m+3)*q<=s) (D0:0<=D) (D2:D<=2*q)
 (ep0:0<=ep) (hep:ep<=4*(p*(q*q))) (hX:(1-m*(D*D))*X<=D*(1+m*(D*D))+ep) (X0:0<=X):X*c2<=2*p*(1-q*q):=by
 have qq:=Rat.mul_nonneg (show 0<=q by grind) (show 0<=q by grind)
 have Dc:D*c2<=2*p*(1-q*s):=by
  have a:=Rat.mul_nonneg (show 0<=2*q-D by grind) c0
  have b:=Rat.mul_nonneg (show 0<=1-k1 by grind) (Rat.mul_nonneg (show 0<=q by grind) e0)
  have:2*q*c2=2*p*k1-2*p*q*s:=by rw [hc2];grind
  grind
 have DD:D*D<=4*(q*q):=by
  have a:=Rat.mul_nonneg (show 0<=2*q-D by grind) (show 0<=2*q+D by grind)
  grind
 have DD0:=Rat.mul_nonneg D0 D0;have dc0:=Rat.mul_nonneg D0 c0
 have mq0:0<=m*(4*(q*q))-m*(D*D):=by
  have:=Rat.mul_nonneg (show 0<=m by grind) (show 0<=4*(q*q)-D*D by grind);grind
 have mqq:=Rat.mul_nonneg (show 0<=m by grind) qq
 have x1:=Rat.mul_le_mul_of_nonneg_right hX c0;have x2:=Rat.mul_nonneg (Rat.mul_nonneg X0 c0) mq0;have x3:=Rat.mul_nonneg dc0 mq0;have x4:=Rat.mul_nonneg (show 0<=2*p*(1-q*s)-D*c2 by grind) (show 0<=1+m*(4*(q*q)) by grind)
 have x5:=Rat.mul_nonneg ep0 (show 0<=1-c2 by grind)
 have y1:=Rat.mul_nonneg (Rat.mul_nonneg (show 0<=p by grind) (show 0<=q by grind)) (show 0<=s-(8*m+3)*q by grind)
 have y2:=Rat.mul_nonneg (Rat.mul_nonneg (Rat.mul_nonneg (show 0<=p by grind) (show 0<=q by grind)) h0) mqq
 have y3:=Rat.mul_nonneg (show 0<=p by grind) (Rat.mul_nonneg qq mqq)
 have fin:(1-m*(4*(q*q)))*(X*c2)<=(1-m*(4*(q*q)))*(2*p*(1-q*q)):=by
  grind
 have mm:=Rat.mul_nonneg (show 0<=1/10000-q by grind) (show 0<=q by grind)
 have m6:=Rat.mul_nonneg (show 0<=5-m by grind) qq
 exact Rat.le_of_mul_le_mul_left fin (by grind)
