/- Plain numbers: package rhumb's sine up to 89 degrees is near the exact one. -/
import Derived.Test.YtcfpmdndgbpfpaaZRnN
set_option linter.unusedVariables false
set_option linter.unusedSimpArgs false
namespace Alm
theorem yV:sQ dS 5400000*2^256<=dd*L0:=by decide +kernel
theorem zl:sQ dC 5400000*2^256<=dd*L0:=by decide +kernel
theorem AP (n:Nat) (h:n<5400000):-aL<=ps (n+1)-(ps n*c1+pc n*s1)/\ps (n+1)-(ps n*c1+pc n*s1)<=aL:=by
 apply gF _ (ev dS n) (dd*L0) (Int.mul_pos lX kz)
 . have e:ev dS n=dd*ev sP (n+1)-(c1n*ev sP n+s1n*ev cP n):=by
    simp only [dS,jf,gM,iw];grind
   rw [e];simp only [Rat.intCast_sub,Rat.intCast_add,Rat.intCast_mul];rw [<-gZ n,<-gK n,<-nM,<-nu];have e2:((ev sP ((n:Int)+1):Int):Rat)=ps (n+1)*(L0:Rat):=by rw [gZ];norm_cast
   rw [e2];grind
 . have h1:=xR dS n 5400000 (by omega) (by omega)
   have h2:=yV;omega
theorem Br (n:Nat) (h:n<5400000):-aL<=pc (n+1)-(pc n*c1-ps n*s1)/\pc (n+1)-(pc n*c1-ps n*s1)<=aL:=by
 apply gF _ (ev dC n) (dd*L0) (Int.mul_pos lX kz)
 . have e:ev dC n=dd*ev cP (n+1)-(c1n*ev cP n-s1n*ev sP n):=by
    simp only [dC,jf,gM,iw];grind
   rw [e];simp only [Rat.intCast_sub,Rat.intCast_mul];rw [<-gZ n,<-gK n,<-nM,<-nu];have e2:((ev cP ((n:Int)+1):Int):Rat)=pc (n+1)*(L0:Rat):=by rw [gK];norm_cast
   rw [e2];grind
 . have h1:=xR dC n 5400000 (by omega) (by omega)
   have h2:=zl;omega
theorem BD (n:Nat) (h:n<=5400000):(ps n-zs n)*(ps n-zs n)+(pc n-zc n)*(pc n-zc n)<=((n:Rat)*(n:Rat))*(dO*dO):=by
 induction n with
 | zero=>exact yC 0 (by omega)
 | succ n ih =>
  have ih:=ih (by omega)
  have hs:=AP n (by omega)
  have hc:=Br n (by omega)
  have g:=grow (n:Rat) (ps n-zs n) (pc n-zc n) (ps (n+1)-(ps n*c1+pc n*s1)) (pc (n+1)-(pc n*c1-ps n*s1)) c1 s1 dO (by exact_mod_cast Nat.zero_le n) sO (IA _ _ hs hc) ih
  have e1:(ps n-zs n)*c1+(pc n-zc n)*s1+(ps (n+1)-(ps n*c1+pc n*s1))=ps (n+1)-zs (n+1):=by rw [dE];grind
  have e2:(pc n-zc n)*c1-(ps n-zs n)*s1+(pc (n+1)-(pc n*c1-ps n*s1))=pc (n+1)-zc (n+1):=by rw [eG];grind
  rw [e1,e2] at g;have e3:((n+1:Nat):Rat)=(n:Rat)+1:=by norm_cast
  rw [e3];exact g
theorem Hz (n:Nat) (h:n<=5400000):-bH<=ps n-zs n/\ps n-zs n<=bH:=by
 have g:=BD n h
 have hn:(n:Rat)<=((2^25:Int):Rat):=by
  have:(n:Int)<=2^25:=by omega
  exact_mod_cast this
 have hn0:(0:Rat)<=(n:Rat):=by exact_mod_cast Nat.zero_le n
 have hd:=dm;have hb:0<=bH:=by unfold bH;exact Rat.mul_nonneg (by decide) (by grind)
 have hle:(n:Rat)*(n:Rat)*(dO*dO)<=bH*bH:=by
  have:=bT ((n:Rat)*dO) bH (by
   have:=Rat.mul_nonneg hn0 (show 0<=dO by unfold dO;grind)
   grind) (by
   have:=Rat.mul_le_mul_of_nonneg_right hn (show 0<=dO by unfold dO;grind)
   unfold bH;unfold dO at *
   have e:((2^26:Int):Rat)=((2^25:Int):Rat)*2:=by decide +kernel
   rw [e];grind)
  grind
 have q1:=aj (ps n-zs n);have q2:=aj (pc n-zc n);exact fu _ _ hb (by grind)
theorem uL (y:Rat) (D:Nat) (hD:6<=D) (h0:0<=y) (h1:y<=5/2):0<=y/(D:Rat)/\y/(D:Rat)<=1/2/\y/(D:Rat)*(D:Rat)=y:=by
 have hd:(6:Rat)<=(D:Rat):=by exact_mod_cast hD
 have hm:y/(D:Rat)*(D:Rat)=y:=Rat.div_mul_cancel (by grind)
 generalize y/(D:Rat)=z at *
 have hz:0<=z:=by
  rcases Rat.le_total (a:=0) (b:=z) with h|h
  . exact h
  . have:=Rat.mul_nonneg (show 0<=-z by grind) (show 0<=(D:Rat)-1 by grind)
    grind
 have h2:=Rat.mul_nonneg hz (show 0<=(D:Rat)-6 by grind)
 refine ⟨hz,by grind,hm⟩
theorem Bc (j:Nat) (hj:1<=j):6<=(j+1)*(j+2):=by have:=Nat.mul_le_mul (show 2<=j+1 by omega) (show 3<=j+2 by omega);omega
theorem CJ (m j:Nat) (y:Rat) (hj:1<=j) (h0:0<=y) (h1:y<=5/2):1/2<=hr m j y/\hr m j y<=1:=by
 induction m generalizing j with
 | zero=>simp only [hr];grind
 | succ m ih =>
  have i:=ih (j+2) (by omega)
  have q:=uL y ((j+1)*(j+2)) (Bc j hj) h0 h1;simp only [hr];generalize y/(((j+1)*(j+2):Nat):Rat)=z at *
  have:=ax z (hr m (j+2) y) (1/2) 1 (by grind) (by grind) (by grind) (by grind)
  have:=Rat.mul_nonneg q.1 (show 0<=hr m (j+2) y by grind)
  grind
theorem wE (T Y D:Nat) (y z:Rat) (hD:6<=D) (hT:(T:Rat)*af<=2) (h0:0<=y) (h1:y<=5/2) (hz:y/(D:Rat)=z)
 (e1:-(8*af)<=Y*af-y) (e2:Y*af-y<=8*af) :
 -(6*af)<=((ah T Y/D:Nat):Rat)*af-T*af*z/\((ah T Y/D:Nat):Rat)*af-T*af*z<=6*af:=by
 have hm:=gQ T Y;have hq:=ed (ah T Y) D (by omega)
 have q:=uL y D hD h0 h1;rw [hz] at q;have hDr:(6:Rat)<=(D:Rat):=by exact_mod_cast hD
 have hd:=aT;have hT0:=ay T;generalize ((ah T Y/D:Nat):Rat)=u at *
 generalize (ah T Y:Rat)=M at *
 generalize (D:Rat)=D at *
 generalize af=d at *
 have t0:0<=(T:Rat)*d:=Rat.mul_nonneg hT0 (by grind)
 generalize (T:Rat)*d=t at *
 obtain ⟨q1,q2,q3⟩:=q;have k1:=Rat.mul_le_mul_of_nonneg_right hq.1 (show 0<=d by grind)
 have k2:=Rat.mul_le_mul_of_nonneg_right hq.2 (show 0<=d by grind)
 have m1:=ax t (Y*d-y) 2 (8*d) (by grind) hT e1 e2
 generalize (Y:Rat)*d=Yd at *
 have a1:(u*d-t*z)*D<=16*d:=by
  have:t*z*D=t*y:=by rw [<-q3];grind
  grind
 have a2:-(17*d)-D*d<=(u*d-t*z)*D:=by
  have:t*z*D=t*y:=by rw [<-q3];grind
  grind
 constructor
 . rcases Rat.le_total (a:=-(6*d)) (b:=u*d-t*z) with h|h
   . exact h
   . have:=Rat.mul_nonneg (show 0<=-(6*d)-(u*d-t*z) by grind) (show 0<=D-6 by grind)
     have:=Rat.mul_nonneg (show 0<=d by grind) (show 0<=D-6 by grind)
     grind
 . rcases Rat.le_total (a:=u*d-t*z) (b:=6*d) with h|h
   . exact h
   . have:=Rat.mul_nonneg (show 0<=(u*d-t*z)-6*d by grind) (show 0<=D-6 by grind)
     have:=Rat.mul_nonneg (show 0<=d by grind) (show 0<=D-6 by grind)
     grind
theorem jN (T Y:Nat) (hY:2*Y<=5*QA):2*ah T Y<=5*T:=by
 have h:ah T Y*QA<=T*Y:=by unfold ah;exact Nat.div_mul_le_self _ _
 have h2:T*(2*Y)<=T*(5*QA):=Nat.mul_le_mul_left _ hY;have q:0<QA:=by rw [bA];decide
 apply Nat.le_of_mul_le_mul_right (c:=QA) _ q;grind
theorem mV (T Y D:Nat) (hY:2*Y<=5*QA) (hD:6<=D):ah T Y/D<=T/2:=by
 have h:=jN T Y hY;have:ah T Y/D<=ah T Y/6:=Nat.div_le_div_left hD (by omega)
 omega
theorem vR (m T Y j:Nat) (y:Rat) (hj:1<=j) (hT:T<=2*QA) (hY:2*Y<=5*QA) (h0:0<=y) (h1:y<=5/2)
 (e1:-(8*af)<=Y*af-y) (e2:Y*af-y<=8*af) :
 -((m:Rat)*(6*af))<=(cz m T Y j:Rat)*af-T*af*hr m j y/\(cz m T Y j:Rat)*af-T*af*hr m j y<=(m:Rat)*(6*af):=by
 have hd:=aT
 induction m generalizing T j with
 | zero=>simp only [cz,hr];rw [Rat.intCast_natCast];constructor<;>grind
 | succ m ih =>
  have hD:=Bc j hj;have hle:ah T Y/((j+1)*(j+2))<=T:=Nat.le_trans (mV T Y _ hY hD) (Nat.div_le_self _ _);have i:=ih (ah T Y/((j+1)*(j+2))) (j+2) (by omega) (by omega)
  have hT1:(T:Rat)*af<=2:=by
   have:=Rat.mul_le_mul_of_nonneg_right (bF _ _ hT) (show 0<=af by grind)
   rw [Rat.natCast_mul] at this;have:=wB;grind
  have n:=wE T Y ((j+1)*(j+2)) y _ hD hT1 h0 h1 rfl e1 e2;have hb:=CJ m (j+2) y (by omega) h0 h1
  simp only [cz,hr];rw [Rat.intCast_sub,Rat.intCast_natCast];have em:((m+1:Nat):Rat)=(m:Rat)+1:=by norm_cast
  rw [em];generalize (cz m (ah T Y/((j+1)*(j+2))) Y (j+2):Rat)=S at *
  generalize ((ah T Y/((j+1)*(j+2)):Nat):Rat)=u at *
  generalize y/(((j+1)*(j+2):Nat):Rat)=z at *
  generalize hr m (j+2) y=H at *
  generalize (m:Rat)=mm at *
  generalize (T:Rat)=t at *
  generalize af=d at *
  have t1:=ax (u*d-t*d*z) H (6*d) 1 n.1 n.2 (by grind) (by grind)
  constructor<;>grind
theorem mq (n:Nat) (h:n<=5340000):-(2*af)<=(aB n:Rat)*af-n*ag/\(aB n:Rat)*af-n*ag<=2*af:=by
 have q:=ed (n*PiA) 10800000 (by omega)
 have hp:=jX;have hd:=aT;have hn:(n:Rat)<=5340000:=by exact_mod_cast h
 have hn0:=ay n;unfold aB;rw [Rat.natCast_mul] at q;have e:((10800000:Nat):Rat)=10800000:=rfl;rw [e] at q;generalize ((n*PiA/10800000:Nat):Rat)=r at *
 generalize (PiA:Rat)=P at *
 generalize af=d at *
 have k1:=Rat.mul_le_mul_of_nonneg_right q.1 (show 0<=d by grind)
 have k2:=Rat.mul_le_mul_of_nonneg_right q.2 (show 0<=d by grind)
 have t:=ax (n:Rat) (P*d-ag*10800000) 5340000 d (by grind) hn hp.1 hp.2
 constructor<;>grind
theorem oK:0<ag/\ag*5340000<=156/100:=by unfold ag;constructor<;>decide +kernel
theorem Ct:100*(5340000*PiA)<156*(10800000*QA):=by unfold PiA QA;decide +kernel
theorem nQ (n:Nat) (h:n<=5340000):100*aB n<=156*QA:=by
 have h1:n*PiA<=5340000*PiA:=Nat.mul_le_mul_right _ h;have h2:=Ct;have h3:aB n*10800000<=n*PiA:=by unfold aB;exact Nat.div_mul_le_self _ _
 omega
theorem pO (n:Nat) (h:n<=5340000):2*ah (aB n) (aB n)<=5*QA/\0<=(n*ag)*(n*ag)/\(n*ag)*(n*ag)<=5/2 /\
 -(8*af)<=(ah (aB n) (aB n):Rat)*af-(n*ag)*(n*ag)/\(ah (aB n) (aB n):Rat)*af-(n*ag)*(n*ag)<=8*af:=by
 have hr:=mq n h;have hl:=nQ n h;have hm:=gQ (aB n) (aB n);have hd:=aT;have hn:(n:Rat)<=5340000:=by exact_mod_cast h
 have hn0:=ay n;have ht:=oK
 have x1:(n:Rat)*ag<=156/100:=by
  have:=Rat.mul_le_mul_of_nonneg_right hn (show 0<=ag by grind);grind
 have x0:0<=(n:Rat)*ag:=Rat.mul_nonneg hn0 (by grind)
 have hd1:af<=1/100:=by unfold af;decide +kernel
 have hq:2*ah (aB n) (aB n)<=5*QA:=by
  have a:ah (aB n) (aB n)*QA<=aB n*aB n:=by unfold ah;exact Nat.div_mul_le_self _ _
  have q:0<QA:=by rw [bA];decide
  have b:=Nat.mul_le_mul hl hl;clear hm hr;generalize ah (aB n) (aB n)=M at *
  generalize aB n=X at *
  generalize QA=Q at *
  apply Nat.le_of_mul_le_mul_right (c:=5000*Q) _ (by omega)
  have f1:100*X*(100*X)=10000*(X*X):=by grind
  have f2:156*Q*(156*Q)=24336*(Q*Q):=by grind
  have f3:2*M*(5000*Q)=10000*(M*Q):=by grind
  have f4:5*Q*(5000*Q)=25000*(Q*Q):=by grind
  omega
 refine ⟨hq,?_⟩;generalize (ah (aB n) (aB n):Rat)=M at *
 generalize (aB n:Rat)=X at *
 generalize (n:Rat)*ag=x at *
 generalize af=d at *
 have t:=ax (X*d-x) (X*d+x) (2*d) (7/2) hr.1 hr.2 (by grind) (by grind)
 have t2:=ax x x (156/100) (156/100) (by grind) x1 (by grind) x1
 refine ⟨aj _,by grind,by grind,by grind⟩
def yH (n:Nat):Int:=cz 34 (aB n) (ah (aB n) (aB n)) 1
theorem qh (n:Nat) (h:n<=5340000):-(220*af)<=(yH n:Rat)*af-zs n/\(yH n:Rat)*af-zs n<=220*af:=by
 have nz:=Hz n (by omega)
 obtain ⟨hY,y0,y1,e1,e2⟩:=pO n h;have hl:=vR 34 (aB n) (ah (aB n) (aB n)) 1 _ (by omega) (by have:=nQ n h;omega) hY y0 y1 e1 e2
 have hb:=CJ 34 1 _ (by omega) y0 y1
 have hrr:=mq n h;unfold yH;rw [FC] at nz;have e34:((34:Nat):Rat)=34:=rfl;rw [e34] at hl;have hd:=aT;have c:=Bb;generalize hr 34 1 ((n*ag)*(n*ag))=H at *
 generalize (cz 34 (aB n) (ah (aB n) (aB n)) 1:Rat)=M at *
 generalize (aB n:Rat)=X at *
 generalize (n:Rat)*ag=x at *
 generalize af=d at *
 have t1:=ax (X*d-x) H (2*d) 1 hrr.1 hrr.2 (by grind) (by grind)
 constructor<;>grind
def vQ:Nat->Nat
 | 0=>2*QA
 | i+1=>vQ i*5/2/((4*i+2)*(4*i+3))*5/2/((4*i+4)*(4*i+5))
theorem BU:vQ 17=0:=by simp only [vQ];rw [bA]
theorem uu (T Y B D:Nat) (hY:2*Y<=5*QA) (hT:T<=B) (hD:0<D):ah T Y/D<=B*5/2/D:=by
 have h:=jN T Y hY;apply Nat.div_le_div_right;omega
theorem DK (g:Nat):∀ (i f Y T P M:Nat),g+i=17->g+1<=f->2*Y<=5*QA->T<=vQ i->T<=2*QA->M<=P->P<=2*i*QA ->
 okS f Y T (4*i+2) P M=true/\((om f Y T (4*i+2) P M:Nat):Int)=P-M+cz (2*g) T Y (4*i+1):=by
 induction g with
 | zero =>
  intro i f Y T P M hi hf hY hT hT2 hM hP;obtain rfl:i=17:=by omega
  rw [BU] at hT;obtain rfl:T=0:=by omega
  obtain ⟨f,rfl⟩:∃ f',f=f'+1:=⟨f-1,by omega⟩
  rw [ky];simp [okS,om];omega
 | succ g ih =>
  intro i f Y T P M hi hf hY hT hT2 hM hP;obtain ⟨f,rfl⟩:∃ f',f=f'+1:=⟨f-1,by omega⟩
  by_cases z:T=0
  . subst z;rw [ky];simp [okS,om];omega
  . have q:=bA;have d1:6<=(4*i+2)*(4*i+2+1):=by have:=Nat.mul_le_mul (show 2<=4*i+2 by omega) (show 3<=4*i+2+1 by omega);omega
    have d2:6<=(4*i+2+2)*(4*i+2+3):=by have:=Nat.mul_le_mul (show 2<=4*i+2+2 by omega) (show 3<=4*i+2+3 by omega);omega
    have t1:=mV T Y _ hY d1;have t2:=mV (ah T Y/((4*i+2)*(4*i+2+1))) Y _ hY d2;have b1:=uu T Y (vQ i) ((4*i+2)*(4*i+2+1)) hY hT (by omega)
    have b2:=uu (ah T Y/((4*i+2)*(4*i+2+1))) Y _ ((4*i+2+2)*(4*i+2+3)) hY b1 (by omega)
    have b3:vQ (i+1)=vQ i*5/2/((4*i+2)*(4*i+2+1))*5/2/((4*i+2+2)*(4*i+2+3)):=rfl;have m1:=jN T Y hY;have m2:=jN (ah T Y/((4*i+2)*(4*i+2+1))) Y hY
    have n1:T*Y<2^448:=by
     have k:=Nat.mul_le_mul hT2 hY;have e:5*(QA*QA)<2^448:=by rw [q];decide +kernel
     have f:2*QA*(5*QA)=10*(QA*QA):=by grind
     have f2:T*(2*Y)=2*(T*Y):=by grind
     rw [f,f2] at k;exact Nat.lt_of_le_of_lt (by omega) e
    have n2:ah T Y/((4*i+2)*(4*i+2+1))*Y<2^448:=Nat.lt_of_le_of_lt (Nat.mul_le_mul_right _ (by omega)) n1
    have hw:W=2^256:=by unfold W;rfl
    have s:cz (2*(g+1)) T Y (4*i+1)=T-(((ah T Y/((4*i+2)*(4*i+2+1)):Nat):Int)-cz (2*g) (ah (ah T Y/((4*i+2)*(4*i+2+1))) Y/((4*i+2+2)*(4*i+2+3))) Y (4*(i+1)+1)):=by
     rw [show 2*(g+1)=2*g+1+1 by omega]
     simp only [cz];rfl
    rw [s]
    have hPT:P+T<=2*(i+1)*QA:=by
     have e:2*(i+1)*QA=2*i*QA+2*QA:=by rw [Nat.mul_add,Nat.add_mul]
     omega
    have r:=ih (i+1) f Y (ah (ah T Y/((4*i+2)*(4*i+2+1))) Y/((4*i+2+2)*(4*i+2+3))) (P+T) (M+ah T Y/((4*i+2)*(4*i+2+1))) (by omega) (by omega) hY (by rw [b3];exact b2) (by omega) (by omega) hPT
    rw [show 4*(i+1)+2=4*i+2+4 by omega] at r
    have hP2:P<=34*QA:=Nat.le_trans hP (Nat.mul_le_mul_right _ (by omega))
    simp only [okS,om,if_neg z,Bool.and_eq_true,decide_eq_true_eq];generalize ah (ah T Y/((4*i+2)*(4*i+2+1))) Y=V at *
    generalize ah T Y/((4*i+2)*(4*i+2+1))=U at *
    generalize ah T Y=V1 at *
    refine ⟨⟨⟨⟨⟨⟨⟨n1,by omega⟩,n2⟩,by omega⟩,by omega⟩,by omega⟩,r.1⟩,?_⟩
    rw [r.2];generalize cz _ _ _ _=S;omega
theorem jL (n:Nat) (h:n<=5340000):oG n=true/\((aO n:Nat):Int)=yH n:=by
 have hY:=(pO n h).1;have hr:=nQ n h;have q:=bA;have r:=DK 17 0 60 (ah (aB n) (aB n)) (aB n) 0 0 (by omega) (by omega) hY (by show aB n<=2*QA;omega) (by omega) (by omega) (by omega)
 have e:((aO n:Nat):Int)=yH n:=by
  have:=r.2;unfold aO yH;rw [show 4*0+2=2 from rfl,show 4*0+1=1 from rfl,show 2*17=34 from rfl] at this
  omega
 refine ⟨?_,e⟩;unfold oG;simp only [Bool.and_eq_true,decide_eq_true_eq];have hw:W=2^256:=by unfold W;rfl
 have pa:PiA<4*QA:=by unfold PiA QA;decide +kernel
 have n1:n*PiA<W:=by
  have:=Nat.mul_le_mul h (Nat.le_of_lt pa);omega
 have n2:aB n*aB n<2^448:=by
  have a:aB n<=2*QA:=by omega
  have:=Nat.mul_le_mul a a;have e:2*QA*(2*QA)<2^448:=by rw [q];decide +kernel
  omega
 exact ⟨⟨⟨n1,n2⟩,by omega⟩,r.1⟩
