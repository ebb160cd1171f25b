/- Plain numbers: package rhumb's sine up to 89 degrees is near the exact one. -/
import Derived.Test.YtcfpmdndgbpfpaaZRnN
set_option linter.unusedVariables false
set_option linter.unusedSimpArgs false
namespace Alm
theorem Ez:wX dS 5400000*2^256<=dd*L0:=by decide +kernel
theorem Fh:wX dC 5400000*2^256<=dd*L0:=by decide +kernel
theorem H5 (n:Nat) (h:n<5400000):-aH<=ps (n+1)-(ps n*c1+pc n*s1)/\ps (n+1)-(ps n*c1+pc n*s1)<=aH:=by
 apply il _ (ev dS n) (dd*L0) (Int.mul_pos rT kH)
 . have e:ev dS n=dd*ev sP (n+1)-(c1n*ev sP n+s1n*ev cP n):=by
    simp only [dS,lY,jy,jM];grind
   rw [e];simp only [Rat.intCast_sub,Rat.intCast_add,Rat.intCast_mul];rw [<-eU n,<-fH n,<-sD,<-qj];have e2:((ev sP ((n:Int)+1):Int):Rat)=ps (n+1)*(L0:Rat):=by rw [eU];norm_cast
   rw [e2];grind
 . have h1:=BX dS n 5400000 (by omega) (by omega)
   have h2:=Ez;omega
theorem F7 (n:Nat) (h:n<5400000):-aH<=pc (n+1)-(pc n*c1-ps n*s1)/\pc (n+1)-(pc n*c1-ps n*s1)<=aH:=by
 apply il _ (ev dC n) (dd*L0) (Int.mul_pos rT kH)
 . have e:ev dC n=dd*ev cP (n+1)-(c1n*ev cP n-s1n*ev sP n):=by
    simp only [dC,lY,jy,jM];grind
   rw [e];simp only [Rat.intCast_sub,Rat.intCast_mul];rw [<-eU n,<-fH n,<-sD,<-qj];have e2:((ev cP ((n:Int)+1):Int):Rat)=pc (n+1)*(L0:Rat):=by rw [fH];norm_cast
   rw [e2];grind
 . have h1:=BX dC n 5400000 (by omega) (by omega)
   have h2:=Fh;omega
theorem Jp (n:Nat) (h:n<=5400000):(ps n-zs n)*(ps n-zs n)+(pc n-zc n)*(pc n-zc n)<=((n:Rat)*(n:Rat))*(fJ*fJ):=by
 induction n with
 | zero=>exact Ch 0 (by omega)
 | succ n ih =>
  have ih:=ih (by omega)
  have hs:=H5 n (by omega)
  have hc:=F7 n (by omega)
  have g:=grow (n:Rat) (ps n-zs n) (pc n-zc n) (ps (n+1)-(ps n*c1+pc n*s1)) (pc (n+1)-(pc n*c1-ps n*s1)) c1 s1 fJ (by exact_mod_cast Nat.zero_le n) yU (Rm _ _ hs hc) ih
  have e1:(ps n-zs n)*c1+(pc n-zc n)*s1+(ps (n+1)-(ps n*c1+pc n*s1))=ps (n+1)-zs (n+1):=by rw [bH];grind
  have e2:(pc n-zc n)*c1-(ps n-zs n)*s1+(pc (n+1)-(pc n*c1-ps n*s1))=pc (n+1)-zc (n+1):=by rw [bM];grind
  rw [e1,e2] at g;have e3:((n+1:Nat):Rat)=(n:Rat)+1:=by norm_cast
  rw [e3];exact g
theorem QX (n:Nat) (h:n<=5400000):-bg<=ps n-zs n/\ps n-zs n<=bg:=by
 have g:=Jp n h
 have hn:(n:Rat)<=((2^25:Int):Rat):=by
  have:(n:Int)<=2^25:=by omega
  exact_mod_cast this
 have hn0:(0:Rat)<=(n:Rat):=by exact_mod_cast Nat.zero_le n
 have hd:=bX;have hb:0<=bg:=by unfold bg;exact Rat.mul_nonneg (by decide) (by grind)
 have hle:(n:Rat)*(n:Rat)*(fJ*fJ)<=bg*bg:=by
  have:=dB ((n:Rat)*fJ) bg (by
   have:=Rat.mul_nonneg hn0 (show 0<=fJ by unfold fJ;grind)
   grind) (by
   have:=Rat.mul_le_mul_of_nonneg_right hn (show 0<=fJ by unfold fJ;grind)
   unfold bg;unfold fJ at *
   have e:((2^26:Int):Rat)=((2^25:Int):Rat)*2:=by decide +kernel
   rw [e];grind)
  grind
 have q1:=aA (ps n-zs n);have q2:=aA (pc n-zc n);exact iq _ _ hb (by grind)
theorem yN (y:Rat) (D:Nat) (hD:6<=D) (h0:0<=y) (h1:y<=5/2):0<=y/(D:Rat)/\y/(D:Rat)<=1/2/\y/(D:Rat)*(D:Rat)=y:=by
 have hd:(6:Rat)<=(D:Rat):=by exact_mod_cast hD
 have hm:y/(D:Rat)*(D:Rat)=y:=Rat.div_mul_cancel (by grind)
 generalize y/(D:Rat)=z at *
 have hz:0<=z:=by
  rcases Rat.le_total (a:=0) (b:=z) with h|h
  . exact h
  . have:=Rat.mul_nonneg (show 0<=-z by grind) (show 0<=(D:Rat)-1 by grind)
    grind
 have h2:=Rat.mul_nonneg hz (show 0<=(D:Rat)-6 by grind)
 refine ⟨hz,by grind,hm⟩
theorem IC (j:Nat) (hj:1<=j):6<=(j+1)*(j+2):=by have:=Nat.mul_le_mul (show 2<=j+1 by omega) (show 3<=j+2 by omega);omega
theorem Gw (m j:Nat) (y:Rat) (hj:1<=j) (h0:0<=y) (h1:y<=5/2):1/2<=hr m j y/\hr m j y<=1:=by
 induction m generalizing j with
 | zero=>simp only [hr];grind
 | succ m ih =>
  have i:=ih (j+2) (by omega)
  have q:=yN y ((j+1)*(j+2)) (IC j hj) h0 h1;simp only [hr];generalize y/(((j+1)*(j+2):Nat):Rat)=z at *
  have:=ak z (hr m (j+2) y) (1/2) 1 (by grind) (by grind) (by grind) (by grind)
  have:=Rat.mul_nonneg q.1 (show 0<=hr m (j+2) y by grind)
  grind
theorem Av (T Y D:Nat) (y z:Rat) (hD:6<=D) (hT:(T:Rat)*ah<=2) (h0:0<=y) (h1:y<=5/2) (hz:y/(D:Rat)=z)
 (e1:-(8*ah)<=Y*ah-y) (e2:Y*ah-y<=8*ah) :
 -(6*ah)<=((au T Y/D:Nat):Rat)*ah-T*ah*z/\((au T Y/D:Nat):Rat)*ah-T*ah*z<=6*ah:=by
 have hm:=iy T Y;have hq:=dU (au T Y) D (by omega)
 have q:=yN y D hD h0 h1;rw [hz] at q;have hDr:(6:Rat)<=(D:Rat):=by exact_mod_cast hD
 have hd:=aM;have hT0:=ax T;generalize ((au T Y/D:Nat):Rat)=u at *
 generalize (au T Y:Rat)=M at *
 generalize (D:Rat)=D at *
 generalize ah=d at *
 have t0:0<=(T:Rat)*d:=Rat.mul_nonneg hT0 (by grind)
 generalize (T:Rat)*d=t at *
 obtain ⟨q1,q2,q3⟩:=q;have k1:=Rat.mul_le_mul_of_nonneg_right hq.1 (show 0<=d by grind)
 have k2:=Rat.mul_le_mul_of_nonneg_right hq.2 (show 0<=d by grind)
 have m1:=ak t (Y*d-y) 2 (8*d) (by grind) hT e1 e2
 generalize (Y:Rat)*d=Yd at *
 have a1:(u*d-t*z)*D<=16*d:=by
  have:t*z*D=t*y:=by rw [<-q3];grind
  grind
 have a2:-(17*d)-D*d<=(u*d-t*z)*D:=by
  have:t*z*D=t*y:=by rw [<-q3];grind
  grind
 constructor
 . rcases Rat.le_total (a:=-(6*d)) (b:=u*d-t*z) with h|h
   . exact h
   . have:=Rat.mul_nonneg (show 0<=-(6*d)-(u*d-t*z) by grind) (show 0<=D-6 by grind)
     have:=Rat.mul_nonneg (show 0<=d by grind) (show 0<=D-6 by grind)
     grind
 . rcases Rat.le_total (a:=u*d-t*z) (b:=6*d) with h|h
   . exact h
   . have:=Rat.mul_nonneg (show 0<=(u*d-t*z)-6*d by grind) (show 0<=D-6 by grind)
     have:=Rat.mul_nonneg (show 0<=d by grind) (show 0<=D-6 by grind)
     grind
theorem mG (T Y:Nat) (hY:2*Y<=5*QA):2*au T Y<=5*T:=by
 have h:au T Y*QA<=T*Y:=by unfold au;exact Nat.div_mul_le_self _ _
 have h2:T*(2*Y)<=T*(5*QA):=Nat.mul_le_mul_left _ hY;have q:0<QA:=by rw [bL];decide
 apply Nat.le_of_mul_le_mul_right (c:=QA) _ q;grind
theorem sF (T Y D:Nat) (hY:2*Y<=5*QA) (hD:6<=D):au T Y/D<=T/2:=by
 have h:=mG T Y hY;have:au T Y/D<=au T Y/6:=Nat.div_le_div_left hD (by omega)
 omega
theorem Ai (m T Y j:Nat) (y:Rat) (hj:1<=j) (hT:T<=2*QA) (hY:2*Y<=5*QA) (h0:0<=y) (h1:y<=5/2)
 (e1:-(8*ah)<=Y*ah-y) (e2:Y*ah-y<=8*ah) :
 -((m:Rat)*(6*ah))<=(dn m T Y j:Rat)*ah-T*ah*hr m j y/\(dn m T Y j:Rat)*ah-T*ah*hr m j y<=(m:Rat)*(6*ah):=by
 have hd:=aM
 induction m generalizing T j with
 | zero=>simp only [dn,hr];rw [Rat.intCast_natCast];constructor<;>grind
 | succ m ih =>
  have hD:=IC j hj;have hle:au T Y/((j+1)*(j+2))<=T:=Nat.le_trans (sF T Y _ hY hD) (Nat.div_le_self _ _);have i:=ih (au T Y/((j+1)*(j+2))) (j+2) (by omega) (by omega)
  have hT1:(T:Rat)*ah<=2:=by
   have:=Rat.mul_le_mul_of_nonneg_right (bn _ _ hT) (show 0<=ah by grind)
   rw [Rat.natCast_mul] at this;have:=vY;grind
  have n:=Av T Y ((j+1)*(j+2)) y _ hD hT1 h0 h1 rfl e1 e2;have hb:=Gw m (j+2) y (by omega) h0 h1
  simp only [dn,hr];rw [Rat.intCast_sub,Rat.intCast_natCast];have em:((m+1:Nat):Rat)=(m:Rat)+1:=by norm_cast
  rw [em];generalize (dn m (au T Y/((j+1)*(j+2))) Y (j+2):Rat)=S at *
  generalize ((au T Y/((j+1)*(j+2)):Nat):Rat)=u at *
  generalize y/(((j+1)*(j+2):Nat):Rat)=z at *
  generalize hr m (j+2) y=H at *
  generalize (m:Rat)=mm at *
  generalize (T:Rat)=t at *
  generalize ah=d at *
  have t1:=ak (u*d-t*d*z) H (6*d) 1 n.1 n.2 (by grind) (by grind)
  constructor<;>grind
theorem qO (n:Nat) (h:n<=5340000):-(2*ah)<=(aI n:Rat)*ah-n*aj/\(aI n:Rat)*ah-n*aj<=2*ah:=by
 have q:=dU (n*PiA) 10800000 (by omega)
 have hp:=gQ;have hd:=aM;have hn:(n:Rat)<=5340000:=by exact_mod_cast h
 have hn0:=ax n;unfold aI;rw [Rat.natCast_mul] at q;have e:((10800000:Nat):Rat)=10800000:=rfl;rw [e] at q;generalize ((n*PiA/10800000:Nat):Rat)=r at *
 generalize (PiA:Rat)=P at *
 generalize ah=d at *
 have k1:=Rat.mul_le_mul_of_nonneg_right q.1 (show 0<=d by grind)
 have k2:=Rat.mul_le_mul_of_nonneg_right q.2 (show 0<=d by grind)
 have t:=ak (n:Rat) (P*d-aj*10800000) 5340000 d (by grind) hn hp.1 hp.2
 constructor<;>grind
theorem ut:0<aj/\aj*5340000<=156/100:=by unfold aj;constructor<;>decide +kernel
theorem Jl:100*(5340000*PiA)<156*(10800000*QA):=by unfold PiA QA;decide +kernel
theorem qJ (n:Nat) (h:n<=5340000):100*aI n<=156*QA:=by
 have h1:n*PiA<=5340000*PiA:=Nat.mul_le_mul_right _ h;have h2:=Jl;have h3:aI n*10800000<=n*PiA:=by unfold aI;exact Nat.div_mul_le_self _ _
 omega
theorem uV (n:Nat) (h:n<=5340000):2*au (aI n) (aI n)<=5*QA/\0<=(n*aj)*(n*aj)/\(n*aj)*(n*aj)<=5/2 /\
 -(8*ah)<=(au (aI n) (aI n):Rat)*ah-(n*aj)*(n*aj)/\(au (aI n) (aI n):Rat)*ah-(n*aj)*(n*aj)<=8*ah:=by
 have hr:=qO n h;have hl:=qJ n h;have hm:=iy (aI n) (aI n);have hd:=aM;have hn:(n:Rat)<=5340000:=by exact_mod_cast h
 have hn0:=ax n;have ht:=ut
 have x1:(n:Rat)*aj<=156/100:=by
  have:=Rat.mul_le_mul_of_nonneg_right hn (show 0<=aj by grind);grind
 have x0:0<=(n:Rat)*aj:=Rat.mul_nonneg hn0 (by grind)
 have hd1:ah<=1/100:=by unfold ah;decide +kernel
 have hq:2*au (aI n) (aI n)<=5*QA:=by
  have a:au (aI n) (aI n)*QA<=aI n*aI n:=by unfold au;exact Nat.div_mul_le_self _ _
  have q:0<QA:=by rw [bL];decide
  have b:=Nat.mul_le_mul hl hl;clear hm hr;generalize au (aI n) (aI n)=M at *
  generalize aI n=X at *
  generalize QA=Q at *
  apply Nat.le_of_mul_le_mul_right (c:=5000*Q) _ (by omega)
  have f1:100*X*(100*X)=10000*(X*X):=by grind
  have f2:156*Q*(156*Q)=24336*(Q*Q):=by grind
  have f3:2*M*(5000*Q)=10000*(M*Q):=by grind
  have f4:5*Q*(5000*Q)=25000*(Q*Q):=by grind
  omega
 refine ⟨hq,?_⟩;generalize (au (aI n) (aI n):Rat)=M at *
 generalize (aI n:Rat)=X at *
 generalize (n:Rat)*aj=x at *
 generalize ah=d at *
 have t:=ak (X*d-x) (X*d+x) (2*d) (7/2) hr.1 hr.2 (by grind) (by grind)
 have t2:=ak x x (156/100) (156/100) (by grind) x1 (by grind) x1
 refine ⟨aA _,by grind,by grind,by grind⟩
def EI (n:Nat):Int:=dn 34 (aI n) (au (aI n) (aI n)) 1
theorem vw (n:Nat) (h:n<=5340000):-(220*ah)<=(EI n:Rat)*ah-zs n/\(EI n:Rat)*ah-zs n<=220*ah:=by
 have nz:=QX n (by omega)
 obtain ⟨hY,y0,y1,e1,e2⟩:=uV n h;have hl:=Ai 34 (aI n) (au (aI n) (aI n)) 1 _ (by omega) (by have:=qJ n h;omega) hY y0 y1 e1 e2
 have hb:=Gw 34 1 _ (by omega) y0 y1
 have hrr:=qO n h;unfold EI;rw [yw] at nz;have e34:((34:Nat):Rat)=34:=rfl;rw [e34] at hl;have hd:=aM;have c:=pJ;generalize hr 34 1 ((n*aj)*(n*aj))=H at *
 generalize (dn 34 (aI n) (au (aI n) (aI n)) 1:Rat)=M at *
 generalize (aI n:Rat)=X at *
 generalize (n:Rat)*aj=x at *
 generalize ah=d at *
 have t1:=ak (X*d-x) H (2*d) 1 hrr.1 hrr.2 (by grind) (by grind)
 constructor<;>grind
def Ar:Nat->Nat
 | 0=>2*QA
 | i+1=>Ar i*5/2/((4*i+2)*(4*i+3))*5/2/((4*i+4)*(4*i+5))
theorem Iz:Ar 17=0:=by simp only [Ar];rw [bL]
theorem zh (T Y B D:Nat) (hY:2*Y<=5*QA) (hT:T<=B) (hD:0<D):au T Y/D<=B*5/2/D:=by
 have h:=mG T Y hY;apply Nat.div_le_div_right;omega
theorem JL (g:Nat):∀ (i f Y T P M:Nat),g+i=17->g+1<=f->2*Y<=5*QA->T<=Ar i->T<=2*QA->M<=P->P<=2*i*QA ->
 okS f Y T (4*i+2) P M=true/\((sU f Y T (4*i+2) P M:Nat):Int)=P-M+dn (2*g) T Y (4*i+1):=by
 induction g with
 | zero =>
  intro i f Y T P M hi hf hY hT hT2 hM hP;obtain rfl:i=17:=by omega
  rw [Iz] at hT;obtain rfl:T=0:=by omega
  obtain ⟨f,rfl⟩:∃ f',f=f'+1:=⟨f-1,by omega⟩
  rw [ni];simp [okS,sU];omega
 | succ g ih =>
  intro i f Y T P M hi hf hY hT hT2 hM hP;obtain ⟨f,rfl⟩:∃ f',f=f'+1:=⟨f-1,by omega⟩
  by_cases z:T=0
  . subst z;rw [ni];simp [okS,sU];omega
  . have q:=bL;have d1:6<=(4*i+2)*(4*i+2+1):=by have:=Nat.mul_le_mul (show 2<=4*i+2 by omega) (show 3<=4*i+2+1 by omega);omega
    have d2:6<=(4*i+2+2)*(4*i+2+3):=by have:=Nat.mul_le_mul (show 2<=4*i+2+2 by omega) (show 3<=4*i+2+3 by omega);omega
    have t1:=sF T Y _ hY d1;have t2:=sF (au T Y/((4*i+2)*(4*i+2+1))) Y _ hY d2;have b1:=zh T Y (Ar i) ((4*i+2)*(4*i+2+1)) hY hT (by omega)
    have b2:=zh (au T Y/((4*i+2)*(4*i+2+1))) Y _ ((4*i+2+2)*(4*i+2+3)) hY b1 (by omega)
    have b3:Ar (i+1)=Ar i*5/2/((4*i+2)*(4*i+2+1))*5/2/((4*i+2+2)*(4*i+2+3)):=rfl;have m1:=mG T Y hY;have m2:=mG (au T Y/((4*i+2)*(4*i+2+1))) Y hY
    have n1:T*Y<2^448:=by
     have k:=Nat.mul_le_mul hT2 hY;have e:5*(QA*QA)<2^448:=by rw [q];decide +kernel
     have f:2*QA*(5*QA)=10*(QA*QA):=by grind
     have f2:T*(2*Y)=2*(T*Y):=by grind
     rw [f,f2] at k;exact Nat.lt_of_le_of_lt (by omega) e
    have n2:au T Y/((4*i+2)*(4*i+2+1))*Y<2^448:=Nat.lt_of_le_of_lt (Nat.mul_le_mul_right _ (by omega)) n1
    have hw:W=2^256:=by unfold W;rfl
    have s:dn (2*(g+1)) T Y (4*i+1)=T-(((au T Y/((4*i+2)*(4*i+2+1)):Nat):Int)-dn (2*g) (au (au T Y/((4*i+2)*(4*i+2+1))) Y/((4*i+2+2)*(4*i+2+3))) Y (4*(i+1)+1)):=by
     rw [show 2*(g+1)=2*g+1+1 by omega]
     simp only [dn];rfl
    rw [s]
    have hPT:P+T<=2*(i+1)*QA:=by
     have e:2*(i+1)*QA=2*i*QA+2*QA:=by rw [Nat.mul_add,Nat.add_mul]
     omega
    have r:=ih (i+1) f Y (au (au T Y/((4*i+2)*(4*i+2+1))) Y/((4*i+2+2)*(4*i+2+3))) (P+T) (M+au T Y/((4*i+2)*(4*i+2+1))) (by omega) (by omega) hY (by rw [b3];exact b2) (by omega) (by omega) hPT
    rw [show 4*(i+1)+2=4*i+2+4 by omega] at r
    have hP2:P<=34*QA:=Nat.le_trans hP (Nat.mul_le_mul_right _ (by omega))
    simp only [okS,sU,if_neg z,Bool.and_eq_true,decide_eq_true_eq];generalize au (au T Y/((4*i+2)*(4*i+2+1))) Y=V at *
    generalize au T Y/((4*i+2)*(4*i+2+1))=U at *
    generalize au T Y=V1 at *
    refine ⟨⟨⟨⟨⟨⟨⟨n1,by omega⟩,n2⟩,by omega⟩,by omega⟩,by omega⟩,r.1⟩,?_⟩
    rw [r.2];generalize dn _ _ _ _=S;omega
theorem mo (n:Nat) (h:n<=5340000):uI n=true/\((aZ n:Nat):Int)=EI n:=by
 have hY:=(uV n h).1;have hr:=qJ n h;have q:=bL;have r:=JL 17 0 60 (au (aI n) (aI n)) (aI n) 0 0 (by omega) (by omega) hY (by show aI n<=2*QA;omega) (by omega) (by omega) (by omega)
 have e:((aZ n:Nat):Int)=EI n:=by
  have:=r.2;unfold aZ EI;rw [show 4*0+2=2 from rfl,show 4*0+1=1 from rfl,show 2*17=34 from rfl] at this
  omega
 refine ⟨?_,e⟩;unfold uI;simp only [Bool.and_eq_true,decide_eq_true_eq];have hw:W=2^256:=by unfold W;rfl
 have pa:PiA<4*QA:=by unfold PiA QA;decide +kernel
 have n1:n*PiA<W:=by
  have:=Nat.mul_le_mul h (Nat.le_of_lt pa);omega
 have n2:aI n*aI n<2^448:=by
  have a:aI n<=2*QA:=by omega
  have:=Nat.mul_le_mul a a;have e:2*QA*(2*QA)<2^448:=by rw [q];decide +kernel
  omega
 exact ⟨⟨⟨n1,n2⟩,by omega⟩,r.1⟩
