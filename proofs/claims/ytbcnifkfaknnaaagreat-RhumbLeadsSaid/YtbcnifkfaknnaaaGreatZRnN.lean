/- Plain numbers: package rhumb's quotient bit by bit, its series, and the meridional parts that it reckons. -/
import Derived.Test.YtbcnifkfaknnaaaGreatZArcLo
set_option linter.unusedVariables false
set_option linter.unusedSimpArgs false
namespace Alm
def bD (X Y:Nat):Nat:=X*QA/Y
theorem Nk (P Y b:Nat) (hY:0<Y) (hb:b<=1):if 2*(P%Y)+b<Y then (2*P+b)/Y=2*(P/Y)/\(2*P+b)%Y=2*(P%Y)+b else (2*P+b)/Y=2*(P/Y)+1/\(2*P+b)%Y=2*(P%Y)+b-Y:=by
 have h:=Nat.div_add_mod P Y;have hr:=Nat.mod_lt P hY;generalize P/Y=q at *
 generalize P%Y=r at *
 have e1:Y*(2*q)=2*(Y*q):=by grind
 have e2:Y*(2*q+1)=2*(Y*q)+Y:=by grind
 split
 . rename_i h1
   exact (Nat.div_mod_unique hY).2 ⟨by omega,h1⟩
 . rename_i h1
   exact (Nat.div_mod_unique hY).2 ⟨by omega,by omega⟩
def ig (X i:Nat):Nat:=X*QA/2^i
theorem IE (X i:Nat):ig X i=2*ig X (i+1)+ig X i%2:=by
 unfold ig;rw [Nat.pow_succ,<-Nat.div_div_eq_div_mul];omega
theorem MO (X i:Nat) (h:i<192):ig X i%2=0:=by
 unfold ig
 have e:QA=2^(191-i)*2*2^i:=by
  rw [<-Nat.pow_succ,<-Nat.pow_add,show 191-i+1+i=192 by omega];unfold QA;rfl
 rw [e,<-Nat.mul_assoc,Nat.mul_div_cancel _ (Nat.two_pow_pos i),<-Nat.mul_assoc];omega
theorem yT (X i:Nat) (h:192<=i):ig X i=X/2^(i-192):=by
 unfold ig;have e:2^i=QA*2^(i-192):=by unfold QA;rw [<-Nat.pow_add,Nat.add_sub_cancel' h]
 rw [e,<-Nat.div_div_eq_div_mul,Nat.mul_div_cancel _ (by rw [dD];omega)]
theorem LW (X:Nat) (h:X<W):ig X 448=0:=by
 have e:(2:Nat)^(448-192)=W:=by unfold W;decide +kernel
 rw [yT X 448 (by omega),e]
 exact Nat.div_eq_of_lt h
theorem J9 (X:Nat):ig X 0=X*QA:=by unfold ig;simp
theorem QC (X i:Nat):ig X i<=X*QA:=Nat.div_le_self _ _
theorem Sr (X j s:Nat) (hj:j<=3) (hs:s<64):X/2^(64*(3-(3-j)))%2^64/2^s%2=X/2^(64*j+s)%2:=by
 rw [show 3-(3-j)=j by omega,Nat.pow_add,<-Nat.div_div_eq_div_mul]
 generalize X/2^(64*j)=A
 have h1:A%2^64/2^s%2=(A/2^s)%2:=by
  have e:(2:Nat)^64=2^s*2^(64-s):=by rw [<-Nat.pow_add];congr 1;omega
  rw [e,Nat.mod_mul_right_div_self];have e2:(2:Nat)^(64-s)=2*2^(63-s):=by rw [<-Nat.pow_succ'];congr 1;omega
  rw [e2,Nat.mod_mul_right_mod]
 exact h1
def xk:Nat->Nat->Nat->Nat->Nat->Nat->Nat
 | 0,_,_,_,P,M=>P-M
 | f+1,Y,T,k,P,M=>if T=0 then P-M else xk f Y (aC (aC T Y/(k*(k+1))) Y/((k+2)*(k+3))) (k+4) (P+T) (M+aC T Y/(k*(k+1)))
def okS:Nat->Nat->Nat->Nat->Nat->Nat->Bool
 | 0,_,T,_,P,M=>T==0&&decide (M<=P)
 | f+1,Y,T,k,P,M=>if T=0 then decide (M<=P) else decide (T*Y<2^448)&&decide (aC T Y<W)&&decide (aC T Y/(k*(k+1))*Y<2^448)&&decide (aC (aC T Y/(k*(k+1))) Y<W)&&decide (P+T<W)&&decide (M+aC T Y/(k*(k+1))<W)&&okS f Y (aC (aC T Y/(k*(k+1))) Y/((k+2)*(k+3))) (k+4) (P+T) (M+aC T Y/(k*(k+1)))
def Am:Nat->Nat->Nat->Nat->Nat->Nat
 | 0,_,_,_,S=>S
 | f+1,Y,T,k,S=>if T=0 then S else Am f Y (aC T Y) (k+2) (S+T/k)
def okA:Nat->Nat->Nat->Nat->Nat->Bool
 | 0,_,T,_,_=>T==0
 | f+1,Y,T,k,S=>if T=0 then true else decide (S+T/k<W)&&decide (T*Y<2^448)&&decide (aC T Y<W)&&okA f Y (aC T Y) (k+2) (S+T/k)
def bI (z:Nat):Nat:=Am 200 (aC z z) z 1 0
def lU (z:Nat):Bool:=decide (z<W)&&decide (z*z<2^448)&&decide (aC z z<W)&&okA 200 (aC z z) z 1 0
def jE:Nat->Nat->Nat
 | 0,u=>u
 | f+1,u=>if u<QA+QA/2 then u else jE f (u/2)
def eG:Nat->Nat->Nat
 | 0,_=>0
 | f+1,u=>if u<QA+QA/2 then 0 else eG f (u/2)+1
def okH:Nat->Nat->Bool
 | 0,u=>decide (u<QA+QA/2)
 | f+1,u=>if u<QA+QA/2 then true else okH f (u/2)
def bL (n:Nat):Nat:=xk 60 (aC (aY n) (aY n)) (aY n) 2 0 0
def yc (n:Nat):Bool:=decide (n*PiA<W)&&decide (aY n*aY n<2^448)&&decide (aC (aY n) (aY n)<W)&&okS 60 (aC (aY n) (aY n)) (aY n) 2 0 0
def okQ (X Y:Nat):Bool:=decide (X<W)&&decide (0<Y)&&decide (2*Y<=W)&&decide (bD X Y<W)
def PO (u k:Nat):Nat:=if u<QA then bI (QA/3)*(2*k)-(bI (bD (QA-u) (u+QA))+bI (bD (QA-u) (u+QA))) else bI (QA/3)*(2*k)+(bI (bD (u-QA) (u+QA))+bI (bD (u-QA) (u+QA)))
def okL (u k:Nat):Bool:=lU (QA/3)&&decide (bI (QA/3)<W)&&decide (bI (QA/3)*(2*k)<W)&&decide (u+QA<W) &&
 (if u<QA then okQ (QA-u) (u+QA)&&lU (bD (QA-u) (u+QA))&&decide (bI (bD (QA-u) (u+QA))+bI (bD (QA-u) (u+QA))<=bI (QA/3)*(2*k))
  else okQ (u-QA) (u+QA)&&lU (bD (u-QA) (u+QA))&&decide (bI (QA/3)*(2*k)+(bI (bD (u-QA) (u+QA))+bI (bD (u-QA) (u+QA)))<W))
def nD (n:Nat):Nat:=PO (jE 200 (bD (QA+bL n) (QA-bL n))) (eG 200 (bD (QA+bL n) (QA-bL n)))
def wpN (n:Nat):Nat:=bD (nD n/2*10800000) PiA/QA
def okW (n:Nat):Bool:=yc n&&decide (bL n<QA)&&okQ (QA+bL n) (QA-bL n)&&okH 200 (bD (QA+bL n) (QA-bL n)) &&
 okL (jE 200 (bD (QA+bL n) (QA-bL n))) (eG 200 (bD (QA+bL n) (QA-bL n)))&&decide (nD n<W)&&decide (nD n/2*10800000<W)&&okQ (nD n/2*10800000) PiA&&decide (wpN n<2^63)
theorem Yj:wpN 0=0:=by decide +kernel
end Alm
namespace Alm
theorem IL:Bg dS 5400000*2^256<=dd*L0:=by decide +kernel
theorem Jf:Bg dC 5400000*2^256<=dd*L0:=by decide +kernel
theorem Ku (n:Nat) (h:n<5400000):-aU<=ps (n+1)-(ps n*c1+pc n*s1)/\ps (n+1)-(ps n*c1+pc n*s1)<=aU:=by
 apply jN _ (ev dS n) (dd*L0) (Int.mul_pos uV nW)
 . have e:ev dS n=dd*ev sP (n+1)-(c1n*ev sP n+s1n*ev cP n):=by
    simp only [dS,pW,kS,mQ];grind
   rw [e];simp only [Rat.intCast_sub,Rat.intCast_add,Rat.intCast_mul];rw [<-gD n,<-iE n,<-wF,<-uT];have e2:((ev sP ((n:Int)+1):Int):Rat)=ps (n+1)*(L0:Rat):=by rw [gD];norm_cast
   rw [e2];grind
 . have h1:=Ib dS n 5400000 (by omega) (by omega)
   have h2:=IL;omega
theorem Ny (n:Nat) (h:n<5400000):-aU<=pc (n+1)-(pc n*c1-ps n*s1)/\pc (n+1)-(pc n*c1-ps n*s1)<=aU:=by
 apply jN _ (ev dC n) (dd*L0) (Int.mul_pos uV nW)
 . have e:ev dC n=dd*ev cP (n+1)-(c1n*ev cP n-s1n*ev sP n):=by
    simp only [dC,pW,kS,mQ];grind
   rw [e];simp only [Rat.intCast_sub,Rat.intCast_mul];rw [<-gD n,<-iE n,<-wF,<-uT];have e2:((ev cP ((n:Int)+1):Int):Rat)=pc (n+1)*(L0:Rat):=by rw [iE];norm_cast
   rw [e2];grind
 . have h1:=Ib dC n 5400000 (by omega) (by omega)
   have h2:=Jf;omega
theorem Lr (n:Nat) (h:n<=5400000):(ps n-zs n)*(ps n-zs n)+(pc n-zc n)*(pc n-zc n)<=((n:Rat)*(n:Rat))*(iD*iD):=by
 induction n with
 | zero=>exact He 0 (by omega)
 | succ n ih =>
  have ih:=ih (by omega)
  have hs:=Ku n (by omega)
  have hc:=Ny n (by omega)
  have g:=grow (n:Rat) (ps n-zs n) (pc n-zc n) (ps (n+1)-(ps n*c1+pc n*s1)) (pc (n+1)-(pc n*c1-ps n*s1)) c1 s1 iD (by exact_mod_cast Nat.zero_le n) Cg (Xk _ _ hs hc) ih
  have e1:(ps n-zs n)*c1+(pc n-zc n)*s1+(ps (n+1)-(ps n*c1+pc n*s1))=ps (n+1)-zs (n+1):=by rw [bZ];grind
  have e2:(pc n-zc n)*c1-(ps n-zs n)*s1+(pc (n+1)-(pc n*c1-ps n*s1))=pc (n+1)-zc (n+1):=by rw [bX];grind
  rw [e1,e2] at g;have e3:((n+1:Nat):Rat)=(n:Rat)+1:=by norm_cast
  rw [e3];exact g
theorem YU (n:Nat) (h:n<=5400000):-bM<=ps n-zs n/\ps n-zs n<=bM:=by
 have g:=Lr n h
 have hn:(n:Rat)<=((2^25:Int):Rat):=by
  have:(n:Int)<=2^25:=by omega
  exact_mod_cast this
 have hn0:(0:Rat)<=(n:Rat):=by exact_mod_cast Nat.zero_le n
 have hd:=dU;have hb:0<=bM:=by unfold bM;exact Rat.mul_nonneg (by decide) (by grind)
 have hle:(n:Rat)*(n:Rat)*(iD*iD)<=bM*bM:=by
  have:=fe ((n:Rat)*iD) bM (by
   have:=Rat.mul_nonneg hn0 (show 0<=iD by unfold iD;grind)
   grind) (by
   have:=Rat.mul_le_mul_of_nonneg_right hn (show 0<=iD by unfold iD;grind)
   unfold bM;unfold iD at *
   have e:((2^26:Int):Rat)=((2^25:Int):Rat)*2:=by decide +kernel
   rw [e];grind)
  grind
 have q1:=aH (ps n-zs n);have q2:=aH (pc n-zc n);exact jM _ _ hb (by grind)
theorem Br (y:Rat) (D:Nat) (hD:6<=D) (h0:0<=y) (h1:y<=5/2):0<=y/(D:Rat)/\y/(D:Rat)<=1/2/\y/(D:Rat)*(D:Rat)=y:=by
 have hd:(6:Rat)<=(D:Rat):=by exact_mod_cast hD
 have hm:y/(D:Rat)*(D:Rat)=y:=Rat.div_mul_cancel (by grind)
 generalize y/(D:Rat)=z at *
 have hz:0<=z:=by
  rcases Rat.le_total (a:=0) (b:=z) with h|h
  . exact h
  . have:=Rat.mul_nonneg (show 0<=-z by grind) (show 0<=(D:Rat)-1 by grind)
    grind
 have h2:=Rat.mul_nonneg hz (show 0<=(D:Rat)-6 by grind)
 refine ⟨hz,by grind,hm⟩
theorem Ov (j:Nat) (hj:1<=j):6<=(j+1)*(j+2):=by have:=Nat.mul_le_mul (show 2<=j+1 by omega) (show 3<=j+2 by omega);omega
theorem Np (m j:Nat) (y:Rat) (hj:1<=j) (h0:0<=y) (h1:y<=5/2):1/2<=hr m j y/\hr m j y<=1:=by
 induction m generalizing j with
 | zero=>simp only [hr];grind
 | succ m ih =>
  have i:=ih (j+2) (by omega)
  have q:=Br y ((j+1)*(j+2)) (Ov j hj) h0 h1;simp only [hr];generalize y/(((j+1)*(j+2):Nat):Rat)=z at *
  have:=aB z (hr m (j+2) y) (1/2) 1 (by grind) (by grind) (by grind) (by grind)
  have:=Rat.mul_nonneg q.1 (show 0<=hr m (j+2) y by grind)
  grind
theorem FO (T Y D:Nat) (y z:Rat) (hD:6<=D) (hT:(T:Rat)*ak<=2) (h0:0<=y) (h1:y<=5/2) (hz:y/(D:Rat)=z)
 (e1:-(8*ak)<=Y*ak-y) (e2:Y*ak-y<=8*ak) :
 -(6*ak)<=((aC T Y/D:Nat):Rat)*ak-T*ak*z/\((aC T Y/D:Nat):Rat)*ak-T*ak*z<=6*ak:=by
 have hm:=jR T Y;have hq:=fU (aC T Y) D (by omega)
 have q:=Br y D hD h0 h1;rw [hz] at q;have hDr:(6:Rat)<=(D:Rat):=by exact_mod_cast hD
 have hd:=bn;have hT0:=aF T;generalize ((aC T Y/D:Nat):Rat)=u at *
 generalize (aC T Y:Rat)=M at *
 generalize (D:Rat)=D at *
 generalize ak=d at *
 have t0:0<=(T:Rat)*d:=Rat.mul_nonneg hT0 (by grind)
 generalize (T:Rat)*d=t at *
 obtain ⟨q1,q2,q3⟩:=q;have k1:=Rat.mul_le_mul_of_nonneg_right hq.1 (show 0<=d by grind)
 have k2:=Rat.mul_le_mul_of_nonneg_right hq.2 (show 0<=d by grind)
 have m1:=aB t (Y*d-y) 2 (8*d) (by grind) hT e1 e2
 generalize (Y:Rat)*d=Yd at *
 have a1:(u*d-t*z)*D<=16*d:=by
  have:t*z*D=t*y:=by rw [<-q3];grind
  grind
 have a2:-(17*d)-D*d<=(u*d-t*z)*D:=by
  have:t*z*D=t*y:=by rw [<-q3];grind
  grind
 constructor
 . rcases Rat.le_total (a:=-(6*d)) (b:=u*d-t*z) with h|h
   . exact h
   . have:=Rat.mul_nonneg (show 0<=-(6*d)-(u*d-t*z) by grind) (show 0<=D-6 by grind)
     have:=Rat.mul_nonneg (show 0<=d by grind) (show 0<=D-6 by grind)
     grind
 . rcases Rat.le_total (a:=u*d-t*z) (b:=6*d) with h|h
   . exact h
   . have:=Rat.mul_nonneg (show 0<=(u*d-t*z)-6*d by grind) (show 0<=D-6 by grind)
     have:=Rat.mul_nonneg (show 0<=d by grind) (show 0<=D-6 by grind)
     grind
theorem oM (T Y:Nat) (hY:2*Y<=5*QA):2*aC T Y<=5*T:=by
 have h:aC T Y*QA<=T*Y:=by unfold aC;exact Nat.div_mul_le_self _ _
 have h2:T*(2*Y)<=T*(5*QA):=Nat.mul_le_mul_left _ hY;have q:0<QA:=by rw [dD];decide
 apply Nat.le_of_mul_le_mul_right (c:=QA) _ q;grind
theorem vP (T Y D:Nat) (hY:2*Y<=5*QA) (hD:6<=D):aC T Y/D<=T/2:=by
 have h:=oM T Y hY;have:aC T Y/D<=aC T Y/6:=Nat.div_le_div_left hD (by omega)
 omega
theorem D8 (m T Y j:Nat) (y:Rat) (hj:1<=j) (hT:T<=2*QA) (hY:2*Y<=5*QA) (h0:0<=y) (h1:y<=5/2)
 (e1:-(8*ak)<=Y*ak-y) (e2:Y*ak-y<=8*ak) :
 -((m:Rat)*(6*ak))<=(eT m T Y j:Rat)*ak-T*ak*hr m j y/\(eT m T Y j:Rat)*ak-T*ak*hr m j y<=(m:Rat)*(6*ak):=by
 have hd:=bn
 induction m generalizing T j with
 | zero=>simp only [eT,hr];rw [Rat.intCast_natCast];constructor<;>grind
 | succ m ih =>
  have hD:=Ov j hj;have hle:aC T Y/((j+1)*(j+2))<=T:=Nat.le_trans (vP T Y _ hY hD) (Nat.div_le_self _ _);have i:=ih (aC T Y/((j+1)*(j+2))) (j+2) (by omega) (by omega)
  have hT1:(T:Rat)*ak<=2:=by
   have:=Rat.mul_le_mul_of_nonneg_right (bS _ _ hT) (show 0<=ak by grind)
   rw [Rat.natCast_mul] at this;have:=zF;grind
  have n:=FO T Y ((j+1)*(j+2)) y _ hD hT1 h0 h1 rfl e1 e2;have hb:=Np m (j+2) y (by omega) h0 h1
  simp only [eT,hr];rw [Rat.intCast_sub,Rat.intCast_natCast];have em:((m+1:Nat):Rat)=(m:Rat)+1:=by norm_cast
  rw [em];generalize (eT m (aC T Y/((j+1)*(j+2))) Y (j+2):Rat)=S at *
  generalize ((aC T Y/((j+1)*(j+2)):Nat):Rat)=u at *
  generalize y/(((j+1)*(j+2):Nat):Rat)=z at *
  generalize hr m (j+2) y=H at *
  generalize (m:Rat)=mm at *
  generalize (T:Rat)=t at *
  generalize ak=d at *
  have t1:=aB (u*d-t*d*z) H (6*d) 1 n.1 n.2 (by grind) (by grind)
  constructor<;>grind
theorem wO (n:Nat) (h:n<=5340000):-(2*ak)<=(aY n:Rat)*ak-n*au/\(aY n:Rat)*ak-n*au<=2*ak:=by
 have q:=fU (n*PiA) 10800000 (by omega)
 have hp:=jB;have hd:=bn;have hn:(n:Rat)<=5340000:=by exact_mod_cast h
 have hn0:=aF n;unfold aY;rw [Rat.natCast_mul] at q;have e:((10800000:Nat):Rat)=10800000:=rfl;rw [e] at q;generalize ((n*PiA/10800000:Nat):Rat)=r at *
 generalize (PiA:Rat)=P at *
 generalize ak=d at *
 have k1:=Rat.mul_le_mul_of_nonneg_right q.1 (show 0<=d by grind)
 have k2:=Rat.mul_le_mul_of_nonneg_right q.2 (show 0<=d by grind)
 have t:=aB (n:Rat) (P*d-au*10800000) 5340000 d (by grind) hn hp.1 hp.2
 constructor<;>grind
theorem yg:0<au/\au*5340000<=156/100:=by unfold au;constructor<;>decide +kernel
theorem Mv:100*(5340000*PiA)<156*(10800000*QA):=by unfold PiA QA;decide +kernel
theorem vE (n:Nat) (h:n<=5340000):100*aY n<=156*QA:=by
 have h1:n*PiA<=5340000*PiA:=Nat.mul_le_mul_right _ h;have h2:=Mv;have h3:aY n*10800000<=n*PiA:=by unfold aY;exact Nat.div_mul_le_self _ _
 omega
theorem xG (n:Nat) (h:n<=5340000):2*aC (aY n) (aY n)<=5*QA/\0<=(n*au)*(n*au)/\(n*au)*(n*au)<=5/2 /\
 -(8*ak)<=(aC (aY n) (aY n):Rat)*ak-(n*au)*(n*au)/\(aC (aY n) (aY n):Rat)*ak-(n*au)*(n*au)<=8*ak:=by
 have hr:=wO n h;have hl:=vE n h;have hm:=jR (aY n) (aY n);have hd:=bn;have hn:(n:Rat)<=5340000:=by exact_mod_cast h
 have hn0:=aF n;have ht:=yg
 have x1:(n:Rat)*au<=156/100:=by
  have:=Rat.mul_le_mul_of_nonneg_right hn (show 0<=au by grind);grind
 have x0:0<=(n:Rat)*au:=Rat.mul_nonneg hn0 (by grind)
 have hd1:ak<=1/100:=by unfold ak;decide +kernel
 have hq:2*aC (aY n) (aY n)<=5*QA:=by
  have a:aC (aY n) (aY n)*QA<=aY n*aY n:=by unfold aC;exact Nat.div_mul_le_self _ _
  have q:0<QA:=by rw [dD];decide
  have b:=Nat.mul_le_mul hl hl;clear hm hr;generalize aC (aY n) (aY n)=M at *
  generalize aY n=X at *
  generalize QA=Q at *
  apply Nat.le_of_mul_le_mul_right (c:=5000*Q) _ (by omega)
  have f1:100*X*(100*X)=10000*(X*X):=by grind
  have f2:156*Q*(156*Q)=24336*(Q*Q):=by grind
  have f3:2*M*(5000*Q)=10000*(M*Q):=by grind
  have f4:5*Q*(5000*Q)=25000*(Q*Q):=by grind
  omega
 refine ⟨hq,?_⟩;generalize (aC (aY n) (aY n):Rat)=M at *
 generalize (aY n:Rat)=X at *
 generalize (n:Rat)*au=x at *
 generalize ak=d at *
 have t:=aB (X*d-x) (X*d+x) (2*d) (7/2) hr.1 hr.2 (by grind) (by grind)
 have t2:=aB x x (156/100) (156/100) (by grind) x1 (by grind) x1
 refine ⟨aH _,by grind,by grind,by grind⟩
def Jq (n:Nat):Int:=eT 34 (aY n) (aC (aY n) (aY n)) 1
theorem AQ (n:Nat) (h:n<=5340000):-(220*ak)<=(Jq n:Rat)*ak-zs n/\(Jq n:Rat)*ak-zs n<=220*ak:=by
 have nz:=YU n (by omega)
 obtain ⟨hY,y0,y1,e1,e2⟩:=xG n h;have hl:=D8 34 (aY n) (aC (aY n) (aY n)) 1 _ (by omega) (by have:=vE n h;omega) hY y0 y1 e1 e2
 have hb:=Np 34 1 _ (by omega) y0 y1
 have hrr:=wO n h;unfold Jq;rw [Cz] at nz;have e34:((34:Nat):Rat)=34:=rfl;rw [e34] at hl;have hd:=bn;have c:=vw;generalize hr 34 1 ((n*au)*(n*au))=H at *
 generalize (eT 34 (aY n) (aC (aY n) (aY n)) 1:Rat)=M at *
 generalize (aY n:Rat)=X at *
 generalize (n:Rat)*au=x at *
 generalize ak=d at *
 have t1:=aB (X*d-x) H (2*d) 1 hrr.1 hrr.2 (by grind) (by grind)
 constructor<;>grind
def E9:Nat->Nat
 | 0=>2*QA
 | i+1=>E9 i*5/2/((4*i+2)*(4*i+3))*5/2/((4*i+4)*(4*i+5))
theorem LX:E9 17=0:=by simp only [E9];rw [dD]
theorem BM (T Y B D:Nat) (hY:2*Y<=5*QA) (hT:T<=B) (hD:0<D):aC T Y/D<=B*5/2/D:=by
 have h:=oM T Y hY;apply Nat.div_le_div_right;omega
theorem Pd (g:Nat):∀ (i f Y T P M:Nat),g+i=17->g+1<=f->2*Y<=5*QA->T<=E9 i->T<=2*QA->M<=P->P<=2*i*QA ->
 okS f Y T (4*i+2) P M=true/\((xk f Y T (4*i+2) P M:Nat):Int)=P-M+eT (2*g) T Y (4*i+1):=by
 induction g with
 | zero =>
  intro i f Y T P M hi hf hY hT hT2 hM hP;obtain rfl:i=17:=by omega
  rw [LX] at hT;obtain rfl:T=0:=by omega
  obtain ⟨f,rfl⟩:∃ f',f=f'+1:=⟨f-1,by omega⟩
  rw [qF];simp [okS,xk];omega
 | succ g ih =>
  intro i f Y T P M hi hf hY hT hT2 hM hP;obtain ⟨f,rfl⟩:∃ f',f=f'+1:=⟨f-1,by omega⟩
  by_cases z:T=0
  . subst z;rw [qF];simp [okS,xk];omega
  . have q:=dD;have d1:6<=(4*i+2)*(4*i+2+1):=by have:=Nat.mul_le_mul (show 2<=4*i+2 by omega) (show 3<=4*i+2+1 by omega);omega
    have d2:6<=(4*i+2+2)*(4*i+2+3):=by have:=Nat.mul_le_mul (show 2<=4*i+2+2 by omega) (show 3<=4*i+2+3 by omega);omega
    have t1:=vP T Y _ hY d1;have t2:=vP (aC T Y/((4*i+2)*(4*i+2+1))) Y _ hY d2;have b1:=BM T Y (E9 i) ((4*i+2)*(4*i+2+1)) hY hT (by omega)
    have b2:=BM (aC T Y/((4*i+2)*(4*i+2+1))) Y _ ((4*i+2+2)*(4*i+2+3)) hY b1 (by omega)
    have b3:E9 (i+1)=E9 i*5/2/((4*i+2)*(4*i+2+1))*5/2/((4*i+2+2)*(4*i+2+3)):=rfl;have m1:=oM T Y hY;have m2:=oM (aC T Y/((4*i+2)*(4*i+2+1))) Y hY
    have n1:T*Y<2^448:=by
     have k:=Nat.mul_le_mul hT2 hY;have e:5*(QA*QA)<2^448:=by rw [q];decide +kernel
     have f:2*QA*(5*QA)=10*(QA*QA):=by grind
     have f2:T*(2*Y)=2*(T*Y):=by grind
     rw [f,f2] at k;exact Nat.lt_of_le_of_lt (by omega) e
    have n2:aC T Y/((4*i+2)*(4*i+2+1))*Y<2^448:=Nat.lt_of_le_of_lt (Nat.mul_le_mul_right _ (by omega)) n1
    have hw:W=2^256:=by unfold W;rfl
    have s:eT (2*(g+1)) T Y (4*i+1)=T-(((aC T Y/((4*i+2)*(4*i+2+1)):Nat):Int)-eT (2*g) (aC (aC T Y/((4*i+2)*(4*i+2+1))) Y/((4*i+2+2)*(4*i+2+3))) Y (4*(i+1)+1)):=by
     rw [show 2*(g+1)=2*g+1+1 by omega]
     simp only [eT];rfl
    rw [s]
    have hPT:P+T<=2*(i+1)*QA:=by
     have e:2*(i+1)*QA=2*i*QA+2*QA:=by rw [Nat.mul_add,Nat.add_mul]
     omega
    have r:=ih (i+1) f Y (aC (aC T Y/((4*i+2)*(4*i+2+1))) Y/((4*i+2+2)*(4*i+2+3))) (P+T) (M+aC T Y/((4*i+2)*(4*i+2+1))) (by omega) (by omega) hY (by rw [b3];exact b2) (by omega) (by omega) hPT
    rw [show 4*(i+1)+2=4*i+2+4 by omega] at r
    have hP2:P<=34*QA:=Nat.le_trans hP (Nat.mul_le_mul_right _ (by omega))
    simp only [okS,xk,if_neg z,Bool.and_eq_true,decide_eq_true_eq];generalize aC (aC T Y/((4*i+2)*(4*i+2+1))) Y=V at *
    generalize aC T Y/((4*i+2)*(4*i+2+1))=U at *
    generalize aC T Y=V1 at *
    refine ⟨⟨⟨⟨⟨⟨⟨n1,by omega⟩,n2⟩,by omega⟩,by omega⟩,by omega⟩,r.1⟩,?_⟩
    rw [r.2];generalize eT _ _ _ _=S;omega
theorem pK (n:Nat) (h:n<=5340000):yc n=true/\((bL n:Nat):Int)=Jq n:=by
 have hY:=(xG n h).1;have hr:=vE n h;have q:=dD;have r:=Pd 17 0 60 (aC (aY n) (aY n)) (aY n) 0 0 (by omega) (by omega) hY (by show aY n<=2*QA;omega) (by omega) (by omega) (by omega)
 have e:((bL n:Nat):Int)=Jq n:=by
  have:=r.2;unfold bL Jq;rw [show 4*0+2=2 from rfl,show 4*0+1=1 from rfl,show 2*17=34 from rfl] at this
  omega
 refine ⟨?_,e⟩;unfold yc;simp only [Bool.and_eq_true,decide_eq_true_eq];have hw:W=2^256:=by unfold W;rfl
 have pa:PiA<4*QA:=by unfold PiA QA;decide +kernel
 have n1:n*PiA<W:=by
  have:=Nat.mul_le_mul h (Nat.le_of_lt pa);omega
 have n2:aY n*aY n<2^448:=by
  have a:aY n<=2*QA:=by omega
  have:=Nat.mul_le_mul a a;have e:2*QA*(2*QA)<2^448:=by rw [q];decide +kernel
  omega
 exact ⟨⟨⟨n1,n2⟩,by omega⟩,r.1⟩
