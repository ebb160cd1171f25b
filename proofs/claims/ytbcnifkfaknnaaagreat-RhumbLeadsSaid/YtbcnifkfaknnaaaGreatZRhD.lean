/- Plain numbers: halves, the logarithm; nothing overflows up to 89 degrees. -/
import Derived.Test.YtbcnifkfaknnaaaGreatZRhA
set_option linter.unusedVariables false
set_option linter.unusedSimpArgs false
namespace Alm
theorem KN (f:Nat):∀ U,U<(QA+QA/2)*2^f->okH f U=true/\jE f U<QA+QA/2/\jE f U=U/2^(eG f U)/\(eG f U=0∨(QA+QA/2)/2<=jE f U):=by
 induction f with
 | zero =>
  intro U h;rw [Nat.pow_zero,Nat.mul_one] at h;simp [okH,jE,eG,h]
 | succ f ih =>
  intro U h
  by_cases c:U<QA+QA/2
  . simp [okH,jE,eG,c]
  . have h2:U/2<(QA+QA/2)*2^f:=by
     rw [Nat.pow_succ,<-Nat.mul_assoc] at h;omega
    obtain ⟨i1,i2,i3,i4⟩:=ih (U/2) h2;simp only [okH,jE,eG,if_neg c];refine ⟨i1,i2,?_,.inr ?_⟩
    . rw [i3,Nat.div_div_eq_div_mul,Nat.pow_succ,Nat.mul_comm]
    . rcases i4 with k|k
      . rw [k,Nat.pow_zero,Nat.div_one] at i3;rw [i3];omega
      . exact k
def uN (n:Nat):Nat:=bD (QA+bL n) (QA-bL n)
def kN (n:Nat):Nat:=eG 200 (uN n)
def vN (n:Nat):Nat:=jE 200 (uN n)
def zN (n:Nat):Nat:=if vN n<QA then bD (QA-vN n) (vN n+QA) else bD (vN n-QA) (vN n+QA)
def gN (n:Nat):Nat:=if vN n<QA then bI (QA/3)*kN n-bI (zN n) else bI (QA/3)*kN n+bI (zN n)
theorem FE (n:Nat) (h:n<=5340000):200000*bL n<=199999*QA:=by
 have e:=(pK n h).2;have z:=AQ n h;have b:=(sc_bd n h).2.2.2.1;rw [<-e,Rat.intCast_natCast] at z;have hd:=bn;have hq:=zF;have hs:220*ak<=1/1000000:=by unfold ak;decide +kernel
 have t:((200000*bL n:Nat):Rat)<=((199999*QA:Nat):Rat):=by
  rw [Rat.natCast_mul,Rat.natCast_mul];have e1:((200000:Nat):Rat)=200000:=rfl;have e2:((199999:Nat):Rat)=199999:=rfl;rw [e1,e2];apply Rat.le_of_mul_le_mul_right (c:=ak) _ hd;generalize (bL n:Rat)=S at *
  generalize zs n=s at *
  generalize (QA:Rat)=Q at *
  generalize ak=d at *
  grind
 exact_mod_cast t
theorem Ky (n:Nat) (h:n<=5340000):QA<=uN n/\uN n<=400000*QA/\bL n<QA:=by
 have s:=FE n h;have q:=dD;have pos:0<QA-bL n:=by omega
 unfold uN bD;refine ⟨?_,?_,by omega⟩
 . rw [Nat.le_div_iff_mul_le pos];have:=Nat.mul_le_mul_left QA (show QA-bL n<=QA+bL n by omega)
   grind
 . apply Nat.div_le_of_le_mul;have a:QA+bL n<=400000*(QA-bL n):=by omega
   have b:=Nat.mul_le_mul_right QA a;grind
theorem QZ (n:Nat) (h:n<=5340000):okH 200 (uN n)=true/\vN n<QA+QA/2/\vN n=uN n/2^(kN n)/\(kN n=0∨(QA+QA/2)/2<=vN n)/\(kN n=0->QA<=vN n)/\kN n<=19:=by
 have u:=Ky n h;have q:=dD;have big:(2:Nat)^20<=2^200:=by decide +kernel
 have r:=KN 200 (uN n) (by
  have:=Nat.mul_le_mul (show QA<=QA+QA/2 by omega) big
  rw [show (2:Nat)^20=1048576 from rfl] at this
  omega)
 refine ⟨r.1,r.2.1,r.2.2.1,r.2.2.2,?_,?_⟩
 . intro k;have:=r.2.2.1;rw [show eG 200 (uN n)=0 from k,Nat.pow_zero,Nat.div_one] at this
   show QA<=jE 200 (uN n);omega
 . rcases Nat.lt_or_ge 19 (kN n) with g|g
   . exfalso;have p:2^20<=2^(kN n):=Nat.pow_le_pow_right (by omega) g
     have d:=Nat.div_mul_le_self (uN n) (2^(kN n));have e:vN n=uN n/2^(kN n):=r.2.2.1;rw [<-e] at d
     have v:(QA+QA/2)/2<=vN n:=by
      rcases r.2.2.2 with x|x
      . have:kN n=0:=x;omega
      . exact x
     have m:=Nat.mul_le_mul v p;rw [show (2:Nat)^20=1048576 from rfl] at m
     omega
   . exact g
theorem VS (n:Nat) (h:n<=5340000):5*zN n<=2*QA/\(vN n<QA->7*zN n<=QA):=by
 have v:=QZ n h;have q:=dD
 have lo:(QA+QA/2)/2<=vN n:=by
  rcases v.2.2.2.1 with x|x
  . have:=v.2.2.2.2.1 x;omega
  . exact x
 unfold zN bD
 by_cases c:vN n<QA
 . rw [if_pos c];have b2:7*(QA-vN n)<=vN n+QA:=by rw [q] at lo c ⊢;omega
   have a:7*((QA-vN n)*QA)<=(vN n+QA)*QA:=by
    have:=Nat.mul_le_mul_right QA b2;grind
   have d:=Nat.div_mul_le_self ((QA-vN n)*QA) (vN n+QA);generalize (QA-vN n)*QA/(vN n+QA)=z at *
   generalize (QA-vN n)*QA=X at *
   have k:7*z<=QA:=by
    apply Nat.le_of_mul_le_mul_right (c:=vN n+QA) _ (by omega)
    generalize vN n+QA=Y at *
    have e1:7*z*Y=7*(z*Y):=by grind
    have e2:Y*QA=QA*Y:=Nat.mul_comm _ _;omega
   exact ⟨by omega,fun _=>k⟩
 . rw [if_neg c];refine ⟨?_,fun x=>absurd x c⟩
   have a:5*((vN n-QA)*QA)<=(vN n+QA)*QA:=by
    have:=Nat.mul_le_mul_right QA (show 5*(vN n-QA)<=vN n+QA by omega)
    grind
   have d:=Nat.div_mul_le_self ((vN n-QA)*QA) (vN n+QA);generalize (vN n-QA)*QA/(vN n+QA)=z at *
   generalize (vN n-QA)*QA=X at *
   apply Nat.le_of_mul_le_mul_right (c:=vN n+QA) _ (by omega)
   generalize vN n+QA=Y at *
   have e1:5*z*Y=5*(z*Y):=by grind
   have e2:2*QA*Y=2*(Y*QA):=by grind
   have e3:0<=Y*QA:=Nat.zero_le _;omega
theorem Pw (m Y T:Nat):T<=kP (m+1) Y T 1:=by simp only [kP,Nat.div_one];omega
theorem Ng (z:Nat) (hz:5*z<=2*QA):z<=bI z/\bI z<=2*z/\lU z=true:=by
 have q:=dD;have hm:aC z z*QA<=z*z:=by unfold aC;exact Nat.div_mul_le_self _ _
 have hY:4*aC z z<=QA:=by
  have h2:=Nat.mul_le_mul hz hz;generalize aC z z=M at *
  have q0:0<QA:=by omega
  generalize QA=Q at *
  apply Nat.le_of_mul_le_mul_right (c:=25*Q) _ (by omega)
  have f1:5*z*(5*z)=25*(z*z):=by grind
  have f2:2*Q*(2*Q)=4*(Q*Q):=by grind
  have f3:4*M*(25*Q)=100*(M*Q):=by grind
  have f4:Q*(25*Q)=25*(Q*Q):=by grind
  omega
 have r:=Ic 96 200 (aC z z) z 1 0 (by omega) hY (by rw [show (4:Nat)^96=QA by rw [q]];omega) (by omega) (by omega)
 have va:bI z=kP 96 (aC z z) z 1:=by unfold bI;rw [r.2];omega
 have a:=Pw 95 (aC z z) z;have b:=F6 96 (aC z z) z 1 hY;exact ⟨by rw [va];exact a,by rw [va];exact b,(Dm z hz).1⟩
theorem lY (n:Nat) (h:n<=5340000):okW n=true/\nD n/2=gN n/\wpN n=gN n*10800000/PiA/\gN n<=30*QA/\(vN n<QA->bI (zN n)<=bI (QA/3)*kN n):=by
 have q:=dD;have hw:W=2^256:=by unfold W;rfl
 have p1:3*QA<=PiA/\PiA<4*QA:=by unfold PiA QA;decide +kernel
 have u:=Ky n h;have v:=QZ n h;have z:=VS n h;have az:=Ng (zN n) z.1;have a3:=Ng (QA/3) (by omega)
 have k19:bI (QA/3)*kN n<=19*QA:=by
  have:=Nat.mul_le_mul (show bI (QA/3)<=QA by omega) v.2.2.2.2.2
  omega
 have less:vN n<QA->bI (zN n)<=bI (QA/3)*kN n:=by
  intro c
  have k1:1<=kN n:=by
   rcases Nat.eq_zero_or_pos (kN n) with x|x
   . have:=v.2.2.2.2.1 x;omega
   . exact x
  have z7:=z.2 c;have:=Nat.mul_le_mul_left (bI (QA/3)) k1;omega
 have lg:nD n=PO (vN n) (kN n):=rfl
 have lg2:nD n=2*gN n:=by
  rw [lg];unfold PO gN;have e:bI (QA/3)*(2*kN n)=2*(bI (QA/3)*kN n):=by rw [Nat.mul_left_comm]
  by_cases c:vN n<QA
  . rw [if_pos c,if_pos c,e];have ez:bD (QA-vN n) (vN n+QA)=zN n:=by unfold zN;rw [if_pos c]
    rw [ez];have:=less c;omega
  . rw [if_neg c,if_neg c,e];have ez:bD (vN n-QA) (vN n+QA)=zN n:=by unfold zN;rw [if_neg c]
    rw [ez];omega
 have g30:gN n<=30*QA:=by unfold gN;split<;>omega
 have hf:nD n/2=gN n:=by omega
 have wp:wpN n=gN n*10800000/PiA:=by
  unfold wpN bD;rw [hf,Nat.div_div_eq_div_mul,Nat.mul_comm PiA QA,Nat.mul_comm (gN n*10800000) QA,Nat.mul_div_mul_left _ _ (by omega)]
 have wb:wpN n<2^63:=by
  rw [wp];apply Nat.div_lt_of_lt_mul;have:=Nat.mul_le_mul_right (2^63) p1.1;omega
 refine ⟨?_,hf,wp,g30,less⟩
 have rb:bD (gN n*10800000) PiA<W:=by
  unfold bD;apply Nat.div_lt_of_lt_mul;have a:gN n*10800000*QA<=324000000*QA*QA:=Nat.mul_le_mul_right _ (by omega)
  have b:324000000*QA*QA<3*QA*W:=by
   rw [hw,q];decide +kernel
  have c:=Nat.mul_le_mul_right W p1.1;omega
 have s:=FE n h;have zb:zN n<W:=by omega
 unfold okW;simp only [Bool.and_eq_true,decide_eq_true_eq];refine ⟨⟨⟨⟨⟨⟨⟨⟨(pK n h).1,u.2.2⟩,?_⟩,v.1⟩,?_⟩,by omega⟩,by omega⟩,?_⟩,wb⟩
 . unfold okQ;simp only [Bool.and_eq_true,decide_eq_true_eq];have u2:bD (QA+bL n) (QA-bL n)<=400000*QA:=u.2.1;exact ⟨⟨⟨by omega,by omega⟩,by omega⟩,by omega⟩
 . show okL (vN n) (kN n)=true;unfold okL;simp only [Bool.and_eq_true,decide_eq_true_eq];have e:bI (QA/3)*(2*kN n)=2*(bI (QA/3)*kN n):=by rw [Nat.mul_left_comm]
   refine ⟨⟨⟨⟨a3.2.2,by omega⟩,by omega⟩,by omega⟩,?_⟩
   by_cases c:vN n<QA
   . rw [if_pos c];have ez:bD (QA-vN n) (vN n+QA)=zN n:=by unfold zN;rw [if_pos c]
     have l:=less c;simp only [Bool.and_eq_true,decide_eq_true_eq,okQ,ez];refine ⟨⟨⟨⟨⟨by omega,by omega⟩,by omega⟩,zb⟩,az.2.2⟩,by omega⟩
   . rw [if_neg c];have ez:bD (vN n-QA) (vN n+QA)=zN n:=by unfold zN;rw [if_neg c]
     simp only [Bool.and_eq_true,decide_eq_true_eq,okQ,ez];refine ⟨⟨⟨⟨⟨by omega,by omega⟩,by omega⟩,zb⟩,az.2.2⟩,by omega⟩
 . unfold okQ;simp only [Bool.and_eq_true,decide_eq_true_eq];rw [hf];exact ⟨⟨⟨by omega,by omega⟩,by omega⟩,rb⟩
