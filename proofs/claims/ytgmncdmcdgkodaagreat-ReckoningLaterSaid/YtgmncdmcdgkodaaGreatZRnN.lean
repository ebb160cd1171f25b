/- Plain numbers: package rhumb's quotient bit by bit, its series, and the meridional parts that it reckons. -/
import Derived.Test.YtgmncdmcdgkodaaGreatZArcLo
set_option linter.unusedVariables false
set_option linter.unusedSimpArgs false
namespace Alm
def aO (X Y:Nat):Nat:=X*QA/Y
theorem Az (P Y b:Nat) (hY:0<Y) (hb:b<=1):if 2*(P%Y)+b<Y then (2*P+b)/Y=2*(P/Y)/\(2*P+b)%Y=2*(P%Y)+b else (2*P+b)/Y=2*(P/Y)+1/\(2*P+b)%Y=2*(P%Y)+b-Y:=by
 have h:=Nat.div_add_mod P Y;have hr:=Nat.mod_lt P hY;generalize P/Y=q at *
 generalize P%Y=r at *
 have e1:Y*(2*q)=2*(Y*q):=by grind
 have e2:Y*(2*q+1)=2*(Y*q)+Y:=by grind
 split
 . rename_i h1
   exact (Nat.div_mod_unique hY).2 ⟨by omega,h1⟩
 . rename_i h1
   exact (Nat.div_mod_unique hY).2 ⟨by omega,by omega⟩
def dX (X i:Nat):Nat:=X*QA/2^i
theorem yS (X i:Nat):dX X i=2*dX X (i+1)+dX X i%2:=by
 unfold dX;rw [Nat.pow_succ,<-Nat.div_div_eq_div_mul];omega
theorem BA (X i:Nat) (h:i<192):dX X i%2=0:=by
 unfold dX
 have e:QA=2^(191-i)*2*2^i:=by
  rw [<-Nat.pow_succ,<-Nat.pow_add,show 191-i+1+i=192 by omega];unfold QA;rfl
 rw [e,<-Nat.mul_assoc,Nat.mul_div_cancel _ (Nat.two_pow_pos i),<-Nat.mul_assoc];omega
theorem qo (X i:Nat) (h:192<=i):dX X i=X/2^(i-192):=by
 unfold dX;have e:2^i=QA*2^(i-192):=by unfold QA;rw [<-Nat.pow_add,Nat.add_sub_cancel' h]
 rw [e,<-Nat.div_div_eq_div_mul,Nat.mul_div_cancel _ (by rw [xm];omega)]
theorem Cj (X:Nat) (h:X<W):dX X 448=0:=by
 have e:(2:Nat)^(448-192)=W:=by unfold W;decide +kernel
 rw [qo X 448 (by omega),e]
 exact Nat.div_eq_of_lt h
theorem zo (X:Nat):dX X 0=X*QA:=by unfold dX;simp
theorem C8 (X i:Nat):dX X i<=X*QA:=Nat.div_le_self _ _
theorem Gz (X j s:Nat) (hj:j<=3) (hs:s<64):X/2^(64*(3-(3-j)))%2^64/2^s%2=X/2^(64*j+s)%2:=by
 rw [show 3-(3-j)=j by omega,Nat.pow_add,<-Nat.div_div_eq_div_mul]
 generalize X/2^(64*j)=A
 have h1:A%2^64/2^s%2=(A/2^s)%2:=by
  have e:(2:Nat)^64=2^s*2^(64-s):=by rw [<-Nat.pow_add];congr 1;omega
  rw [e,Nat.mod_mul_right_div_self];have e2:(2:Nat)^(64-s)=2*2^(63-s):=by rw [<-Nat.pow_succ'];congr 1;omega
  rw [e2,Nat.mod_mul_right_mod]
 exact h1
def yV:Nat->Nat->Nat->Nat->Nat->Nat->Nat
 | 0,_,_,_,P,M=>P-M
 | f+1,Y,T,k,P,M=>if T=0 then P-M else yV f Y (bu (bu T Y/(k*(k+1))) Y/((k+2)*(k+3))) (k+4) (P+T) (M+bu T Y/(k*(k+1)))
def okS:Nat->Nat->Nat->Nat->Nat->Nat->Bool
 | 0,_,T,_,P,M=>T==0&&decide (M<=P)
 | f+1,Y,T,k,P,M=>if T=0 then decide (M<=P) else decide (T*Y<2^448)&&decide (bu T Y<W)&&decide (bu T Y/(k*(k+1))*Y<2^448)&&decide (bu (bu T Y/(k*(k+1))) Y<W)&&decide (P+T<W)&&decide (M+bu T Y/(k*(k+1))<W)&&okS f Y (bu (bu T Y/(k*(k+1))) Y/((k+2)*(k+3))) (k+4) (P+T) (M+bu T Y/(k*(k+1)))
def Bh:Nat->Nat->Nat->Nat->Nat->Nat
 | 0,_,_,_,S=>S
 | f+1,Y,T,k,S=>if T=0 then S else Bh f Y (bu T Y) (k+2) (S+T/k)
def okA:Nat->Nat->Nat->Nat->Nat->Bool
 | 0,_,T,_,_=>T==0
 | f+1,Y,T,k,S=>if T=0 then true else decide (S+T/k<W)&&decide (T*Y<2^448)&&decide (bu T Y<W)&&okA f Y (bu T Y) (k+2) (S+T/k)
def bv (z:Nat):Nat:=Bh 200 (bu z z) z 1 0
def lM (z:Nat):Bool:=decide (z<W)&&decide (z*z<2^448)&&decide (bu z z<W)&&okA 200 (bu z z) z 1 0
def mF:Nat->Nat->Nat
 | 0,u=>u
 | f+1,u=>if u<QA+QA/2 then u else mF f (u/2)
def mE:Nat->Nat->Nat
 | 0,_=>0
 | f+1,u=>if u<QA+QA/2 then 0 else mE f (u/2)+1
def okH:Nat->Nat->Bool
 | 0,u=>decide (u<QA+QA/2)
 | f+1,u=>if u<QA+QA/2 then true else okH f (u/2)
def bY (n:Nat):Nat:=yV 60 (bu (cO n) (cO n)) (cO n) 2 0 0
def yg (n:Nat):Bool:=decide (n*PiA<W)&&decide (cO n*cO n<2^448)&&decide (bu (cO n) (cO n)<W)&&okS 60 (bu (cO n) (cO n)) (cO n) 2 0 0
def okQ (X Y:Nat):Bool:=decide (X<W)&&decide (0<Y)&&decide (2*Y<=W)&&decide (aO X Y<W)
def Io (u k:Nat):Nat:=if u<QA then bv (QA/3)*(2*k)-(bv (aO (QA-u) (u+QA))+bv (aO (QA-u) (u+QA))) else bv (QA/3)*(2*k)+(bv (aO (u-QA) (u+QA))+bv (aO (u-QA) (u+QA)))
def okL (u k:Nat):Bool:=lM (QA/3)&&decide (bv (QA/3)<W)&&decide (bv (QA/3)*(2*k)<W)&&decide (u+QA<W) &&
 (if u<QA then okQ (QA-u) (u+QA)&&lM (aO (QA-u) (u+QA))&&decide (bv (aO (QA-u) (u+QA))+bv (aO (QA-u) (u+QA))<=bv (QA/3)*(2*k))
  else okQ (u-QA) (u+QA)&&lM (aO (u-QA) (u+QA))&&decide (bv (QA/3)*(2*k)+(bv (aO (u-QA) (u+QA))+bv (aO (u-QA) (u+QA)))<W))
def oJ (n:Nat):Nat:=Io (mF 200 (aO (QA+bY n) (QA-bY n))) (mE 200 (aO (QA+bY n) (QA-bY n)))
def wpN (n:Nat):Nat:=aO (oJ n/2*10800000) PiA/QA
def okW (n:Nat):Bool:=yg n&&decide (bY n<QA)&&okQ (QA+bY n) (QA-bY n)&&okH 200 (aO (QA+bY n) (QA-bY n)) &&
 okL (mF 200 (aO (QA+bY n) (QA-bY n))) (mE 200 (aO (QA+bY n) (QA-bY n)))&&decide (oJ n<W)&&decide (oJ n/2*10800000<W)&&okQ (oJ n/2*10800000) PiA&&decide (wpN n<2^63)
