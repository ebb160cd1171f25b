/- Plain numbers: package rhumb's quotient bit by bit, its series, and the meridional parts that it reckons. -/
import Derived.Test.YtcfpmdndgbpfpaaZArcLo
set_option linter.unusedVariables false
set_option linter.unusedSimpArgs false
namespace Alm
def aG (X Y:Nat):Nat:=X*QA/Y
theorem CY (P Y b:Nat) (hY:0<Y) (hb:b<=1):if 2*(P%Y)+b<Y then (2*P+b)/Y=2*(P/Y)/\(2*P+b)%Y=2*(P%Y)+b else (2*P+b)/Y=2*(P/Y)+1/\(2*P+b)%Y=2*(P%Y)+b-Y:=by
 have h:=Nat.div_add_mod P Y;have hr:=Nat.mod_lt P hY;generalize P/Y=q at *
 generalize P%Y=r at *
 have e1:Y*(2*q)=2*(Y*q):=by grind
 have e2:Y*(2*q+1)=2*(Y*q)+Y:=by grind
 split
 . rename_i h1
   exact (Nat.div_mod_unique hY).2 ⟨by omega,h1⟩
 . rename_i h1
   exact (Nat.div_mod_unique hY).2 ⟨by omega,by omega⟩
def dJ (X i:Nat):Nat:=X*QA/2^i
theorem yM (X i:Nat):dJ X i=2*dJ X (i+1)+dJ X i%2:=by
 unfold dJ;rw [Nat.pow_succ,<-Nat.div_div_eq_div_mul];omega
theorem BH (X i:Nat) (h:i<192):dJ X i%2=0:=by
 unfold dJ
 have e:QA=2^(191-i)*2*2^i:=by
  rw [<-Nat.pow_succ,<-Nat.pow_add,show 191-i+1+i=192 by omega];unfold QA;rfl
 rw [e,<-Nat.mul_assoc,Nat.mul_div_cancel _ (Nat.two_pow_pos i),<-Nat.mul_assoc];omega
theorem oH (X i:Nat) (h:192<=i):dJ X i=X/2^(i-192):=by
 unfold dJ;have e:2^i=QA*2^(i-192):=by unfold QA;rw [<-Nat.pow_add,Nat.add_sub_cancel' h]
 rw [e,<-Nat.div_div_eq_div_mul,Nat.mul_div_cancel _ (by rw [bA];omega)]
theorem C9 (X:Nat) (h:X<W):dJ X 448=0:=by
 have e:(2:Nat)^(448-192)=W:=by unfold W;decide +kernel
 rw [oH X 448 (by omega),e]
 exact Nat.div_eq_of_lt h
theorem Aa (X:Nat):dJ X 0=X*QA:=by unfold dJ;simp
theorem ES (X i:Nat):dJ X i<=X*QA:=Nat.div_le_self _ _
theorem Gh (X j s:Nat) (hj:j<=3) (hs:s<64):X/2^(64*(3-(3-j)))%2^64/2^s%2=X/2^(64*j+s)%2:=by
 rw [show 3-(3-j)=j by omega,Nat.pow_add,<-Nat.div_div_eq_div_mul]
 generalize X/2^(64*j)=A
 have h1:A%2^64/2^s%2=(A/2^s)%2:=by
  have e:(2:Nat)^64=2^s*2^(64-s):=by rw [<-Nat.pow_add];congr 1;omega
  rw [e,Nat.mod_mul_right_div_self];have e2:(2:Nat)^(64-s)=2*2^(63-s):=by rw [<-Nat.pow_succ'];congr 1;omega
  rw [e2,Nat.mod_mul_right_mod]
 exact h1
def om:Nat->Nat->Nat->Nat->Nat->Nat->Nat
 | 0,_,_,_,P,M=>P-M
 | f+1,Y,T,k,P,M=>if T=0 then P-M else om f Y (ah (ah T Y/(k*(k+1))) Y/((k+2)*(k+3))) (k+4) (P+T) (M+ah T Y/(k*(k+1)))
def okS:Nat->Nat->Nat->Nat->Nat->Nat->Bool
 | 0,_,T,_,P,M=>T==0&&decide (M<=P)
 | f+1,Y,T,k,P,M=>if T=0 then decide (M<=P) else decide (T*Y<2^448)&&decide (ah T Y<W)&&decide (ah T Y/(k*(k+1))*Y<2^448)&&decide (ah (ah T Y/(k*(k+1))) Y<W)&&decide (P+T<W)&&decide (M+ah T Y/(k*(k+1))<W)&&okS f Y (ah (ah T Y/(k*(k+1))) Y/((k+2)*(k+3))) (k+4) (P+T) (M+ah T Y/(k*(k+1)))
def qD:Nat->Nat->Nat->Nat->Nat->Nat
 | 0,_,_,_,S=>S
 | f+1,Y,T,k,S=>if T=0 then S else qD f Y (ah T Y) (k+2) (S+T/k)
def okA:Nat->Nat->Nat->Nat->Nat->Bool
 | 0,_,T,_,_=>T==0
 | f+1,Y,T,k,S=>if T=0 then true else decide (S+T/k<W)&&decide (T*Y<2^448)&&decide (ah T Y<W)&&okA f Y (ah T Y) (k+2) (S+T/k)
def aI (z:Nat):Nat:=qD 200 (ah z z) z 1 0
def gX (z:Nat):Bool:=decide (z<W)&&decide (z*z<2^448)&&decide (ah z z<W)&&okA 200 (ah z z) z 1 0
def fw:Nat->Nat->Nat
 | 0,u=>u
 | f+1,u=>if u<QA+QA/2 then u else fw f (u/2)
def bQ:Nat->Nat->Nat
 | 0,_=>0
 | f+1,u=>if u<QA+QA/2 then 0 else bQ f (u/2)+1
def okH:Nat->Nat->Bool
 | 0,u=>decide (u<QA+QA/2)
 | f+1,u=>if u<QA+QA/2 then true else okH f (u/2)
def aO (n:Nat):Nat:=om 60 (ah (aB n) (aB n)) (aB n) 2 0 0
def oG (n:Nat):Bool:=decide (n*PiA<W)&&decide (aB n*aB n<2^448)&&decide (ah (aB n) (aB n)<W)&&okS 60 (ah (aB n) (aB n)) (aB n) 2 0 0
def okQ (X Y:Nat):Bool:=decide (X<W)&&decide (0<Y)&&decide (2*Y<=W)&&decide (aG X Y<W)
def Ed (u k:Nat):Nat:=if u<QA then aI (QA/3)*(2*k)-(aI (aG (QA-u) (u+QA))+aI (aG (QA-u) (u+QA))) else aI (QA/3)*(2*k)+(aI (aG (u-QA) (u+QA))+aI (aG (u-QA) (u+QA)))
def okL (u k:Nat):Bool:=gX (QA/3)&&decide (aI (QA/3)<W)&&decide (aI (QA/3)*(2*k)<W)&&decide (u+QA<W) &&
 (if u<QA then okQ (QA-u) (u+QA)&&gX (aG (QA-u) (u+QA))&&decide (aI (aG (QA-u) (u+QA))+aI (aG (QA-u) (u+QA))<=aI (QA/3)*(2*k))
  else okQ (u-QA) (u+QA)&&gX (aG (u-QA) (u+QA))&&decide (aI (QA/3)*(2*k)+(aI (aG (u-QA) (u+QA))+aI (aG (u-QA) (u+QA)))<W))
def iR (n:Nat):Nat:=Ed (fw 200 (aG (QA+aO n) (QA-aO n))) (bQ 200 (aG (QA+aO n) (QA-aO n)))
def wpN (n:Nat):Nat:=aG (iR n/2*10800000) PiA/QA
def okW (n:Nat):Bool:=oG n&&decide (aO n<QA)&&okQ (QA+aO n) (QA-aO n)&&okH 200 (aG (QA+aO n) (QA-aO n)) &&
 okL (fw 200 (aG (QA+aO n) (QA-aO n))) (bQ 200 (aG (QA+aO n) (QA-aO n)))&&decide (iR n<W)&&decide (iR n/2*10800000<W)&&okQ (iR n/2*10800000) PiA&&decide (wpN n<2^63)
theorem Io:wpN 0=0:=by decide +kernel
