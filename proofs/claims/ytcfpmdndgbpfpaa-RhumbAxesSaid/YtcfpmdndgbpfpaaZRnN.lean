/- Plain numbers: package rhumb's quotient bit by bit, its series, and the meridional parts that it reckons. -/
import Derived.Test.YtcfpmdndgbpfpaaZArcLo
set_option linter.unusedVariables false
set_option linter.unusedSimpArgs false
namespace Alm
def aT (X Y:Nat):Nat:=X*QA/Y
theorem Jz (P Y b:Nat) (hY:0<Y) (hb:b<=1):if 2*(P%Y)+b<Y then (2*P+b)/Y=2*(P/Y)/\(2*P+b)%Y=2*(P%Y)+b else (2*P+b)/Y=2*(P/Y)+1/\(2*P+b)%Y=2*(P%Y)+b-Y:=by
 have h:=Nat.div_add_mod P Y;have hr:=Nat.mod_lt P hY;generalize P/Y=q at *
 generalize P%Y=r at *
 have e1:Y*(2*q)=2*(Y*q):=by grind
 have e2:Y*(2*q+1)=2*(Y*q)+Y:=by grind
 split
 . rename_i h1
   exact (Nat.div_mod_unique hY).2 ⟨by omega,h1⟩
 . rename_i h1
   exact (Nat.div_mod_unique hY).2 ⟨by omega,by omega⟩
def fu (X i:Nat):Nat:=X*QA/2^i
theorem FD (X i:Nat):fu X i=2*fu X (i+1)+fu X i%2:=by
 unfold fu;rw [Nat.pow_succ,<-Nat.div_div_eq_div_mul];omega
theorem H6 (X i:Nat) (h:i<192):fu X i%2=0:=by
 unfold fu
 have e:QA=2^(191-i)*2*2^i:=by
  rw [<-Nat.pow_succ,<-Nat.pow_add,show 191-i+1+i=192 by omega];unfold QA;rfl
 rw [e,<-Nat.mul_assoc,Nat.mul_div_cancel _ (Nat.two_pow_pos i),<-Nat.mul_assoc];omega
theorem uQ (X i:Nat) (h:192<=i):fu X i=X/2^(i-192):=by
 unfold fu;have e:2^i=QA*2^(i-192):=by unfold QA;rw [<-Nat.pow_add,Nat.add_sub_cancel' h]
 rw [e,<-Nat.div_div_eq_div_mul,Nat.mul_div_cancel _ (by rw [bL];omega)]
theorem JI (X:Nat) (h:X<W):fu X 448=0:=by
 have e:(2:Nat)^(448-192)=W:=by unfold W;decide +kernel
 rw [uQ X 448 (by omega),e]
 exact Nat.div_eq_of_lt h
theorem Ev (X:Nat):fu X 0=X*QA:=by unfold fu;simp
theorem Ky (X i:Nat):fu X i<=X*QA:=Nat.div_le_self _ _
theorem ND (X j s:Nat) (hj:j<=3) (hs:s<64):X/2^(64*(3-(3-j)))%2^64/2^s%2=X/2^(64*j+s)%2:=by
 rw [show 3-(3-j)=j by omega,Nat.pow_add,<-Nat.div_div_eq_div_mul]
 generalize X/2^(64*j)=A
 have h1:A%2^64/2^s%2=(A/2^s)%2:=by
  have e:(2:Nat)^64=2^s*2^(64-s):=by rw [<-Nat.pow_add];congr 1;omega
  rw [e,Nat.mod_mul_right_div_self];have e2:(2:Nat)^(64-s)=2*2^(63-s):=by rw [<-Nat.pow_succ'];congr 1;omega
  rw [e2,Nat.mod_mul_right_mod]
 exact h1
def sU:Nat->Nat->Nat->Nat->Nat->Nat->Nat
 | 0,_,_,_,P,M=>P-M
 | f+1,Y,T,k,P,M=>if T=0 then P-M else sU f Y (au (au T Y/(k*(k+1))) Y/((k+2)*(k+3))) (k+4) (P+T) (M+au T Y/(k*(k+1)))
def okS:Nat->Nat->Nat->Nat->Nat->Nat->Bool
 | 0,_,T,_,P,M=>T==0&&decide (M<=P)
 | f+1,Y,T,k,P,M=>if T=0 then decide (M<=P) else decide (T*Y<2^448)&&decide (au T Y<W)&&decide (au T Y/(k*(k+1))*Y<2^448)&&decide (au (au T Y/(k*(k+1))) Y<W)&&decide (P+T<W)&&decide (M+au T Y/(k*(k+1))<W)&&okS f Y (au (au T Y/(k*(k+1))) Y/((k+2)*(k+3))) (k+4) (P+T) (M+au T Y/(k*(k+1)))
def vM:Nat->Nat->Nat->Nat->Nat->Nat
 | 0,_,_,_,S=>S
 | f+1,Y,T,k,S=>if T=0 then S else vM f Y (au T Y) (k+2) (S+T/k)
def okA:Nat->Nat->Nat->Nat->Nat->Bool
 | 0,_,T,_,_=>T==0
 | f+1,Y,T,k,S=>if T=0 then true else decide (S+T/k<W)&&decide (T*Y<2^448)&&decide (au T Y<W)&&okA f Y (au T Y) (k+2) (S+T/k)
def aW (z:Nat):Nat:=vM 200 (au z z) z 1 0
def jC (z:Nat):Bool:=decide (z<W)&&decide (z*z<2^448)&&decide (au z z<W)&&okA 200 (au z z) z 1 0
def gZ:Nat->Nat->Nat
 | 0,u=>u
 | f+1,u=>if u<QA+QA/2 then u else gZ f (u/2)
def dm:Nat->Nat->Nat
 | 0,_=>0
 | f+1,u=>if u<QA+QA/2 then 0 else dm f (u/2)+1
def okH:Nat->Nat->Bool
 | 0,u=>decide (u<QA+QA/2)
 | f+1,u=>if u<QA+QA/2 then true else okH f (u/2)
def aZ (n:Nat):Nat:=sU 60 (au (aI n) (aI n)) (aI n) 2 0 0
def uI (n:Nat):Bool:=decide (n*PiA<W)&&decide (aI n*aI n<2^448)&&decide (au (aI n) (aI n)<W)&&okS 60 (au (aI n) (aI n)) (aI n) 2 0 0
def okQ (X Y:Nat):Bool:=decide (X<W)&&decide (0<Y)&&decide (2*Y<=W)&&decide (aT X Y<W)
def LC (u k:Nat):Nat:=if u<QA then aW (QA/3)*(2*k)-(aW (aT (QA-u) (u+QA))+aW (aT (QA-u) (u+QA))) else aW (QA/3)*(2*k)+(aW (aT (u-QA) (u+QA))+aW (aT (u-QA) (u+QA)))
def okL (u k:Nat):Bool:=jC (QA/3)&&decide (aW (QA/3)<W)&&decide (aW (QA/3)*(2*k)<W)&&decide (u+QA<W) &&
 (if u<QA then okQ (QA-u) (u+QA)&&jC (aT (QA-u) (u+QA))&&decide (aW (aT (QA-u) (u+QA))+aW (aT (QA-u) (u+QA))<=aW (QA/3)*(2*k))
  else okQ (u-QA) (u+QA)&&jC (aT (u-QA) (u+QA))&&decide (aW (QA/3)*(2*k)+(aW (aT (u-QA) (u+QA))+aW (aT (u-QA) (u+QA)))<W))
def kF (n:Nat):Nat:=LC (gZ 200 (aT (QA+aZ n) (QA-aZ n))) (dm 200 (aT (QA+aZ n) (QA-aZ n)))
def wpN (n:Nat):Nat:=aT (kF n/2*10800000) PiA/QA
def okW (n:Nat):Bool:=uI n&&decide (aZ n<QA)&&okQ (QA+aZ n) (QA-aZ n)&&okH 200 (aT (QA+aZ n) (QA-aZ n)) &&
 okL (gZ 200 (aT (QA+aZ n) (QA-aZ n))) (dm 200 (aT (QA+aZ n) (QA-aZ n)))&&decide (kF n<W)&&decide (kF n/2*10800000<W)&&okQ (kF n/2*10800000) PiA&&decide (wpN n<2^63)
theorem SA:wpN 0=0:=by decide +kernel
