/- Plain numbers: how far a great circle goes until it touches a parallel. -/
import Derived.Test.YtknhbpnclokciaaZGv
import Derived.Test.YtknhbpnclokciaaZSpC
import Derived.Test.YtknhbpnclokciaaZRw
import Derived.Test.YtknhbpnclokciaaZDivF
set_option linter.unusedVariables false
set_option linter.unusedSimpArgs false
set_option maxRecDepth 100000
namespace Alm
theorem XF {a b m:Int} (hb:0<b) (h:a<=m*b):a/b<=m:=by
 have:=Int.ediv_le_ediv hb h
 rwa [Int.mul_ediv_cancel _ (by omega)] at this
theorem XQ {a b m:Int} (hb:0<b) (h:m*b<=a):m<=a/b:=(Int.le_ediv_iff_mul_le hb).2 h
end Alm
namespace Go.Proofs.Ytknhbpnclokciaa
open Go.RowKit Alm Sx
theorem acN {a b m:Int} (hb:0<b) (h:a<=m*b):jJ a b<=m:=by
 have:-m<=-a/b:=XQ hb (by rw [Int.neg_mul];omega)
 unfold jJ;omega
theorem RV {a b m:Int} (hb:0<b) (h:m*b<=a):m<=jJ a b:=by
 have:-a/b<=-m:=XF hb (by rw [Int.neg_mul];omega)
 unfold jJ;omega
theorem Uv {a1 a2 b1 b2:Int} (ha:a1<=a2) (hb:0<b1) (hbb:b1<=b2) (l1:-(2*b1)<=a1) (l2:a2<=2*b1) (m1:a1<=b2) (m2:-b2<=a2) :
 fxV (il a1 a2 b1 b2) (iQ a1 a2 b1 b2)=true/\il a1 a2 b1 b2<=1073741824/\-1073741824<=iQ a1 a2 b1 b2:=by
 have f:∀ x b:Int,0<b->-(2*b)<=x->x<=2*b->-2147483648<=x*1073741824/b/\jJ (x*1073741824) b<=2147483648/\x*1073741824/b<=jJ (x*1073741824) b:=by
  intro x b h p q;refine ⟨XQ h (by omega),acN h (by omega),?_⟩
  have:=Int.ediv_mul_le (x*1073741824) (show b≠0 by omega)
  exact RV h this
 have q1:=f a1 b1 hb (by omega) (by omega)
 have q2:=f a1 b2 (by omega) (by omega) (by omega)
 have q3:=f a2 b1 hb (by omega) (by omega)
 have q4:=f a2 b2 (by omega) (by omega) (by omega)
 have u:a1*1073741824/b2<=1073741824:=XF (by omega) (by omega)
 have v:-1073741824<=jJ (a2*1073741824) b2:=RV (by omega) (by omega)
 rw [bO];unfold il iQ;generalize a1*1073741824/b1=x1 at *
 generalize a1*1073741824/b2=x2 at *
 generalize a2*1073741824/b1=x3 at *
 generalize a2*1073741824/b2=x4 at *
 generalize jJ (a1*1073741824) b1=y1 at *
 generalize jJ (a1*1073741824) b2=y2 at *
 generalize jJ (a2*1073741824) b1=y3 at *
 generalize jJ (a2*1073741824) b2=y4 at *
 have mi:∀ a b:Int,lI a b=min a b:=fun a b=>by unfold lI;split<;>omega
 have ma:∀ a b:Int,lL a b=max a b:=fun a b=>by unfold lL;split<;>omega
 rw [mi,mi,mi,ma,ma,ma];omega
theorem QD (n:Int) (h0:-5400000<n) (h1:n<=10800000):fJ n n=bLo n/\fZ n n=bHi n:=by
 have m1:bR n n 16200000=false:=by unfold bR ak;simp;omega
 refine ⟨by unfold fJ;rw [m1];simp,?_⟩
 by_cases e:n=5400000
 . subst e;decide +kernel
 . have m2:bR n n 5400000=false:=by unfold bR ak;simp;omega
   unfold fZ;rw [m2];simp
theorem Zb (x:Int) (h0:0<=x) (h1:x<=5400000):bLo (5400000+x)=bLo (5400000-x)/\bHi (5400000+x)=bHi (5400000-x):=by
 have e:aH (5400000+x)=aH (5400000-x):=by
  unfold aH ak;simp only [];split<;>split<;>(try split)<;>omega
 have s1:fA (5400000+x)=false:=by unfold fA ak;simp;omega
 have s2:fA (5400000-x)=false:=by unfold fA ak;simp;omega
 unfold bLo bHi;rw [e,s1,s2];exact ⟨rfl,rfl⟩
theorem XH (n:Int) (h0:-5400000<n) (h1:n<=5400000):uS n n=(bLo n,bHi n):=by
 have:=QD n h0 (by omega)
 unfold uS;rw [this.1,this.2]
theorem Xr (n:Int) (h0:-5400000<n) (h1:n<5400000) (A:Int) (hA:A=n∨A=-n) (hA0:0<=A):uC n n=(bLo (5400000-A),bHi (5400000-A)):=by
 have:=QD (n+5400000) (by omega) (by omega)
 unfold uC;rw [this.1,this.2];rcases hA with h|h
 . have:=Zb A hA0 (by omega)
   rw [show n+5400000=5400000+A by omega,this.1,this.2]
 . rw [show n+5400000=5400000-A by omega]
theorem adT:bLo 1=312/\bLo 2=624/\bLo 2700000=759250124:=by decide +kernel
theorem SQ (m n:Int) (h0:-5400000<=m) (h:m<n) (h1:n<=5400000):bLo m<=bLo n:=by
 have a:=GJ m n h0 h h1;have b:=gm n;omega
theorem iY (m n:Int) (h0:-5400000<=m) (h:m<=n) (h1:n<=5400000):bLo m<=bLo n/\bHi m<=bHi n:=by
 rcases Int.lt_or_eq_of_le h with q|q
 . exact ⟨SQ m n h0 q h1,yu m n h0 q h1⟩
 . subst q;exact ⟨Int.le_refl _,Int.le_refl _⟩
theorem jk {a b c d:Int} (h1:0<=a) (h2:a<=b) (h3:0<=c) (h4:c<=d):0<=a*c/\a*c<=b*d:=by
 refine ⟨Int.mul_nonneg h1 h3,Int.le_trans (Int.mul_le_mul_of_nonneg_left h4 h1) (Int.mul_le_mul_of_nonneg_right h2 (by omega))⟩
theorem vo {a b c d:Int} (h1:-b<=a) (h2:a<=b) (h3:0<=c) (h4:c<=d):-(b*d)<=a*c/\a*c<=b*d:=by
 have p:=jk (a:=c) (b:=d) (c:=b) (d:=b) h3 h4 (by omega) (Int.le_refl _)
 have q:=Int.mul_le_mul_of_nonneg_right h2 h3;have r:=Int.mul_le_mul_of_nonneg_right h1 h3;rw [Int.mul_comm c b,Int.mul_comm d b] at p;rw [Int.neg_mul] at r;omega
def eZ (a l:Int):IV:=uM (uS a a) (uC l l)
def eG (a l:Int):IV:=uM (uS l l) (uC a a)
theorem UU {s1 s2 c1 c2 t1 t2 k1 k2:Int} (hs:312<=s1) (hs2:s2<=s1+1) (hs3:s1<=s2) (hc:624<=c1) (hc2:c2<=c1+1) (hc3:c1<=c2) (hb:s2<=1073741824) (hb2:c2<=1073741824) (hp:759250124<=s1∨759250124<=c1)
 (t0:t1<=t2) (ht1:-s2<=t1) (ht2:t2<=s2) (k0:0<=k1) (kk:k1<=k2) (k3:k2<=c2) :
 0<gI s1 s2 c1 c2/\-(2*gI s1 s2 c1 c2)<=gI t1 t2 k1 k2/\iq t1 t2 k1 k2<=2*gI s1 s2 c1 c2/\gI t1 t2 k1 k2<=iq s1 s2 c1 c2/\-iq s1 s2 c1 c2<=iq t1 t2 k1 k2:=by
 have P:236223201280<=s1*c1:=by
  rcases hp with h|h
  . have:=(jk (a:=759250124) (b:=s1) (c:=624) (d:=c1) (by omega) h (by omega) hc).2;omega
  . have:=(jk (a:=312) (b:=s1) (c:=759250124) (d:=c1) (by omega) hs (by omega) h).2;omega
 have R:s2*c2<=s1*c1+s1+c1+1:=by
  have h:=(jk (a:=s2) (b:=s1+1) (c:=c2) (d:=c1+1) (by omega) hs2 (by omega) hc2).2
  have e:(s1+1)*(c1+1)=s1*c1+s1+c1+1:=by grind
  omega
 have x1:=(jk (a:=s1) (b:=s1) (c:=c1) (d:=c2) (by omega) (Int.le_refl _) (by omega) hc3).2
 have x2:=(jk (a:=s1) (b:=s2) (c:=c1) (d:=c1) (by omega) hs3 (by omega) (Int.le_refl _)).2
 have x3:=(jk (a:=s1) (b:=s2) (c:=c1) (d:=c2) (by omega) hs3 (by omega) hc3).2
 have x4:=(jk (a:=s1) (b:=s2) (c:=c2) (d:=c2) (by omega) hs3 (by omega) (Int.le_refl _)).2
 have x5:=(jk (a:=s2) (b:=s2) (c:=c1) (d:=c2) (by omega) (Int.le_refl _) (by omega) hc3).2
 have y1:=vo (a:=t1) (b:=s2) (c:=k1) (d:=c2) ht1 (by omega) k0 (by omega)
 have y2:=vo (a:=t1) (b:=s2) (c:=k2) (d:=c2) ht1 (by omega) (by omega) (by omega)
 have y3:=vo (a:=t2) (b:=s2) (c:=k1) (d:=c2) (by omega) ht2 k0 (by omega)
 have y4:=vo (a:=t2) (b:=s2) (c:=k2) (d:=c2) (by omega) ht2 (by omega) (by omega)
 unfold gI iq mn4 mx4;generalize s1*c1=p1 at *
 generalize s1*c2=p2 at *
 generalize s2*c1=p3 at *
 generalize s2*c2=p4 at *
 generalize t1*k1=z1 at *
 generalize t1*k2=z2 at *
 generalize t2*k1=z3 at *
 generalize t2*k2=z4 at *
 clear hp;have e1:min (min (min p1 p2) p3) p4=p1:=by omega
 have e2:max (max (max p1 p2) p3) p4=p4:=by omega
 rw [e1,e2];have m1:-p4<=min (min (min z1 z2) z3) z4/\min (min (min z1 z2) z3) z4<=p4:=by omega
 have m2:-p4<=max (max (max z1 z2) z3) z4/\max (max (max z1 z2) z3) z4<=p4:=by omega
 generalize min (min (min z1 z2) z3) z4=mn at *
 generalize max (max (max z1 z2) z3) z4=mx at *
 clear y1 y2 y3 y4 x1 x2 x3 x4 x5 e1 e2;omega
theorem Rw (a l:Int) (h0:-l<a) (h1:a<l) (hl:l<=5399999) :
 U (eZ a l)/\U (eG a l)/\0<(eG a l).1/\fxV (il (eZ a l).1 (eZ a l).2 (eG a l).1 (eG a l).2) (iQ (eZ a l).1 (eZ a l).2 (eG a l).1 (eG a l).2)=true /\
 il (eZ a l).1 (eZ a l).2 (eG a l).1 (eG a l).2<=1073741824/\-1073741824<=iQ (eZ a l).1 (eZ a l).2 (eG a l).1 (eG a l).2:=by
 have uN:=U_M (U_S a a) (U_C l l);have uD:=U_M (U_S l l) (U_C a a);refine ⟨uN.2.2,uD.2.2,?_⟩;unfold eZ eG
 obtain ⟨A,hA,hA0⟩:∃ A:Int,(A=a∨A=-a)/\0<=A:=by
  rcases Int.le_total 0 a with h|h
  . exact ⟨a,.inl rfl,h⟩
  . exact ⟨-a,.inr rfl,by omega⟩
 have v:=adT;have bl:=gm l;have bA:=gm (5400000-A);have bk:=gm (5400000-l);have ba:=gm a;have g1:=iY 1 l (by omega) (by omega) (by omega)
 have g2:=iY 2 (5400000-A) (by omega) (by omega) (by omega)
 have g3:759250124<=bLo l∨759250124<=bLo (5400000-A):=by
  by_cases h:2700000<=l
  . exact .inl (by have:=(iY 2700000 l (by omega) h (by omega)).1;omega)
  . exact .inr (by have:=(iY 2700000 (5400000-A) (by omega) (by omega) (by omega)).1;omega)
 have g4:=(iY a l (by omega) (by omega) (by omega)).2
 have g5:=(iY (-a) l (by omega) (by omega) (by omega)).2
 rw [Jt a (by omega) (by omega)] at g5
 have g6:=(iY 0 (5400000-l) (by omega) (by omega) (by omega)).1
 have z:bLo 0=0:=by decide
 have g7:=(iY (5400000-l) (5400000-A) (by omega) (by omega) (by omega)).2
 have K:=UU (s1:=bLo l) (s2:=bHi l) (c1:=bLo (5400000-A)) (c2:=bHi (5400000-A)) (t1:=bLo a) (t2:=bHi a) (k1:=bLo (5400000-l)) (k2:=bHi (5400000-l))
  (by omega) (by omega) (by omega) (by omega) (by omega) (by omega) (by omega) (by omega) g3 (by omega) (by omega) (by omega) (by omega) (by omega) (by omega)
 have eN:=uN.1;have eD:=uD.1;rw [XH a (by omega) (by omega),Xr l (by omega) (by omega) l (.inl rfl) (by omega)] at eN ⊢
 rw [XH l (by omega) (by omega),Xr a (by omega) (by omega) A hA hA0] at eD ⊢
 rw [eN,eD];have n1:=uX (bLo a) (bHi a) (bLo (5400000-l)) (bHi (5400000-l));have n2:=uX (bLo l) (bHi l) (bLo (5400000-A)) (bHi (5400000-A));exact ⟨K.1,Uv n1 K.1 n2 K.2.1 K.2.2.1 K.2.2.2.1 (by have:=K.2.2.2.2;omega)⟩
def gp (a l:Int):Int:=if a=l then 0 else if a=-l then 10800000 else o9 (iQ (eZ a l).1 (eZ a l).2 (eG a l).1 (eG a l).2)
def gu (a l:Int):Int:=if a=l then 0 else if a=-l then 10800000 else qK (il (eZ a l).1 (eZ a l).2 (eG a l).1 (eG a l).2)
theorem Bb (a l:Int):0<=gp a l/\gp a l<=10800000/\0<=gu a l/\gu a l<=10800000:=by
 unfold gp gu o9 qK;have r1:=dR (-(lI (iQ (eZ a l).1 (eZ a l).2 (eG a l).1 (eG a l).2) 1073741824));have r2:=dR (lL (il (eZ a l).1 (eZ a l).2 (eG a l).1 (eG a l).2) (-1073741824));generalize bE (-(lI (iQ (eZ a l).1 (eZ a l).2 (eG a l).1 (eG a l).2) 1073741824))=x at *
 generalize bE (lL (il (eZ a l).1 (eZ a l).2 (eG a l).1 (eG a l).2) (-1073741824))=y at *
 split
 . omega
 . split<;>omega
end Go.Proofs.Ytknhbpnclokciaa
namespace Go.Proofs.Ytknhbpnclokciaa
open Go.RowKit Alm Sx
def nW (a b c d lat x y:Int) (west:Bool):Cs:=[[a,b],[lat,sgd (b+if west then -x else x)],[lat,sgd (d-if west then -y else y)],[c,d]]
def nY (a b c d l:Int):Cs :=
 if gu a l+gu c l<max (sgd (d-b)) (-(sgd (d-b))) then nW a b c d l ((gp a l+gu a l)/2) ((gp c l+gu c l)/2) (decide (sgd (d-b)<0))
 else if (10800000-gp a l)+(10800000-gp c l)<max (sgd (d-b)) (-(sgd (d-b))) then nW a b c d (-l) (((10800000-gu a l)+(10800000-gp a l))/2) (((10800000-gu c l)+(10800000-gp c l))/2) (decide (sgd (d-b)<0))
 else [[a,b],[c,d]]
def aF (a b c d l:Int):Cs:=dd (nY a b c d l)
def dJ (x:List Int):Bool:=decide (PtV (x.getD 0 0) (x.getD 1 0))
def di (l:Int) (x:List Int):Bool:=decide (-l<=x.getD 0 0/\x.getD 0 0<=l)
def bS (l:Int) (L:Cs):Int:=if L.all dJ=true then (if 1<=l/\l<5400000/\L.all (di l)=true then 0 else 2) else 1
theorem kS {l:Int} {L:Cs} (h:bS l L=0):L.all dJ=true/\1<=l/\l<5400000/\L.all (di l)=true:=by
 unfold bS at h;split at h
 . rename_i h1
   split at h
   . rename_i h2;exact ⟨h1,h2⟩
   . exact absurd h (by decide)
 . exact absurd h (by decide)
theorem NC {a b c d l:Int} (h:bS l [[a,b],[c,d]]=0):(nY a b c d l).all dJ=true/\(nY a b c d l).all (di l)=true:=by
 obtain ⟨h1,h2,h3,h4⟩:=kS h;simp only [List.all_cons,List.all_nil,Bool.and_true,Bool.and_eq_true] at h1 h4
 have S:∀ (p n:Int),(p=l∨p=-l)->dJ [p,sgd n]=true/\di l [p,sgd n]=true:=by
  intro p n hp;have:=jb n;unfold dJ di PtV;simp only [List.getD_cons_zero,List.getD_cons_succ,decide_eq_true_eq];omega
 unfold nY nW;split
 . simp only [List.all_cons,List.all_nil,Bool.and_true,Bool.and_eq_true];exact ⟨⟨h1.1,(S _ _ (.inl rfl)).1,(S _ _ (.inl rfl)).1,h1.2⟩,⟨h4.1,(S _ _ (.inl rfl)).2,(S _ _ (.inl rfl)).2,h4.2⟩⟩
 . split
   . simp only [List.all_cons,List.all_nil,Bool.and_true,Bool.and_eq_true];exact ⟨⟨h1.1,(S _ _ (.inr rfl)).1,(S _ _ (.inr rfl)).1,h1.2⟩,⟨h4.1,(S _ _ (.inr rfl)).2,(S _ _ (.inr rfl)).2,h4.2⟩⟩
   . simp only [List.all_cons,List.all_nil,Bool.and_true,Bool.and_eq_true];exact ⟨h1,h4⟩
theorem MO (a b c d l:Int):(nY a b c d l).length=4∨(nY a b c d l).length=2:=by
 unfold nY nW;split
 . exact .inl rfl
 . split
   . exact .inl rfl
   . exact .inr rfl
theorem uR {a b c d l:Int} (h:bS l [[a,b],[c,d]]=0):bS l (aF a b c d l)=0:=by
 obtain ⟨p,q⟩:=NC h;obtain ⟨h1,h2,h3,h4⟩:=kS h;rw [List.all_eq_true] at p q;have p':(aF a b c d l).all dJ=true:=List.all_eq_true.2 fun x hx=>p x (Qh hx)
 have q':(aF a b c d l).all (di l)=true:=List.all_eq_true.2 fun x hx=>q x (Qh hx)
 unfold bS;rw [if_pos p',if_pos ⟨h2,h3,q'⟩]
theorem ky (a b c d l:Int):(aF a b c d l).length<=4:=by
 have:=ZP (nY a b c d l);have:=MO a b c d l;unfold aF;omega
end Go.Proofs.Ytknhbpnclokciaa
namespace Go.Proofs.Ytknhbpnclokciaa
open Go.RowKit Alm Sx
theorem Q6 {L H:Int} (h:fxV L H=true):jS L H=L/\jU L H=H/\jI L H=0:=by
 have:=(bO _ _).1 h;unfold jS jU jI;rw [if_pos this,if_pos this,if_pos this];exact ⟨rfl,rfl,rfl⟩
def kD3 (f:Nat):Bool:=f==33
def aeS:Nat->List Int->List Int
 | 33,[a,b,c,d]=>D7 (il a b c d) (iQ a b c d)
 | _,_=>[]
def aeT:Nat->List Int->Prop
 | 33,[a,b,c,d]=>fxV a b=true/\fxV c d=true/\0<c
 | _,_=>False
def aeQ (args:List Int):Cx:=(cxA args).plus kD3 aeS aeT
theorem aeW (args:List Int):yI (aeQ args):=nG (Xx args) fun f h=>by
 unfold kD3;rcases h with h|rfl
 . simp;omega
 . rfl
def Zu:Sx.Spec:=⟨41,33,[(true,[some .i64,some .i64]),(true,[some .i64,some .i64])],[(true,[some .i64,some .i64]),(false,[some .i64])]⟩
def aeU:List Sx.Spec:=[ack,aca,ade,Us,Zu]
theorem aeR (args:List Int):∀ s∈aeU,aQ Try.prog (aeQ args) s:=by
 intro s hs;simp only [aeU,List.mem_cons,List.not_mem_nil,or_false] at hs;rcases hs with rfl|rfl|rfl|rfl|rfl
 . exact pV (k:=kD3) (S:=aeS) (P:=aeT) rfl (pV (k:=kA) (S:=mR) (P:=aew) rfl (VR args))
 . exact pV (k:=kD3) (S:=aeS) (P:=aeT) rfl (pV (k:=kA) (S:=mR) (P:=aew) rfl (Um args))
 . exact pV (k:=kD3) (S:=aeS) (P:=aeT) rfl (pV (k:=kA) (S:=mR) (P:=aew) rfl (UF args))
 . refine pV (k:=kD3) (S:=aeS) (P:=aeT) (X:=cxA args) rfl ?_;refine dE rfl (ours _ _ _ Try.func42 rfl (by kernel_rfl)) fun xs hp w=>?_
   match xs,hp with
   | [a,b],hp=>exact ZV a b w hp.1 hp.2.1 hp.2.2
 . refine dE rfl (ours _ _ _ Try.func41 rfl (by kernel_rfl)) fun xs hp w=>?_
   match xs,hp with
   | [a,b,c,d],hp=>exact X6 a b c d w hp.1 hp.2.1 hp.2.2
def aeV (t:Tab):Nd->Option Rf
 | .app 46 2 [_,_]=>some (.c 0)
 | x=>Ot t x
theorem aeP (args:List Int):nZ (aeQ args) aeV:=by
 intro v t x r ht h;unfold aeV at h;split at h
 . cases h;rfl
 . exact Bf (aeW args) v t x r ht h
def bM:List Nd:=[
 .arg 0,
 .arg 1,
 .bin .eql .i64 (.n 0) (.n 1),
 .bin .sub .i64 (.c 0) (.n 1),
 .bin .eql .i64 (.n 0) (.n 3),
 .ite (.n 4) (.c 0) (.c 1),
 .ite (.n 2) (.c 0) (.c 1),
 .ite (.n 6) (.n 5) (.c 0),
 .ite (.n 6) (.n 4) (.c 0),
 .ite (.n 2) (.c 1) (.n 8),
 .ite (.n 2) (.c 0) (.c 10800000),
 .app 5 0 [.n 0,.n 0],
 .app 5 1 [.n 0,.n 0],
 .app 5 2 [.n 0,.n 0],
 .bin .neq .i64 (.n 13) (.c 0),
 .ite (.n 14) (.c 0) (.c 1),
 .app 6 0 [.n 1,.n 1],
 .app 6 1 [.n 1,.n 1],
 .app 6 2 [.n 1,.n 1],
 .bin .neq .i64 (.n 18) (.c 0),
 .ite (.n 19) (.c 0) (.c 1),
 .app 0 0 [.n 11,.n 12,.n 16,.n 17],
 .app 0 1 [.n 11,.n 12,.n 16,.n 17],
 .app 0 2 [.n 11,.n 12,.n 16,.n 17],
 .ite (.n 19) (.n 18) (.n 23),
 .ite (.n 19) (.c 0) (.n 21),
 .ite (.n 19) (.c 0) (.n 22),
 .ite (.n 14) (.n 13) (.n 24),
 .ite (.n 14) (.n 13) (.n 18),
 .ite (.n 14) (.c 0) (.n 25),
 .ite (.n 14) (.c 0) (.n 26),
 .bin .neq .i64 (.n 27) (.c 0),
 .ite (.n 31) (.c 0) (.c 1),
 .app 5 0 [.n 1,.n 1],
 .app 5 1 [.n 1,.n 1],
 .app 5 2 [.n 1,.n 1],
 .bin .neq .i64 (.n 35) (.c 0),
 .ite (.n 36) (.c 0) (.c 1),
 .app 6 0 [.n 0,.n 0],
 .app 6 1 [.n 0,.n 0],
 .app 6 2 [.n 0,.n 0],
 .bin .neq .i64 (.n 40) (.c 0),
 .ite (.n 41) (.c 0) (.c 1),
 .app 0 0 [.n 33,.n 34,.n 38,.n 39],
 .app 0 1 [.n 33,.n 34,.n 38,.n 39],
 .app 0 2 [.n 33,.n 34,.n 38,.n 39],
 .ite (.n 41) (.n 40) (.n 45),
 .ite (.n 41) (.c 0) (.n 43),
 .ite (.n 41) (.c 0) (.n 44),
 .ite (.n 36) (.n 35) (.n 46),
 .ite (.n 36) (.n 35) (.n 40),
 .ite (.n 36) (.c 0) (.n 47),
 .ite (.n 36) (.c 0) (.n 48),
 .bin .neq .i64 (.n 49) (.c 0),
 .ite (.n 53) (.c 0) (.c 1),
 .app 33 0 [.n 29,.n 30,.n 51,.n 52],
 .app 33 1 [.n 29,.n 30,.n 51,.n 52],
 .app 33 2 [.n 29,.n 30,.n 51,.n 52],
 .bin .neq .i64 (.n 57) (.c 0),
 .ite (.n 58) (.c 0) (.c 1),
 .app 46 0 [.n 55,.n 56],
 .app 46 1 [.n 55,.n 56],
 .app 46 2 [.n 55,.n 56],
 .ite (.n 58) (.n 57) (.n 62),
 .ite (.n 58) (.c 0) (.n 60),
 .ite (.n 58) (.c 0) (.n 61),
 .ite (.n 53) (.n 49) (.n 63),
 .ite (.n 53) (.n 49) (.n 57),
 .ite (.n 53) (.c 0) (.n 64),
 .ite (.n 53) (.c 0) (.n 65),
 .ite (.n 31) (.n 27) (.n 66),
 .ite (.n 31) (.n 27) (.n 67),
 .ite (.n 31) (.c 0) (.n 68),
 .ite (.n 31) (.c 0) (.n 69),
 .ite (.n 9) (.c 1) (.n 7),
 .ite (.n 9) (.c 0) (.n 70),
 .ite (.n 9) (.n 10) (.n 72),
 .ite (.n 9) (.n 10) (.n 73)]
def Gj:List Vc:=[
 ⟨[(.n 7,true)],.pre 5 [.n 0,.n 0]⟩,
 ⟨[(.n 15,true),(.n 7,true)],.pre 6 [.n 1,.n 1]⟩,
 ⟨[(.n 20,true),(.n 15,true),(.n 7,true)],.pre 0 [.n 11,.n 12,.n 16,.n 17]⟩,
 ⟨[(.n 32,true),(.n 7,true)],.pre 5 [.n 1,.n 1]⟩,
 ⟨[(.n 37,true),(.n 32,true),(.n 7,true)],.pre 6 [.n 0,.n 0]⟩,
 ⟨[(.n 42,true),(.n 37,true),(.n 32,true),(.n 7,true)],.pre 0 [.n 33,.n 34,.n 38,.n 39]⟩,
 ⟨[(.n 54,true),(.n 32,true),(.n 7,true)],.pre 33 [.n 29,.n 30,.n 51,.n 52]⟩,
 ⟨[(.n 59,true),(.n 54,true),(.n 32,true),(.n 7,true)],.pre 46 [.n 55,.n 56]⟩]
theorem oV:whole Try.prog aeU 20 40 22 [(false,[some .i64]),(false,[some .i64])]=some (.tup [.agg [.int .i64 (.n 76),.int .i64 (.n 77)],.c (.int .i64 (.n 75))],⟨bM.reverse,Gj.reverse⟩):=by kernel_rfl
theorem ou:wfN bM.reverse=true:=by kernel_rfl
theorem MH (a l:Int) (w:World) (h0:1<=l) (h1:l<5400000) (h2:-l<=a) (h3:a<=l) (hc:a=l):Calls Try.prog 22 #[.int .i64 a,.int .i64 l] w fun e w'=>e=.returned (.tuple #[.agg #[.int .i64 (gp a l),.int .i64 (gu a l)],.int .i64 0])/\Below w.heap.size w w':=by
 refine Sx.calls (X:=aeQ [a,l]) dB (aeR _) oV ou (fun v hs=>?_) w
 have e0:v 0=a:=ae hs 0 rfl;have e1:v 1=l:=ae hs 1 rfl;have e2:v 2=b2i (v 0==v 1):=ae hs 2 rfl;have e3:v 3=IntKind.i64.wrap ((0:Int)-v 1):=ae hs 3 rfl;have e4:v 4=b2i (v 0==v 3):=ae hs 4 rfl;have w3:v 3=-l:=by rw [e3,e1,Go.IntWalk.i64_in _ (by omega)];omega
 have A2:v 2=1:=by rw [e2,e0,e1,show (a==l)=true from by simp [hc]];rfl
 have z76:v 76=0:=aI (X:=aeQ [a,l]) (v:=v) (l:=bM) (aeP _) hs (k:=76) (r:=.c 0) (ps:=[(2,.c 1)]) (nz:=[]) (af A2 ay) bf (by kernel_rfl)
 have z77:v 77=0:=aI (X:=aeQ [a,l]) (v:=v) (l:=bM) (aeP _) hs (k:=77) (r:=.c 0) (ps:=[(2,.c 1)]) (nz:=[]) (af A2 ay) bf (by kernel_rfl)
 have z75:v 75=0:=aI (X:=aeQ [a,l]) (v:=v) (l:=bM) (aeP _) hs (k:=75) (r:=.c 0) (ps:=[(2,.c 1)]) (nz:=[]) (af A2 ay) bf (by kernel_rfl)
 have z7:v 7=0:=aI (X:=aeQ [a,l]) (v:=v) (l:=bM) (aeP _) hs (k:=7) (r:=.c 0) (ps:=[(2,.c 1)]) (nz:=[]) (af A2 ay) bf (by kernel_rfl)
 refine ⟨aU ?_,?_⟩
 . exact ag (fun hp=>absurd z7 (au hp).1) (ag (fun hp=>absurd z7 (au (au hp).2).1) (ag (fun hp=>absurd z7 (au (au (au hp).2).2).1) (ag (fun hp=>absurd z7 (au (au hp).2).1) (ag (fun hp=>absurd z7 (au (au (au hp).2).2).1) (ag (fun hp=>absurd z7 (au (au (au (au hp).2).2).2).1) (ag (fun hp=>absurd z7 (au (au (au hp).2).2).1) (ag (fun hp=>absurd z7 (au (au (au (au hp).2).2).2).1) (aT))))))))
 . intro x hx0;have hx':=aW (v:=v) (by rfl) hx0
   rw [hx'];show Value.tuple #[.agg #[.int .i64 (v 76),.int .i64 (v 77)],.int .i64 (v 75)]=_;rw [z76,z77,z75];unfold gp gu;rw [if_pos hc,if_pos hc]
theorem NU (a l:Int) (w:World) (h0:1<=l) (h1:l<5400000) (h2:-l<=a) (h3:a<=l) (hc:¬ a=l) (hd:a=-l):Calls Try.prog 22 #[.int .i64 a,.int .i64 l] w fun e w'=>e=.returned (.tuple #[.agg #[.int .i64 (gp a l),.int .i64 (gu a l)],.int .i64 0])/\Below w.heap.size w w':=by
 refine Sx.calls (X:=aeQ [a,l]) dB (aeR _) oV ou (fun v hs=>?_) w
 have e0:v 0=a:=ae hs 0 rfl;have e1:v 1=l:=ae hs 1 rfl;have e2:v 2=b2i (v 0==v 1):=ae hs 2 rfl;have e3:v 3=IntKind.i64.wrap ((0:Int)-v 1):=ae hs 3 rfl;have e4:v 4=b2i (v 0==v 3):=ae hs 4 rfl;have w3:v 3=-l:=by rw [e3,e1,Go.IntWalk.i64_in _ (by omega)];omega
 have A2:v 2=0:=by rw [e2,e0,e1,show (a==l)=false from by simp [hc]];rfl
 have A4:v 4=1:=by rw [e4,e0,w3,show (a == -l)=true from by simp [hd]];rfl
 have z76:v 76=10800000:=aI (X:=aeQ [a,l]) (v:=v) (l:=bM) (aeP _) hs (k:=76) (r:=.c 10800000) (ps:=[(2,.c 0),(4,.c 1)]) (nz:=[]) (af A2 (af A4 ay)) bf (by kernel_rfl)
 have z77:v 77=10800000:=aI (X:=aeQ [a,l]) (v:=v) (l:=bM) (aeP _) hs (k:=77) (r:=.c 10800000) (ps:=[(2,.c 0),(4,.c 1)]) (nz:=[]) (af A2 (af A4 ay)) bf (by kernel_rfl)
 have z75:v 75=0:=aI (X:=aeQ [a,l]) (v:=v) (l:=bM) (aeP _) hs (k:=75) (r:=.c 0) (ps:=[(2,.c 0),(4,.c 1)]) (nz:=[]) (af A2 (af A4 ay)) bf (by kernel_rfl)
 have z7:v 7=0:=aI (X:=aeQ [a,l]) (v:=v) (l:=bM) (aeP _) hs (k:=7) (r:=.c 0) (ps:=[(2,.c 0),(4,.c 1)]) (nz:=[]) (af A2 (af A4 ay)) bf (by kernel_rfl)
 refine ⟨aU ?_,?_⟩
 . exact ag (fun hp=>absurd z7 (au hp).1) (ag (fun hp=>absurd z7 (au (au hp).2).1) (ag (fun hp=>absurd z7 (au (au (au hp).2).2).1) (ag (fun hp=>absurd z7 (au (au hp).2).1) (ag (fun hp=>absurd z7 (au (au (au hp).2).2).1) (ag (fun hp=>absurd z7 (au (au (au (au hp).2).2).2).1) (ag (fun hp=>absurd z7 (au (au (au hp).2).2).1) (ag (fun hp=>absurd z7 (au (au (au (au hp).2).2).2).1) (aT))))))))
 . intro x hx0;have hx':=aW (v:=v) (by rfl) hx0
   rw [hx'];show Value.tuple #[.agg #[.int .i64 (v 76),.int .i64 (v 77)],.int .i64 (v 75)]=_;rw [z76,z77,z75];unfold gp gu;rw [if_neg hc,if_neg hc,if_pos hd,if_pos hd]
theorem MW (a l:Int) (w:World) (h0:1<=l) (h1:l<5400000) (h2:-l<=a) (h3:a<=l) (hc:¬ a=l) (hd:¬ a=-l):Calls Try.prog 22 #[.int .i64 a,.int .i64 l] w fun e w'=>e=.returned (.tuple #[.agg #[.int .i64 (gp a l),.int .i64 (gu a l)],.int .i64 0])/\Below w.heap.size w w':=by
 refine Sx.calls (X:=aeQ [a,l]) dB (aeR _) oV ou (fun v hs=>?_) w
 have e0:v 0=a:=ae hs 0 rfl;have e1:v 1=l:=ae hs 1 rfl;have e2:v 2=b2i (v 0==v 1):=ae hs 2 rfl;have e3:v 3=IntKind.i64.wrap ((0:Int)-v 1):=ae hs 3 rfl;have e4:v 4=b2i (v 0==v 3):=ae hs 4 rfl;have w3:v 3=-l:=by rw [e3,e1,Go.IntWalk.i64_in _ (by omega)];omega
 have A2:v 2=0:=by rw [e2,e0,e1,show (a==l)=false from by simp [hc]];rfl
 have A4:v 4=0:=by rw [e4,e0,w3,show (a == -l)=false from by simp [hd]];rfl
 have e11:v 11=(aD 5 [v 0,v 0]).getD 0 0:=ae hs 11 rfl;have e12:v 12=(aD 5 [v 0,v 0]).getD 1 0:=ae hs 12 rfl;have P11:((v 11,v 12):IV)=uS (v 0) (v 0):=by rw [e11,e12];rfl
 have U11:U (v 11,v 12):=by rw [P11];exact U_S _ _
 have e16:v 16=(aD 6 [v 1,v 1]).getD 0 0:=ae hs 16 rfl;have e17:v 17=(aD 6 [v 1,v 1]).getD 1 0:=ae hs 17 rfl;have P16:((v 16,v 17):IV)=uC (v 1) (v 1):=by rw [e16,e17];rfl
 have U16:U (v 16,v 17):=by rw [P16];exact U_C _ _
 have e33:v 33=(aD 5 [v 1,v 1]).getD 0 0:=ae hs 33 rfl;have e34:v 34=(aD 5 [v 1,v 1]).getD 1 0:=ae hs 34 rfl;have P33:((v 33,v 34):IV)=uS (v 1) (v 1):=by rw [e33,e34];rfl
 have U33:U (v 33,v 34):=by rw [P33];exact U_S _ _
 have e38:v 38=(aD 6 [v 0,v 0]).getD 0 0:=ae hs 38 rfl;have e39:v 39=(aD 6 [v 0,v 0]).getD 1 0:=ae hs 39 rfl;have P38:((v 38,v 39):IV)=uC (v 0) (v 0):=by rw [e38,e39];rfl
 have U38:U (v 38,v 39):=by rw [P38];exact U_C _ _
 have e21:v 21=(aD 0 [v 11,v 12,v 16,v 17]).getD 0 0:=ae hs 21 rfl;have e22:v 22=(aD 0 [v 11,v 12,v 16,v 17]).getD 1 0:=ae hs 22 rfl;have P21:((v 21,v 22):IV)=uM (v 11,v 12) (v 16,v 17):=by rw [e21,e22];rfl
 have U21:U (v 21,v 22):=by rw [P21];exact (U_M U11 U16).2.2
 have e23:v 23=(aD 0 [v 11,v 12,v 16,v 17]).getD 2 0:=ae hs 23 rfl;have E23:v 23=0:=e23.trans (U_M U11 U16).2.1;have e43:v 43=(aD 0 [v 33,v 34,v 38,v 39]).getD 0 0:=ae hs 43 rfl;have e44:v 44=(aD 0 [v 33,v 34,v 38,v 39]).getD 1 0:=ae hs 44 rfl;have P43:((v 43,v 44):IV)=uM (v 33,v 34) (v 38,v 39):=by rw [e43,e44];rfl
 have U43:U (v 43,v 44):=by rw [P43];exact (U_M U33 U38).2.2
 have e45:v 45=(aD 0 [v 33,v 34,v 38,v 39]).getD 2 0:=ae hs 45 rfl;have E45:v 45=0:=e45.trans (U_M U33 U38).2.1;have PN:((v 21,v 22):IV)=eZ a l:=by rw [P21,P11,P16,e0,e1];rfl
 have PD:((v 43,v 44):IV)=eG a l:=by rw [P43,P33,P38,e0,e1];rfl
 have R:=Rw a l (by omega) (by omega) (by omega)
 have n1:v 21=(eZ a l).1:=congrArg Prod.fst PN;have n2:v 22=(eZ a l).2:=congrArg Prod.snd PN;have d1:v 43=(eG a l).1:=congrArg Prod.fst PD;have d2:v 44=(eG a l).2:=congrArg Prod.snd PD;have e55:v 55=(aeS 33 [v 29,v 30,v 51,v 52]).getD 0 0:=ae hs 55 rfl;have e56:v 56=(aeS 33 [v 29,v 30,v 51,v 52]).getD 1 0:=ae hs 56 rfl;have e57:v 57=(aeS 33 [v 29,v 30,v 51,v 52]).getD 2 0:=ae hs 57 rfl;have e60:v 60=(mR 46 [v 55,v 56]).getD 0 0:=ae hs 60 rfl;have e61:v 61=(mR 46 [v 55,v 56]).getD 1 0:=ae hs 61 rfl;have z29:v 29=v 21:=aJ (X:=aeQ [a,l]) (v:=v) (l:=bM) (aeP _) hs (k:=29) (j:=21) (ps:=[(2,.c 0),(4,.c 0),(23,.c 0),(45,.c 0)]) (af A2 (af A4 (af E23 (af E45 ay)))) (by kernel_rfl)
 have z30:v 30=v 22:=aJ (X:=aeQ [a,l]) (v:=v) (l:=bM) (aeP _) hs (k:=30) (j:=22) (ps:=[(2,.c 0),(4,.c 0),(23,.c 0),(45,.c 0)]) (af A2 (af A4 (af E23 (af E45 ay)))) (by kernel_rfl)
 have z51:v 51=v 43:=aJ (X:=aeQ [a,l]) (v:=v) (l:=bM) (aeP _) hs (k:=51) (j:=43) (ps:=[(2,.c 0),(4,.c 0),(23,.c 0),(45,.c 0)]) (af A2 (af A4 (af E23 (af E45 ay)))) (by kernel_rfl)
 have z52:v 52=v 44:=aJ (X:=aeQ [a,l]) (v:=v) (l:=bM) (aeP _) hs (k:=52) (j:=44) (ps:=[(2,.c 0),(4,.c 0),(23,.c 0),(45,.c 0)]) (af A2 (af A4 (af E23 (af E45 ay)))) (by kernel_rfl)
 have F:=Q6 R.2.2.2.1;have D0:v 55=il (eZ a l).1 (eZ a l).2 (eG a l).1 (eG a l).2:=by rw [e55,z29,z30,z51,z52,n1,n2,d1,d2];exact F.1
 have D1:v 56=iQ (eZ a l).1 (eZ a l).2 (eG a l).1 (eG a l).2:=by rw [e56,z29,z30,z51,z52,n1,n2,d1,d2];exact F.2.1
 have D2:v 57=0:=by rw [e57,z29,z30,z51,z52,n1,n2,d1,d2];exact F.2.2
 have A46:fxV (v 55) (v 56)=true/\v 55<=1073741824/\-1073741824<=v 56:=by rw [D0,D1];exact R.2.2.2
 have C0:v 60=o9 (v 56):=e60;have C1:v 61=qK (v 55):=e61;have A33:fxV (v 29) (v 30)=true/\fxV (v 51) (v 52)=true/\0<v 51:=by rw [z29,z30,z51,z52];exact ⟨dz U21,dz U43,by rw [d1];exact R.2.2.1⟩
 have z76:v 76=v 60:=aJ (X:=aeQ [a,l]) (v:=v) (l:=bM) (aeP _) hs (k:=76) (j:=60) (ps:=[(2,.c 0),(4,.c 0),(23,.c 0),(45,.c 0),(57,.c 0)]) (af A2 (af A4 (af E23 (af E45 (af D2 ay))))) (by kernel_rfl)
 have z77:v 77=v 61:=aJ (X:=aeQ [a,l]) (v:=v) (l:=bM) (aeP _) hs (k:=77) (j:=61) (ps:=[(2,.c 0),(4,.c 0),(23,.c 0),(45,.c 0),(57,.c 0)]) (af A2 (af A4 (af E23 (af E45 (af D2 ay))))) (by kernel_rfl)
 have z75:v 75=0:=aI (X:=aeQ [a,l]) (v:=v) (l:=bM) (aeP _) hs (k:=75) (r:=.c 0) (ps:=[(2,.c 0),(4,.c 0),(23,.c 0),(45,.c 0),(57,.c 0)]) (nz:=[]) (af A2 (af A4 (af E23 (af E45 (af D2 ay))))) bf (by kernel_rfl)
 refine ⟨aU ?_,?_⟩
 . exact ag (fun _=>(show dI (v 0) (v 0)=true from bi (by rw [e0];omega))) (ag (fun _=>(show dI (v 1) (v 1)=true from bi (by rw [e1];omega))) (ag (fun _=>⟨dz U11,dz U16⟩) (ag (fun _=>(show dI (v 1) (v 1)=true from bi (by rw [e1];omega))) (ag (fun _=>(show dI (v 0) (v 0)=true from bi (by rw [e0];omega))) (ag (fun _=>⟨dz U33,dz U38⟩) (ag (fun _=>A33) (ag (fun _=>A46) (aT))))))))
 . intro x hx0;have hx':=aW (v:=v) (by rfl) hx0
   rw [hx'];show Value.tuple #[.agg #[.int .i64 (v 76),.int .i64 (v 77)],.int .i64 (v 75)]=_;rw [z76,z77,z75,C0,C1,D0,D1];unfold gp gu;rw [if_neg hc,if_neg hc,if_neg hd,if_neg hd]
theorem Fg (a l:Int) (w:World) (h0:1<=l) (h1:l<5400000) (h2:-l<=a) (h3:a<=l):Calls Try.prog 22 #[.int .i64 a,.int .i64 l] w fun e w'=>e=.returned (.tuple #[.agg #[.int .i64 (gp a l),.int .i64 (gu a l)],.int .i64 0])/\Below w.heap.size w w':=by
 by_cases hc:a=l
 . exact MH a l w h0 h1 h2 h3 hc
 . by_cases hd:a=-l
   . exact NU a l w h0 h1 h2 h3 hc hd
   . exact MW a l w h0 h1 h2 h3 hc hd
def F5:List Nd:=[
 .arg 0,
 .arg 1,
 .bin .add .i64 (.n 0) (.n 1),
 .bin .shr .i64 (.n 2) (.c 1)]
def Qb:List Vc:=[
 ]
theorem OU:whole Try.prog aeU 20 40 24 [(true,[some .i64,some .i64])]=some (.p (.c (.int .i64 (.n 3))),⟨F5.reverse,Qb.reverse⟩):=by kernel_rfl
theorem Pd:wfN F5.reverse=true:=by kernel_rfl
theorem abT (a b:Int) (w:World) (h1:0<=a/\a<=10800000) (h2:0<=b/\b<=10800000):Calls Try.prog 24 #[.agg #[.int .i64 a,.int .i64 b]] w fun e w'=>e=.returned (.int .i64 ((a+b)/2))/\Below w.heap.size w w':=by
 refine Sx.calls (X:=aeQ [a,b]) dB (aeR _) OU Pd (fun v hs=>?_) w
 have e0:v 0=a:=ae hs 0 rfl;have e1:v 1=b:=ae hs 1 rfl;have e2:v 2=IntKind.i64.wrap (v 0+v 1):=ae hs 2 rfl;rw [e0,e1,Go.IntWalk.i64_in _ (by omega)] at e2
 have e3:v 3=(v 2).fdiv (2^(min (1:Int).toNat IntKind.i64.bits)):=ae hs 3 rfl
 have e4:v 3=(a+b)/2:=by
  rw [e3,e2];show Int.fdiv (a+b) 2=(a+b)/2;exact Int.fdiv_eq_ediv_of_nonneg _ (by omega)
 refine ⟨aU ?_,?_⟩
 . exact aT
 . intro x hx0;have hx':=aW (v:=v) (by rfl) hx0
   rw [hx'];show Value.int .i64 (v 3)=_;rw [e4]
def EZ:List Nd:=[
 .arg 0,
 .arg 1,
 .bin .sub .i64 (.c 10800000) (.n 1),
 .bin .sub .i64 (.c 10800000) (.n 0)]
def RQ:List Vc:=[
 ]
theorem SK:whole Try.prog aeU 20 40 25 [(true,[some .i64,some .i64])]=some (.p (.agg [.int .i64 (.n 2),.int .i64 (.n 3)]),⟨EZ.reverse,RQ.reverse⟩):=by kernel_rfl
theorem Qt:wfN EZ.reverse=true:=by kernel_rfl
theorem abF (a b:Int) (w:World) (h1:0<=a/\a<=10800000) (h2:0<=b/\b<=10800000):Calls Try.prog 25 #[.agg #[.int .i64 a,.int .i64 b]] w fun e w'=>e=.returned (.agg #[.int .i64 (10800000-b),.int .i64 (10800000-a)])/\Below w.heap.size w w':=by
 refine Sx.calls (X:=aeQ [a,b]) dB (aeR _) SK Qt (fun v hs=>?_) w
 have e0:v 0=a:=ae hs 0 rfl;have e1:v 1=b:=ae hs 1 rfl;have e2:v 2=IntKind.i64.wrap (10800000-v 1):=ae hs 2 rfl;have e3:v 3=IntKind.i64.wrap (10800000-v 0):=ae hs 3 rfl;rw [e1,Go.IntWalk.i64_in _ (by omega)] at e2
 rw [e0,Go.IntWalk.i64_in _ (by omega)] at e3
 refine ⟨aU ?_,?_⟩
 . exact aT
 . intro x hx0;have hx':=aW (v:=v) (by rfl) hx0
   rw [hx'];show Value.agg #[.int .i64 (v 2),.int .i64 (v 3)]=_;rw [e2,e3]
