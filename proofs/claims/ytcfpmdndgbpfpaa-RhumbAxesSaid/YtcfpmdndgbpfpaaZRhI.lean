/- Plain numbers: steps of the program's meridional parts. -/
import Derived.Test.YtcfpmdndgbpfpaaZRhE
set_option linter.unusedVariables false
set_option linter.unusedSimpArgs false
namespace Alm
theorem Bi:440*ah<=1/1000000000000000/\220*ah<=1/1000000000000000/\20000000000*ah<=pp*pp*pp/\30000000000*ah<=1/1000000000000000:=by unfold ah pp;refine ⟨?_,?_,?_,?_⟩<;>decide +kernel
theorem Hz (n:Nat) (h:n+1<=5340000) (h64:64<=n):aZ n<=aZ (n+1)/\(aZ (n+1):Rat)*ah<=(aZ n:Rat)*ah+1/2000000:=by
 obtain ⟨e,q,D,he,hq,hD,pq,q1,sq,e0,hDs,_,lo⟩:=Gu n h h64;have b:=sc_bd n (by omega)
 have b':=sc_bd (n+1) h;have zd:=Dl n h;have a1:=(mo n (by omega)).2
 have a2:=(mo (n+1) h).2;have t1:=vw n (by omega)
 have t2:=vw (n+1) h;rw [<-a1,Rat.intCast_natCast] at t1;rw [<-a2,Rat.intCast_natCast] at t2;have td:=Bi;have hp:=yA
 have up:2/1000000000000000<=zs (n+1)-zs n:=by
  rw [<-hDs];have k1:=Rat.mul_nonneg b.2.2.1 (show 0<=1-zs (n+1) by have:=(bU (n+1)).2;grind)
  have b4:=b.2.2.2.1;have w1:zs n*zs (n+1)<=zs n:=by clear t1 t2 a1 a2 zd b b' hDs td hD hq he lo hp;grind
  clear t1 t2 a1 a2 zd b b' hDs td hD hq he;generalize zs n*zs (n+1)=w at *
  generalize zs n=s at *
  have k2:=Rat.mul_nonneg (show 0<=D-145/1000000000 by grind) (show 0<=1-w-1/100000 by grind)
  grind
 obtain ⟨td1,td2,_⟩:=td
 constructor
 . have r:((aZ n:Nat):Rat)*ah<((aZ (n+1):Nat):Rat)*ah:=by
    clear b b' hDs hD hq he lo;generalize (aZ n:Rat)*ah=x at *
    generalize (aZ (n+1):Rat)*ah=y at *
    generalize zs n=s at *
    generalize zs (n+1)=t at *
    grind
   rcases Nat.lt_or_ge (aZ (n+1)) (aZ n) with g|g
   . have:=nX (Nat.le_of_lt g);exact absurd r (by grind)
   . exact g
 . clear b b' hDs hD hq he lo;generalize (aZ n:Rat)*ah=x at *
   generalize (aZ (n+1):Rat)*ah=y at *
   generalize zs n=s at *
   generalize zs (n+1)=t at *
   grind
theorem Oq (n:Nat) (h:n+1<=5340000) (h64:64<=n):kN (n+1)=kN n∨kN (n+1)=kN n+1:=by
 have m:=Hz n h h64;have u:=Jw n (by omega)
 have u':=Jw (n+1) h
 have mono:uN n<=uN (n+1):=by
  unfold uN aT;exact Nat.div_le_div (Nat.mul_le_mul_right _ (by omega)) (by omega) (by omega)
 have two:uN (n+1)<=2*uN n+1:=by
  have hq:=vY;have hd:=aM;have ru:=jr (QA+aZ n) (QA-aZ n) (by omega)
  rw [tL (Nat.le_of_lt u.2.2),ul,hq] at ru;have ru':=jr (QA+aZ (n+1)) (QA-aZ (n+1)) (by omega)
  rw [tL (Nat.le_of_lt u'.2.2),ul,hq] at ru'
  have s5:=nX (AO (n+1) h);rw [Rat.natCast_mul,Rat.natCast_mul,Rat.mul_assoc,Rat.mul_assoc,hq] at s5;have e1:((200000:Nat):Rat)=200000:=rfl;have e2:((199999:Nat):Rat)=199999:=rfl;rw [e1,e2] at s5;have r:=Rh ((aZ n:Rat)*ah) ((aZ (n+1):Rat)*ah) ((uN n:Rat)*ah) ((uN (n+1):Rat)*ah) ah hd iO (Rat.mul_nonneg (ax _) (by grind)) (Rat.mul_nonneg (ax _) (by grind)) (nX m.1) m.2 (by clear ru ru' hq m u u';grind) ru.2 ru'.1
  rcases Nat.lt_or_ge (2*uN n) (uN (n+1)) with g|g
  . have k:=bn _ _ (show 2*uN n+1<=uN (n+1) from g)
    rw [Rat.natCast_add,Rat.natCast_mul] at k;have e1:((1:Nat):Rat)=1:=rfl;have e2:((2:Nat):Rat)=2:=rfl;rw [e1,e2] at k;have k2:=Rat.mul_le_mul_of_nonneg_right k (show 0<=ah by grind)
    clear ru ru' hq m u u' s5 k;exfalso;grind
  . omega
 have a:=uR 200 _ _ mono;have b:=Hf 200 _ _ two;have e1:kN n=dm 200 (uN n):=rfl;have e2:kN (n+1)=dm 200 (uN (n+1)):=rfl;omega
def xN (n:Nat):Rat:=((gN (n+1):Rat)-(gN n:Rat))*ah
theorem Jd (X g g' l l' d:Rat) (hX:X=g'-g) (a1:-(500000000*d)<=g-l) (a2:g-l<=500000000*d) (b1:-(500000000*d)<=g'-l') (b2:g'-l'<=500000000*d):l'-l-1000000000*d<=X/\X<=l'-l+1000000000*d:=by constructor<;>grind
theorem Ew (n:Nat) (h:n+1<=5340000) (D:Rat) (hD:D*(1-zs n*zs (n+1))=zs (n+1)-zs n) (D0:0<=D) (D1:D<=1/100) (hk:kN (n+1)=kN n):D-20000000000*ah<=xN n/\(1-1*(D*D))*xN n<=D*(1+1*(D*D))+20000000000*ah:=by
 have b:=sc_bd n (by omega)
 have b':=sc_bd (n+1) h;have bb:=I5 n (by omega)
 have eb:bN (n+1)=bN n:=by unfold bN;rw [hk]
 have g:=vU n (by omega)
 have g':=vU (n+1) h;have xn:=Jd (xN n) ((gN n:Rat)*ah) ((gN (n+1):Rat)*ah) (lgN n) (lgN (n+1)) ah (by unfold xN;grind) g.1 g.2 g'.1 g'.2
 have i:=(zt n (by omega)).2.1
 have i':=(zt (n+1) h).2.1;have b0:0<=bN n:=Rat.le_trans (by decide) bb.1
 have mz:=qQ (bN n) (zs n) b0 b.2.2.1 (bU n).2;have my:=qQ (bN n) (zs (n+1)) b0 b'.2.2.1 (bU (n+1)).2;rw [eb] at i'
 have el:lgN (n+1)-lgN n=at' 96 (zq (bN n) (zs (n+1)))-at' 96 (zq (bN n) (zs n)):=by unfold lgN;rw [hk,eb];grind
 rw [el] at xn;have zd:=Um (bN n) (zs n) (zs (n+1)) D (zq (bN n) (zs n)) (zq (bN n) (zs (n+1))) (by have:=bb.1;grind) b.2.2.1 (by have:=b.2.2.2.1;grind) b'.2.2.1 (by have:=b'.2.2.2.1;grind) hD mz my
 have hd:=aM;have hd2:=xS;clear mz my el g g' b b' bb eb b0 hD;generalize zq (bN n) (zs n)=z at *
 generalize zq (bN n) (zs (n+1))=y at *
 have bz:=ak z y (1/4) (1/4) i.1 i.2 i'.1 i'.2
 have zy:z<=y:=by
  have:=Rat.mul_nonneg D0 (show 0<=1-z*y by grind)
  grind
 obtain ⟨s1,s2,_,_,_⟩:=wR z y D i.1 i'.2 zy zd;have lo:=LH (xN n) (at' 96 y-at' 96 z) D ah hd xn.1 (by grind)
 have hi:=Lx (xN n) (at' 96 y-at' 96 z) D ah hd xn.2 s2 D0 (by grind)
 exact ⟨by grind,by grind⟩
theorem Ae (n:Nat) (h:n+1<=5340000) (D:Rat) (hD:D*(1-zs n*zs (n+1))=zs (n+1)-zs n) (D0:1/10000000<=D) (D1:D<=1/100) (hk:kN (n+1)=kN n+1):(D-20000000000*ah<=xN n/\(1-4*(D*D))*xN n<=D*(1+4*(D*D))+20000000000*ah)/\18/100<=zs n:=by
 have b:=sc_bd n (by omega)
 have b':=sc_bd (n+1) h;have bb:=I5 n (by omega)
 have eb:bN (n+1)=2*bN n:=by
  unfold bN;rw [hk,Nat.pow_succ,Nat.mul_comm,Rat.natCast_mul];rfl
 have g:=vU n (by omega)
 have g':=vU (n+1) h;have xn:=Jd (xN n) ((gN n:Rat)*ah) ((gN (n+1):Rat)*ah) (lgN n) (lgN (n+1)) ah (by unfold xN;grind) g.1 g.2 g'.1 g'.2
 have i:=zt n (by omega)
 have i':=zt (n+1) h;have b0:0<bN n:=by have:=bb.1;grind
 have mz:=qQ (bN n) (zs n) (by grind) b.2.2.1 (bU n).2
 have my:=qQ (2*bN n) (zs (n+1)) (by grind) b'.2.2.1 (bU (n+1)).2
 rw [eb] at i'
 have ek:((kN (n+1):Nat):Rat)=((kN n:Nat):Rat)+1:=by rw [hk,Rat.natCast_add];rfl
 have el:lgN (n+1)-lgN n=a3r+at' 96 (zq (2*bN n) (zs (n+1)))-at' 96 (zq (bN n) (zs n)):=by unfold lgN;rw [ek,eb];grind
 rw [el] at xn;have s0:=b.2.2.1;have t0:=b'.2.2.1;have s1:zs n<1:=by have:=b.2.2.2.1;grind
 have t1:zs (n+1)<1:=by have:=b'.2.2.2.1;grind
 have zdf:=Dl n h;have hd:=aM;have hd2:=xS;have td:=Bi.2.2.2;have tc:=zP;have b1:=bb.1;clear el g g' b b' bb eb ek;generalize zq (bN n) (zs n)=z at *
 generalize zq (2*bN n) (zs (n+1))=y at *
 generalize zs n=s at *
 generalize zs (n+1)=t at *
 generalize bN n=bq at *
 have wp:=Rat.mul_pos b0 (show 0<1-s by grind)
 have wr:=Rat.mul_pos b0 (show 0<1-t by grind)
 have h1:(3*(bq*(1-s))-2*(1+s))/(3*(bq*(1-s))+2*(1+s))*(3*(bq*(1-s))+2*(1+s))=3*(bq*(1-s))-2*(1+s):=Rat.div_mul_cancel (by grind)
 have h2:(2*(1+t)-3*(bq*(1-t)))/(2*(1+t)+3*(bq*(1-t)))*(2*(1+t)+3*(bq*(1-t)))=2*(1+t)-3*(bq*(1-t)):=Rat.div_mul_cancel (by grind)
 generalize (3*(bq*(1-s))-2*(1+s))/(3*(bq*(1-s))+2*(1+s))=d1 at h1;generalize (2*(1+t)-3*(bq*(1-t)))/(2*(1+t)+3*(bq*(1-t)))=d2 at h2;obtain ⟨x1,x2,x3⟩:=Ui bq s t D z y d1 d2 b0 s0 s1 t0 t1 hD mz my h1 h2
 have big:18/100<=s:=by
  have k:=Rat.mul_nonneg (show 0<=y+3/20 by grind) (show 0<=(1+t)+2*bq*(1-t) by grind)
  have k2:=Rat.mul_nonneg (show 0<=bq-1 by grind) (show 0<=1-t by grind)
  grind
 refine ⟨?_,big⟩;clear mz my h1 h2 wp wr hD;have e0:0<=300000000*ah:=by grind
 have e1:300000000*ah<=1/100:=by grind
 obtain ⟨p1,p2,p3,p4⟩:=Iw z (1/5) d1 (300000000*ah) i.2.1.1 i.2.1.2 (by decide +kernel) (by decide +kernel) e0 e1 (by grind) x1
 obtain ⟨q1,q2,q3,q4⟩:=Iw (-(1/7)) y d2 (300000000*ah) (by decide +kernel) (by decide +kernel) i'.2.1.1 i'.2.1.2 e0 e1 (by grind) x2
 rw [Js] at q1 q2;have c:=Fe D d1 d2 (at' 96 (1/5)-at' 96 z) (at' 96 y - -at' 96 (1/7)) (xN n) (a3r-at' 96 (1/5)-at' 96 (1/7)) (300000000*ah) ah (by grind) D1 e0 (by grind) rfl hd x3 p3 q3 p4 q4 (by grind) p2 (by grind) q2 tc.1 tc.2 (by grind) (by grind)
 exact c
