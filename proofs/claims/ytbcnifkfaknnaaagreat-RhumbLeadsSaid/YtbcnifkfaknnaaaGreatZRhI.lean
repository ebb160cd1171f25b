/- Plain numbers: steps of the program's meridional parts. -/
import Derived.Test.YtbcnifkfaknnaaaGreatZRhE
set_option linter.unusedVariables false
set_option linter.unusedSimpArgs false
namespace Alm
theorem EG:440*ak<=1/1000000000000000/\220*ak<=1/1000000000000000/\20000000000*ak<=pp*pp*pp/\30000000000*ak<=1/1000000000000000:=by unfold ak pp;refine ⟨?_,?_,?_,?_⟩<;>decide +kernel
theorem Kt (n:Nat) (h:n+1<=5340000) (h64:64<=n):bL n<=bL (n+1)/\(bL (n+1):Rat)*ak<=(bL n:Rat)*ak+1/2000000:=by
 obtain ⟨e,q,D,he,hq,hD,pq,q1,sq,e0,hDs,_,lo⟩:=Mt n h h64;have b:=sc_bd n (by omega)
 have b':=sc_bd (n+1) h;have zd:=GA n h;have a1:=(pK n (by omega)).2
 have a2:=(pK (n+1) h).2;have t1:=AQ n (by omega)
 have t2:=AQ (n+1) h;rw [<-a1,Rat.intCast_natCast] at t1;rw [<-a2,Rat.intCast_natCast] at t2;have td:=EG;have hp:=Bz
 have up:2/1000000000000000<=zs (n+1)-zs n:=by
  rw [<-hDs];have k1:=Rat.mul_nonneg b.2.2.1 (show 0<=1-zs (n+1) by have:=(dL (n+1)).2;grind)
  have b4:=b.2.2.2.1;have w1:zs n*zs (n+1)<=zs n:=by clear t1 t2 a1 a2 zd b b' hDs td hD hq he lo hp;grind
  clear t1 t2 a1 a2 zd b b' hDs td hD hq he;generalize zs n*zs (n+1)=w at *
  generalize zs n=s at *
  have k2:=Rat.mul_nonneg (show 0<=D-145/1000000000 by grind) (show 0<=1-w-1/100000 by grind)
  grind
 obtain ⟨td1,td2,_⟩:=td
 constructor
 . have r:((bL n:Nat):Rat)*ak<((bL (n+1):Nat):Rat)*ak:=by
    clear b b' hDs hD hq he lo;generalize (bL n:Rat)*ak=x at *
    generalize (bL (n+1):Rat)*ak=y at *
    generalize zs n=s at *
    generalize zs (n+1)=t at *
    grind
   rcases Nat.lt_or_ge (bL (n+1)) (bL n) with g|g
   . have:=tJ (Nat.le_of_lt g);exact absurd r (by grind)
   . exact g
 . clear b b' hDs hD hq he lo;generalize (bL n:Rat)*ak=x at *
   generalize (bL (n+1):Rat)*ak=y at *
   generalize zs n=s at *
   generalize zs (n+1)=t at *
   grind
theorem SN (n:Nat) (h:n+1<=5340000) (h64:64<=n):kN (n+1)=kN n∨kN (n+1)=kN n+1:=by
 have m:=Kt n h h64;have u:=Ky n (by omega)
 have u':=Ky (n+1) h
 have mono:uN n<=uN (n+1):=by
  unfold uN bD;exact Nat.div_le_div (Nat.mul_le_mul_right _ (by omega)) (by omega) (by omega)
 have two:uN (n+1)<=2*uN n+1:=by
  have hq:=zF;have hd:=bn;have ru:=kX (QA+bL n) (QA-bL n) (by omega)
  rw [yS (Nat.le_of_lt u.2.2),xV,hq] at ru;have ru':=kX (QA+bL (n+1)) (QA-bL (n+1)) (by omega)
  rw [yS (Nat.le_of_lt u'.2.2),xV,hq] at ru'
  have s5:=tJ (FE (n+1) h);rw [Rat.natCast_mul,Rat.natCast_mul,Rat.mul_assoc,Rat.mul_assoc,hq] at s5;have e1:((200000:Nat):Rat)=200000:=rfl;have e2:((199999:Nat):Rat)=199999:=rfl;rw [e1,e2] at s5;have r:=Y6 ((bL n:Rat)*ak) ((bL (n+1):Rat)*ak) ((uN n:Rat)*ak) ((uN (n+1):Rat)*ak) ak hd ko (Rat.mul_nonneg (aF _) (by grind)) (Rat.mul_nonneg (aF _) (by grind)) (tJ m.1) m.2 (by clear ru ru' hq m u u';grind) ru.2 ru'.1
  rcases Nat.lt_or_ge (2*uN n) (uN (n+1)) with g|g
  . have k:=bS _ _ (show 2*uN n+1<=uN (n+1) from g)
    rw [Rat.natCast_add,Rat.natCast_mul] at k;have e1:((1:Nat):Rat)=1:=rfl;have e2:((2:Nat):Rat)=2:=rfl;rw [e1,e2] at k;have k2:=Rat.mul_le_mul_of_nonneg_right k (show 0<=ak by grind)
    clear ru ru' hq m u u' s5 k;exfalso;grind
  . omega
 have a:=yN 200 _ _ mono;have b:=Od 200 _ _ two;have e1:kN n=eG 200 (uN n):=rfl;have e2:kN (n+1)=eG 200 (uN (n+1)):=rfl;omega
def xN (n:Nat):Rat:=((gN (n+1):Rat)-(gN n:Rat))*ak
theorem Ld (X g g' l l' d:Rat) (hX:X=g'-g) (a1:-(500000000*d)<=g-l) (a2:g-l<=500000000*d) (b1:-(500000000*d)<=g'-l') (b2:g'-l'<=500000000*d):l'-l-1000000000*d<=X/\X<=l'-l+1000000000*d:=by constructor<;>grind
theorem Ir (n:Nat) (h:n+1<=5340000) (D:Rat) (hD:D*(1-zs n*zs (n+1))=zs (n+1)-zs n) (D0:0<=D) (D1:D<=1/100) (hk:kN (n+1)=kN n):D-20000000000*ak<=xN n/\(1-1*(D*D))*xN n<=D*(1+1*(D*D))+20000000000*ak:=by
 have b:=sc_bd n (by omega)
 have b':=sc_bd (n+1) h;have bb:=NP n (by omega)
 have eb:bN (n+1)=bN n:=by unfold bN;rw [hk]
 have g:=zZ n (by omega)
 have g':=zZ (n+1) h;have xn:=Ld (xN n) ((gN n:Rat)*ak) ((gN (n+1):Rat)*ak) (lgN n) (lgN (n+1)) ak (by unfold xN;grind) g.1 g.2 g'.1 g'.2
 have i:=(CJ n (by omega)).2.1
 have i':=(CJ (n+1) h).2.1;have b0:0<=bN n:=Rat.le_trans (by decide) bb.1
 have mz:=uU (bN n) (zs n) b0 b.2.2.1 (dL n).2;have my:=uU (bN n) (zs (n+1)) b0 b'.2.2.1 (dL (n+1)).2;rw [eb] at i'
 have el:lgN (n+1)-lgN n=at' 96 (zq (bN n) (zs (n+1)))-at' 96 (zq (bN n) (zs n)):=by unfold lgN;rw [hk,eb];grind
 rw [el] at xn;have zd:=ZG (bN n) (zs n) (zs (n+1)) D (zq (bN n) (zs n)) (zq (bN n) (zs (n+1))) (by have:=bb.1;grind) b.2.2.1 (by have:=b.2.2.2.1;grind) b'.2.2.1 (by have:=b'.2.2.2.1;grind) hD mz my
 have hd:=bn;have hd2:=Dy;clear mz my el g g' b b' bb eb b0 hD;generalize zq (bN n) (zs n)=z at *
 generalize zq (bN n) (zs (n+1))=y at *
 have bz:=aB z y (1/4) (1/4) i.1 i.2 i'.1 i'.2
 have zy:z<=y:=by
  have:=Rat.mul_nonneg D0 (show 0<=1-z*y by grind)
  grind
 obtain ⟨s1,s2,_,_,_⟩:=AP z y D i.1 i'.2 zy zd;have lo:=OA (xN n) (at' 96 y-at' 96 z) D ak hd xn.1 (by grind)
 have hi:=PU (xN n) (at' 96 y-at' 96 z) D ak hd xn.2 s2 D0 (by grind)
 exact ⟨by grind,by grind⟩
theorem Eb (n:Nat) (h:n+1<=5340000) (D:Rat) (hD:D*(1-zs n*zs (n+1))=zs (n+1)-zs n) (D0:1/10000000<=D) (D1:D<=1/100) (hk:kN (n+1)=kN n+1):(D-20000000000*ak<=xN n/\(1-4*(D*D))*xN n<=D*(1+4*(D*D))+20000000000*ak)/\18/100<=zs n:=by
 have b:=sc_bd n (by omega)
 have b':=sc_bd (n+1) h;have bb:=NP n (by omega)
 have eb:bN (n+1)=2*bN n:=by
  unfold bN;rw [hk,Nat.pow_succ,Nat.mul_comm,Rat.natCast_mul];rfl
 have g:=zZ n (by omega)
 have g':=zZ (n+1) h;have xn:=Ld (xN n) ((gN n:Rat)*ak) ((gN (n+1):Rat)*ak) (lgN n) (lgN (n+1)) ak (by unfold xN;grind) g.1 g.2 g'.1 g'.2
 have i:=CJ n (by omega)
 have i':=CJ (n+1) h;have b0:0<bN n:=by have:=bb.1;grind
 have mz:=uU (bN n) (zs n) (by grind) b.2.2.1 (dL n).2
 have my:=uU (2*bN n) (zs (n+1)) (by grind) b'.2.2.1 (dL (n+1)).2
 rw [eb] at i'
 have ek:((kN (n+1):Nat):Rat)=((kN n:Nat):Rat)+1:=by rw [hk,Rat.natCast_add];rfl
 have el:lgN (n+1)-lgN n=a3r+at' 96 (zq (2*bN n) (zs (n+1)))-at' 96 (zq (bN n) (zs n)):=by unfold lgN;rw [ek,eb];grind
 rw [el] at xn;have s0:=b.2.2.1;have t0:=b'.2.2.1;have s1:zs n<1:=by have:=b.2.2.2.1;grind
 have t1:zs (n+1)<1:=by have:=b'.2.2.2.1;grind
 have zdf:=GA n h;have hd:=bn;have hd2:=Dy;have td:=EG.2.2.2;have tc:=DJ;have b1:=bb.1;clear el g g' b b' bb eb ek;generalize zq (bN n) (zs n)=z at *
 generalize zq (2*bN n) (zs (n+1))=y at *
 generalize zs n=s at *
 generalize zs (n+1)=t at *
 generalize bN n=bq at *
 have wp:=Rat.mul_pos b0 (show 0<1-s by grind)
 have wr:=Rat.mul_pos b0 (show 0<1-t by grind)
 have h1:(3*(bq*(1-s))-2*(1+s))/(3*(bq*(1-s))+2*(1+s))*(3*(bq*(1-s))+2*(1+s))=3*(bq*(1-s))-2*(1+s):=Rat.div_mul_cancel (by grind)
 have h2:(2*(1+t)-3*(bq*(1-t)))/(2*(1+t)+3*(bq*(1-t)))*(2*(1+t)+3*(bq*(1-t)))=2*(1+t)-3*(bq*(1-t)):=Rat.div_mul_cancel (by grind)
 generalize (3*(bq*(1-s))-2*(1+s))/(3*(bq*(1-s))+2*(1+s))=d1 at h1;generalize (2*(1+t)-3*(bq*(1-t)))/(2*(1+t)+3*(bq*(1-t)))=d2 at h2;obtain ⟨x1,x2,x3⟩:=ZV bq s t D z y d1 d2 b0 s0 s1 t0 t1 hD mz my h1 h2
 have big:18/100<=s:=by
  have k:=Rat.mul_nonneg (show 0<=y+3/20 by grind) (show 0<=(1+t)+2*bq*(1-t) by grind)
  have k2:=Rat.mul_nonneg (show 0<=bq-1 by grind) (show 0<=1-t by grind)
  grind
 refine ⟨?_,big⟩;clear mz my h1 h2 wp wr hD;have e0:0<=300000000*ak:=by grind
 have e1:300000000*ak<=1/100:=by grind
 obtain ⟨p1,p2,p3,p4⟩:=NC z (1/5) d1 (300000000*ak) i.2.1.1 i.2.1.2 (by decide +kernel) (by decide +kernel) e0 e1 (by grind) x1
 obtain ⟨q1,q2,q3,q4⟩:=NC (-(1/7)) y d2 (300000000*ak) (by decide +kernel) (by decide +kernel) i'.2.1.1 i'.2.1.2 e0 e1 (by grind) x2
 rw [L9] at q1 q2;have c:=Jt D d1 d2 (at' 96 (1/5)-at' 96 z) (at' 96 y - -at' 96 (1/7)) (xN n) (a3r-at' 96 (1/5)-at' 96 (1/7)) (300000000*ak) ak (by grind) D1 e0 (by grind) rfl hd x3 p3 q3 p4 q4 (by grind) p2 (by grind) q2 tc.1 tc.2 (by grind) (by grind)
 exact c
end Alm
namespace Alm
theorem MI (n:Nat) (h:n+1<=5340000) (h64:64<=n):au+pp*pp*pp<=xN n*zc n/\xN n*zc (n+1)<=au-pp*pp*pp:=by
 obtain ⟨e,q,D,he,hq,hD,pq,q1,sq,e0,hDs,hc2,lo1,lo2,lo3⟩:=Mt n h h64;have b:=sc_bd n (by omega)
 have b':=sc_bd (n+1) h;have ls:=(dL n).2;have td:=EG.2.2.1;have hp:=Bz;have th:=PX;have u:=Aw;have hd:=bn;have p0:0<pp:=by clear td;grind
 have q0:0<q:=by clear td;grind
 have D0:1/10000000<=D:=by clear td;grind
 have D1:D<=1/100:=by clear td;grind
 have main:D-20000000000*ak<=xN n/\∃ m:Rat,1<=m/\m<=5/\(8*m+3)*q<=zs n/\(1-m*(D*D))*xN n<=D*(1+m*(D*D))+20000000000*ak:=by
  rcases SN n h h64 with k|k
  . have s:=Ir n h D hDs (by grind) D1 k
    exact ⟨s.1,1,by decide,by decide,by grind,s.2⟩
  . have s:=Eb n h D hDs D0 D1 k;exact ⟨s.1.1,4,by decide,by decide,by have:=s.2;grind,s.1.2⟩
 obtain ⟨X1,m,m1,m5,ms,X2⟩:=main;have r0:0<=20000000000*ak:=by grind
 have ppp:pp*pp*pp<=4*(pp*(q*q)):=by
  have a3:=Rat.mul_nonneg (show 0<=pp by grind) (Rat.mul_nonneg (show 0<=q-pp by grind) (show 0<=q+pp by grind))
  have a4:=Rat.mul_nonneg (show 0<=pp by grind) (aH q)
  generalize pp=p at *
  grind
 have X0:0<=xN n:=by
  have p3:pp*pp*pp<=1/100000000000000:=by unfold pp;decide +kernel
  grind
 refine ⟨UY (xN n) (zc n) D pp q (20000000000*ak) au X1 lo1 (by grind) b.2.1 th.1 p0 pq r0 td,Tj (xN n*zc (n+1)) pp q au ?_ th.2 p0 pq⟩
 exact Q7 m (zs n) (zc (n+1)) pp c1 e q D (xN n) (20000000000*ak) m1 m5 b.2.2.1 ls hq q0 q1 p0 hc2 u.2.1 (by grind) b'.2.1 (by grind) ms (by grind) lo3 r0 (Rat.le_trans td ppp) X2 X0
def hh1:Rat:=1-c1
def sg1:Rat:=s1*(1-1/1000000000)
theorem Lp:0<=hh1/\hh1*4096<=1/2000000000/\s1*(1-1/2000000000)-hh1*(64*s1)>=sg1/\0<=sg1/\sg1<=1/1000000/\0<=s1:=by unfold hh1 sg1 c1 c1n s1 s1n dd;refine ⟨?_,?_,?_,?_,?_,?_⟩<;>decide +kernel
theorem Du (n:Nat) (h:n<=64):zs n<=n*s1/\1-n*n*hh1<=zc n/\n*sg1<=zs n:=by
 induction n with
 | zero=>rw [dP,fE];have e:((0:Nat):Rat)=0:=rfl;rw [e];grind
 | succ n ih =>
  obtain ⟨i1,i2,i3⟩:=ih (by omega)
  have hn:=Lp;have u:=Cg;have e:((n+1:Nat):Rat)=(n:Rat)+1:=by norm_cast
  have n64:=bS n 64 (by omega)
  have e64:((64:Nat):Rat)=64:=rfl;rw [e64] at n64;have n0:=aF n;have lc:=gB n;have ec:c1=1-hh1:=by unfold hh1;grind
  rw [e,bZ,bX];rw [ec] at u ⊢
  generalize (n:Rat)=N at *
  generalize zs n=s at *
  generalize zc n=c at *
  generalize hh1=H at *
  generalize s1=r at *
  generalize sg1=g at *
  clear e ec h ih;obtain ⟨h0,h4096,hg,g0,g1,r0⟩:=hn;have N2:=aB N N 64 64 (by grind) n64 (by grind) n64
  have NH:=Rat.mul_nonneg (show 0<=4096-N*N by grind) h0
  have s0:0<=s:=by have:=Rat.mul_nonneg n0 g0;grind
  refine ⟨?_,?_,?_⟩
  . have a:=Rat.mul_nonneg s0 h0;have b:=Rat.mul_nonneg (show 0<=1-c by grind) r0
    grind
  ·
   have H1:H<=1:=by grind
   have a:=Rat.mul_nonneg (show 0<=c-(1-N*N*H) by grind) (show 0<=1-H by grind)
   have b:=Rat.mul_nonneg (show 0<=N*r-s by grind) r0
   have k:=Rat.mul_nonneg (Rat.mul_nonneg n0 n0) (aH H);have k2:=Rat.mul_nonneg n0 (aH H)
   have rr:N*(r*r)=N*(2*H-H*H):=by have:r*r=2*H-H*H:=by grind
                                   rw [this]
   grind
  . have a:=Rat.mul_nonneg (show 0<=c-(1-1/2000000000) by grind) r0
    have b:=Rat.mul_nonneg (show 0<=64*r-s by
     have:=Rat.mul_nonneg (show 0<=64-N by grind) r0;grind) h0
    grind
theorem NB (n:Nat) (h:n<=64):zc n<=1-(n*sg1)*(n*sg1)*(1/2):=by
 have f:=Du n h;have hn:=Lp;have u:=jk n;have n64:=bS n 64 h;have e64:((64:Nat):Rat)=64:=rfl;rw [e64] at n64;have n0:=aF n;have x0:=Rat.mul_nonneg n0 hn.2.2.2.1;have ls:=dL n
 have cp:0<zc n:=by
  have N2:=aB (n:Rat) (n:Rat) 64 64 (by grind) n64 (by grind) n64
  have NH:=Rat.mul_nonneg (show 0<=4096-(n:Rat)*(n:Rat) by grind) hn.1
  grind
 obtain ⟨_,_,f3⟩:=f;clear hn n64 e64 n0;generalize (n:Rat)*sg1=x at *
 generalize zs n=s at *
 generalize zc n=c at *
 have ss:=aH s;have s4:=aH (s*s);have xs:=Rat.mul_nonneg (show 0<=s-x by grind) (show 0<=s+x by grind)
 have s2:=aB s s 1 1 ls.1 ls.2 ls.1 ls.2;rcases Rat.le_total (a:=c) (b:=1-s*s*(1/2)) with g|g
 . grind
 . have:=Rat.mul_nonneg (show 0<=c-(1-s*s*(1/2)) by grind) (show 0<=c+(1-s*s*(1/2))-1 by grind)
   grind
def VZ (n:Nat):Bool:=decide (au+pp*pp*pp<=xN n*(1-n*n*hh1))&&decide (xN n*(1-(((n+1:Nat):Rat)*sg1)*(((n+1:Nat):Rat)*sg1)*(1/2))<=au-pp*pp*pp)&&decide (0<=xN n)
theorem Ni:(List.range 64).all VZ=true:=by decide +kernel
theorem Cr (n:Nat) (h:n+1<=5340000):au+pp*pp*pp<=xN n*zc n/\xN n*zc (n+1)<=au-pp*pp*pp/\0<=xN n:=by
 have hp:=Bz;have p3:0<=pp*pp*pp:=by unfold pp;decide +kernel
 have t0:=yg.1
 by_cases h64:64<=n
 . have s:=MI n h h64;have b:=sc_bd n (by omega)
   refine ⟨s.1,s.2,?_⟩;rcases Rat.le_total (a:=0) (b:=xN n) with g|g
   . exact g
   . have:=Rat.mul_nonneg (show 0<=-(xN n) by grind) (show 0<=zc n by grind)
     grind
 . have c:=List.all_eq_true.1 Ni n (List.mem_range.2 (by omega))
   unfold VZ at c;simp only [Bool.and_eq_true,decide_eq_true_eq] at c;obtain ⟨⟨c1',c2'⟩,c3'⟩:=c;have f:=(Du n (by omega)).2.1
   have g:=NB (n+1) (by omega)
   refine ⟨?_,?_,c3'⟩
   . have:=Rat.mul_nonneg c3' (show 0<=zc n-(1-n*n*hh1) by grind)
     grind
   . have:=Rat.mul_nonneg c3' (show 0<=1-(((n+1:Nat):Rat)*sg1)*(((n+1:Nat):Rat)*sg1)*(1/2)-zc (n+1) by grind)
     grind
theorem Sv {a b:Nat} (h:(a:Rat)<=(b:Rat)):a<=b:=by exact_mod_cast h
theorem XV (a b P d t q:Rat) (x:t+q<=(b-a)*d) (hp:P*d-t*10800000<=d) (p3:d<=10800000*q):(a*10800000+P)*d<=b*10800000*d:=by grind
theorem ZO:ak<=10800000*(pp*pp*pp):=by unfold ak pp;decide +kernel
theorem Zo (n:Nat) (h:n+1<=5340000):au+pp*pp*pp<=xN n:=by
 have s:=Cr n h;have lc:=(gB n).2;generalize xN n=x at *
 generalize zc n=c at *
 have:=Rat.mul_nonneg s.2.2 (show 0<=1-c by grind)
 grind
theorem OQ (n:Nat) (h:n+1<=5340000):gN n*10800000+PiA<=gN (n+1)*10800000:=by
 apply Sv;rw [Rat.natCast_add,Rat.natCast_mul,Rat.natCast_mul];exact Rat.le_of_mul_le_mul_right (c:=ak) (XV _ _ _ _ _ _ (Zo n h) jB.2 ZO) bn
theorem Qu (n:Nat) (h:n+1<=5340000):wpN n+1<=wpN (n+1):=by
 have a:=(lY n (by omega)).2.2.1
 have b:=(lY (n+1) h).2.2.1;have s:=OQ n h;rw [a,b];have p:0<PiA:=by unfold PiA;decide +kernel
 have:=Nat.div_le_div_right (c:=PiA) s;rw [Nat.add_div_right _ p] at this;exact this
theorem GZ (m:Nat):∀ n,n+m<=5340000->wpN n+m<=wpN (n+m):=by
 induction m with
 | zero =>
  intro n _;rw [Nat.add_zero,Nat.add_zero];exact Nat.le_refl _
 | succ m ih =>
  intro n h;have a:=ih n (by omega)
  have b:=Qu (n+m) (by omega)
  rw [show n+(m+1)=n+m+1 by omega]
  omega
