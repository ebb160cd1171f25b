/- Plain numbers: all steps up to 89 degrees; meridional parts ascend. -/
import Derived.Test.YtcfpmdndgbpfpaaZRhI
set_option linter.unusedVariables false
set_option linter.unusedSimpArgs false
namespace Alm
theorem IY (n:Nat) (h:n+1<=5340000) (h64:64<=n):aj+pp*pp*pp<=xN n*zc n/\xN n*zc (n+1)<=aj-pp*pp*pp:=by
 obtain ⟨e,q,D,he,hq,hD,pq,q1,sq,e0,hDs,hc2,lo1,lo2,lo3⟩:=Gu n h h64;have b:=sc_bd n (by omega)
 have b':=sc_bd (n+1) h;have ls:=(bU n).2;have td:=Bi.2.2.1;have hp:=yA;have th:=LZ;have u:=vZ;have hd:=aM;have p0:0<pp:=by clear td;grind
 have q0:0<q:=by clear td;grind
 have D0:1/10000000<=D:=by clear td;grind
 have D1:D<=1/100:=by clear td;grind
 have main:D-20000000000*ah<=xN n/\∃ m:Rat,1<=m/\m<=5/\(8*m+3)*q<=zs n/\(1-m*(D*D))*xN n<=D*(1+m*(D*D))+20000000000*ah:=by
  rcases Oq n h h64 with k|k
  . have s:=Ew n h D hDs (by grind) D1 k
    exact ⟨s.1,1,by decide,by decide,by grind,s.2⟩
  . have s:=Ae n h D hDs D0 D1 k;exact ⟨s.1.1,4,by decide,by decide,by have:=s.2;grind,s.1.2⟩
 obtain ⟨X1,m,m1,m5,ms,X2⟩:=main;have r0:0<=20000000000*ah:=by grind
 have ppp:pp*pp*pp<=4*(pp*(q*q)):=by
  have a3:=Rat.mul_nonneg (show 0<=pp by grind) (Rat.mul_nonneg (show 0<=q-pp by grind) (show 0<=q+pp by grind))
  have a4:=Rat.mul_nonneg (show 0<=pp by grind) (aA q)
  generalize pp=p at *
  grind
 have X0:0<=xN n:=by
  have p3:pp*pp*pp<=1/100000000000000:=by unfold pp;decide +kernel
  grind
 refine ⟨Pp (xN n) (zc n) D pp q (20000000000*ah) aj X1 lo1 (by grind) b.2.1 th.1 p0 pq r0 td,Ps (xN n*zc (n+1)) pp q aj ?_ th.2 p0 pq⟩
 exact Ki m (zs n) (zc (n+1)) pp c1 e q D (xN n) (20000000000*ah) m1 m5 b.2.2.1 ls hq q0 q1 p0 hc2 u.2.1 (by grind) b'.2.1 (by grind) ms (by grind) lo3 r0 (Rat.le_trans td ppp) X2 X0
def hh1:Rat:=1-c1
def sg1:Rat:=s1*(1-1/1000000000)
theorem I9:0<=hh1/\hh1*4096<=1/2000000000/\s1*(1-1/2000000000)-hh1*(64*s1)>=sg1/\0<=sg1/\sg1<=1/1000000/\0<=s1:=by unfold hh1 sg1 c1 c1n s1 s1n dd;refine ⟨?_,?_,?_,?_,?_,?_⟩<;>decide +kernel
theorem xU (n:Nat) (h:n<=64):zs n<=n*s1/\1-n*n*hh1<=zc n/\n*sg1<=zs n:=by
 induction n with
 | zero=>rw [dA,dQ];have e:((0:Nat):Rat)=0:=rfl;rw [e];grind
 | succ n ih =>
  obtain ⟨i1,i2,i3⟩:=ih (by omega)
  have hn:=I9;have u:=yU;have e:((n+1:Nat):Rat)=(n:Rat)+1:=by norm_cast
  have n64:=bn n 64 (by omega)
  have e64:((64:Nat):Rat)=64:=rfl;rw [e64] at n64;have n0:=ax n;have lc:=fq n;have ec:c1=1-hh1:=by unfold hh1;grind
  rw [e,bH,bM];rw [ec] at u ⊢
  generalize (n:Rat)=N at *
  generalize zs n=s at *
  generalize zc n=c at *
  generalize hh1=H at *
  generalize s1=r at *
  generalize sg1=g at *
  clear e ec h ih;obtain ⟨h0,h4096,hg,g0,g1,r0⟩:=hn;have N2:=ak N N 64 64 (by grind) n64 (by grind) n64
  have NH:=Rat.mul_nonneg (show 0<=4096-N*N by grind) h0
  have s0:0<=s:=by have:=Rat.mul_nonneg n0 g0;grind
  refine ⟨?_,?_,?_⟩
  . have a:=Rat.mul_nonneg s0 h0;have b:=Rat.mul_nonneg (show 0<=1-c by grind) r0
    grind
  ·
   have H1:H<=1:=by grind
   have a:=Rat.mul_nonneg (show 0<=c-(1-N*N*H) by grind) (show 0<=1-H by grind)
   have b:=Rat.mul_nonneg (show 0<=N*r-s by grind) r0
   have k:=Rat.mul_nonneg (Rat.mul_nonneg n0 n0) (aA H);have k2:=Rat.mul_nonneg n0 (aA H)
   have rr:N*(r*r)=N*(2*H-H*H):=by have:r*r=2*H-H*H:=by grind
                                   rw [this]
   grind
  . have a:=Rat.mul_nonneg (show 0<=c-(1-1/2000000000) by grind) r0
    have b:=Rat.mul_nonneg (show 0<=64*r-s by
     have:=Rat.mul_nonneg (show 0<=64-N by grind) r0;grind) h0
    grind
theorem Hg (n:Nat) (h:n<=64):zc n<=1-(n*sg1)*(n*sg1)*(1/2):=by
 have f:=xU n h;have hn:=I9;have u:=iR n;have n64:=bn n 64 h;have e64:((64:Nat):Rat)=64:=rfl;rw [e64] at n64;have n0:=ax n;have x0:=Rat.mul_nonneg n0 hn.2.2.2.1;have ls:=bU n
 have cp:0<zc n:=by
  have N2:=ak (n:Rat) (n:Rat) 64 64 (by grind) n64 (by grind) n64
  have NH:=Rat.mul_nonneg (show 0<=4096-(n:Rat)*(n:Rat) by grind) hn.1
  grind
 obtain ⟨_,_,f3⟩:=f;clear hn n64 e64 n0;generalize (n:Rat)*sg1=x at *
 generalize zs n=s at *
 generalize zc n=c at *
 have ss:=aA s;have s4:=aA (s*s);have xs:=Rat.mul_nonneg (show 0<=s-x by grind) (show 0<=s+x by grind)
 have s2:=ak s s 1 1 ls.1 ls.2 ls.1 ls.2;rcases Rat.le_total (a:=c) (b:=1-s*s*(1/2)) with g|g
 . grind
 . have:=Rat.mul_nonneg (show 0<=c-(1-s*s*(1/2)) by grind) (show 0<=c+(1-s*s*(1/2))-1 by grind)
   grind
def Qs (n:Nat):Bool:=decide (aj+pp*pp*pp<=xN n*(1-n*n*hh1))&&decide (xN n*(1-(((n+1:Nat):Rat)*sg1)*(((n+1:Nat):Rat)*sg1)*(1/2))<=aj-pp*pp*pp)&&decide (0<=xN n)
theorem IU:(List.range 64).all Qs=true:=by decide +kernel
theorem xI (n:Nat) (h:n+1<=5340000):aj+pp*pp*pp<=xN n*zc n/\xN n*zc (n+1)<=aj-pp*pp*pp/\0<=xN n:=by
 have hp:=yA;have p3:0<=pp*pp*pp:=by unfold pp;decide +kernel
 have t0:=ut.1
 by_cases h64:64<=n
 . have s:=IY n h h64;have b:=sc_bd n (by omega)
   refine ⟨s.1,s.2,?_⟩;rcases Rat.le_total (a:=0) (b:=xN n) with g|g
   . exact g
   . have:=Rat.mul_nonneg (show 0<=-(xN n) by grind) (show 0<=zc n by grind)
     grind
 . have c:=List.all_eq_true.1 IU n (List.mem_range.2 (by omega))
   unfold Qs at c;simp only [Bool.and_eq_true,decide_eq_true_eq] at c;obtain ⟨⟨c1',c2'⟩,c3'⟩:=c;have f:=(xU n (by omega)).2.1
   have g:=Hg (n+1) (by omega)
   refine ⟨?_,?_,c3'⟩
   . have:=Rat.mul_nonneg c3' (show 0<=zc n-(1-n*n*hh1) by grind)
     grind
   . have:=Rat.mul_nonneg c3' (show 0<=1-(((n+1:Nat):Rat)*sg1)*(((n+1:Nat):Rat)*sg1)*(1/2)-zc (n+1) by grind)
     grind
theorem OV {a b:Nat} (h:(a:Rat)<=(b:Rat)):a<=b:=by exact_mod_cast h
theorem RN (a b P d t q:Rat) (x:t+q<=(b-a)*d) (hp:P*d-t*10800000<=d) (p3:d<=10800000*q):(a*10800000+P)*d<=b*10800000*d:=by grind
theorem Ul:ah<=10800000*(pp*pp*pp):=by unfold ah pp;decide +kernel
theorem Un (n:Nat) (h:n+1<=5340000):aj+pp*pp*pp<=xN n:=by
 have s:=xI n h;have lc:=(fq n).2;generalize xN n=x at *
 generalize zc n=c at *
 have:=Rat.mul_nonneg s.2.2 (show 0<=1-c by grind)
 grind
theorem Lu (n:Nat) (h:n+1<=5340000):gN n*10800000+PiA<=gN (n+1)*10800000:=by
 apply OV;rw [Rat.natCast_add,Rat.natCast_mul,Rat.natCast_mul];exact Rat.le_of_mul_le_mul_right (c:=ah) (RN _ _ _ _ _ _ (Un n h) gQ.2 Ul) aM
theorem Kn (n:Nat) (h:n+1<=5340000):wpN n+1<=wpN (n+1):=by
 have a:=(jO n (by omega)).2.2.1
 have b:=(jO (n+1) h).2.2.1;have s:=Lu n h;rw [a,b];have p:0<PiA:=by unfold PiA;decide +kernel
 have:=Nat.div_le_div_right (c:=PiA) s;rw [Nat.add_div_right _ p] at this;exact this
theorem BG (m:Nat):∀ n,n+m<=5340000->wpN n+m<=wpN (n+m):=by
 induction m with
 | zero =>
  intro n _;rw [Nat.add_zero,Nat.add_zero];exact Nat.le_refl _
 | succ m ih =>
  intro n h;have a:=ih n (by omega)
  have b:=Kn (n+m) (by omega)
  rw [show n+(m+1)=n+m+1 by omega]
  omega
