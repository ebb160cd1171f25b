/- Plain numbers: no point of small coordinates lies near the ray of an angle. -/
import Derived.Test.YtbcnifkfaknnaaaGreatZCfB1
import Derived.Test.YtbcnifkfaknnaaaGreatZTrigs
import Derived.Test.YtbcnifkfaknnaaaGreatZArcHi
set_option linter.unusedVariables false
set_option linter.unusedSimpArgs false
namespace Alm
def bG:Rat:=1/((2^160:Int):Rat)
theorem R6:(iI:Rat)*bG=1:=by unfold iI bG;decide +kernel
theorem jC:0<bG:=by unfold bG;decide +kernel
theorem nT:bG<=1/1000000000000000000:=by unfold bG;decide +kernel
theorem vF:-bG<=(qc1:Rat)*bG-c1/\(qc1:Rat)*bG-c1<=bG:=by
 unfold bG c1 qc1 c1n dd tp;constructor<;>decide +kernel
theorem vW:-bG<=(qs1:Rat)*bG-s1/\(qs1:Rat)*bG-s1<=bG:=by
 unfold bG s1 qs1 s1n dd tp;constructor<;>decide +kernel
theorem uj:0<s1/\s1<=3/10000000:=by unfold s1 s1n dd tp;constructor<;>decide +kernel
theorem FC:99/100<=c1:=by unfold c1 c1n dd tp;decide +kernel
def xI (c s:Nat) (n:Nat) (e:Rat):Prop :=
 (-e<=(c:Rat)*bG-zc n/\(c:Rat)*bG-zc n<=e)/\(-e<=(s:Rat)*bG-zs n/\(s:Rat)*bG-zs n<=e)
theorem wP (X:Nat):((X/iI:Nat):Rat)*bG<=X*(bG*bG)/\X*(bG*bG)<=((X/iI:Nat):Rat)*bG+bG:=by
 have hF:0<iI:=by decide +kernel
 have h1:=Nat.div_mul_le_self X iI;have h2:=Nat.lt_div_mul_add (a:=X) hF;have g1:=bS _ _ h1;have g2:=bS _ _ (Nat.le_of_lt h2);rw [Rat.natCast_mul] at g1;rw [Rat.natCast_add,Rat.natCast_mul] at g2;have he:=R6;have hp:=jC;have hpp:0<=bG*bG:=aH _;generalize ((X/iI:Nat):Rat)=q at *
 generalize (iI:Rat)=F at *
 have k1:=Rat.mul_le_mul_of_nonneg_right g1 hpp;have k2:=Rat.mul_le_mul_of_nonneg_right g2 hpp;have e1:q*F*(bG*bG)=q*bG*(F*bG):=by grind
 have e2:(q*F+F)*(bG*bG)=(q*bG+bG)*(F*bG):=by grind
 rw [e1,he] at k1;rw [e2,he] at k2
 constructor<;>grind
theorem OX (a b c d:Nat) (A B C D:Rat) (h1:(a:Rat)*bG<=A) (h2:(b:Rat)*bG<=B) (h3:C<=(c:Rat)*bG) (h4:D<=(d:Rat)*bG) (hC:0<=C) (hD:0<=D) (h:A*B<=C*D):a*b<=c*d:=by
 have hp:=jC;have ha:=aF a;have hb:=aF b;have pa:0<=(a:Rat)*bG:=Rat.mul_nonneg ha (Rat.le_of_lt hp);have pb:0<=(b:Rat)*bG:=Rat.mul_nonneg hb (Rat.le_of_lt hp);have k1:=Rat.mul_le_mul_of_nonneg_right h1 pb;have k2:=Rat.mul_le_mul_of_nonneg_left h2 (show 0<=A by grind)
 have k3:=Rat.mul_le_mul_of_nonneg_right h3 hD;have k4:=Rat.mul_le_mul_of_nonneg_left h4 (show 0<=(c:Rat)*bG by grind)
 have hle:((a*b:Nat):Rat)<=((c*d:Nat):Rat):=by
  rw [Rat.natCast_mul,Rat.natCast_mul];have hpp:(0:Rat)<bG*bG:=Rat.mul_pos hp hp;apply Rat.le_of_mul_le_mul_right (c:=bG*bG) _ hpp;generalize (a:Rat)=a at *
  generalize (b:Rat)=b at *
  generalize (c:Rat)=c at *
  generalize (d:Rat)=d at *
  generalize bG=e at *
  have e1:a*b*(e*e)=a*e*(b*e):=by grind
  have e2:c*d*(e*e)=c*e*(d*e):=by grind
  grind
 exact_mod_cast hle
theorem Z4 (cp sp:Nat) (n:Nat) (e:Rat) (he0:0<=e) (he:e<=1/100) (h:xI cp sp n e) (hsub:sp*qs1<=cp*qc1) :
 xI ((cp*qc1-sp*qs1)/iI) ((sp*qc1+cp*qs1)/iI) (n+1) (e*(1+s1)+6*bG):=by
 obtain ⟨⟨a1,a2⟩,⟨b1,b2⟩⟩:=h;have d1:=wP (cp*qc1-sp*qs1);have d2:=wP (sp*qc1+cp*qs1);rw [gZ _ _ hsub,Rat.natCast_mul,Rat.natCast_mul] at d1;rw [Rat.natCast_add,Rat.natCast_mul,Rat.natCast_mul] at d2;have za1:=bX n;have za2:=bZ n;have hC:=vF;have hS:=vW;have hep:=jC;have hes:=nT;have st:=uj;have zr:=LJ;have zr2:=FC;have zn:=gB n;have zn2:=dL n;unfold xI;rw [za1,za2];generalize (((cp*qc1-sp*qs1)/iI:Nat):Rat)=P1 at *
 generalize (((sp*qc1+cp*qs1)/iI:Nat):Rat)=P2 at *
 generalize (cp:Rat)=x at *
 generalize (sp:Rat)=y at *
 generalize (qc1:Rat)=c at *
 generalize (qs1:Rat)=s at *
 generalize zc n=u at *
 generalize zs n=v at *
 generalize c1=k at *
 generalize s1=l at *
 generalize bG=d at *
 have f1:(x*c-y*s)*(d*d)=(x*d)*(c*d)-(y*d)*(s*d):=by grind
 have f2:(y*c+x*s)*(d*d)=(y*d)*(c*d)+(x*d)*(s*d):=by grind
 rw [f1] at d1;rw [f2] at d2;obtain ⟨A,hA⟩:∃ A,A=x*d-u:=⟨_,rfl⟩;obtain ⟨B,hB⟩:∃ B,B=y*d-v:=⟨_,rfl⟩;obtain ⟨G,hG⟩:∃ G,G=c*d-k:=⟨_,rfl⟩;obtain ⟨H,hH⟩:∃ H,H=s*d-l:=⟨_,rfl⟩;rw [<-hA] at a1 a2;rw [<-hB] at b1 b2;rw [<-hG] at hC;rw [<-hH] at hS;have ex:x*d=u+A:=by grind
 have ey:y*d=v+B:=by grind
 have ec:c*d=k+G:=by grind
 have es:s*d=l+H:=by grind
 rw [ex,ey,ec,es] at d1 d2;clear hA hB hG hH ex ey ec es f1 f2;have t1:=aB A k e 1 a1 a2 (by grind) (by grind)
 have t2:=aB B l e l b1 b2 (by grind) (by grind)
 have t3:=aB (u+A) G (101/100) d (by grind) (by grind) hC.1 hC.2
 have t4:=aB (v+B) H (101/100) d (by grind) (by grind) hS.1 hS.2
 have t5:=aB B k e 1 b1 b2 (by grind) (by grind)
 have t6:=aB A l e l a1 a2 (by grind) (by grind)
 have t7:=aB (v+B) G (101/100) d (by grind) (by grind) hC.1 hC.2
 have t8:=aB (u+A) H (101/100) d (by grind) (by grind) hS.1 hS.2
 refine ⟨⟨?_,?_⟩,⟨?_,?_⟩⟩<;>grind
def sF (t n:Nat):Prop:=xI (t%dJ) (t/dJ) n (11*n*bG)
theorem JA (t:Nat):stp t%dJ=((t%dJ)*qc1-(t/dJ)*qs1)/iI/\stp t/dJ=((t/dJ)*qc1+(t%dJ)*qs1)/iI:=by
 have h:((t%dJ)*qc1-(t/dJ)*qs1)/iI<dJ:=by
  have h1:t%dJ<dJ:=Nat.mod_lt _ (by decide +kernel)
  have h2:(t%dJ)*qc1<=(t%dJ)*iI:=Nat.mul_le_mul_left _ (by decide +kernel)
  have h3:((t%dJ)*qc1-(t/dJ)*qs1)/iI<=t%dJ:=by
   apply Nat.div_le_of_le_mul;rw [Nat.mul_comm iI];omega
  omega
 have hW:0<dJ:=by decide +kernel
 unfold stp;generalize ((t%dJ)*qc1-(t/dJ)*qs1)/iI=x at *
 generalize ((t/dJ)*qc1+(t%dJ)*qs1)/iI=y at *
 generalize dJ=W at *
 exact ⟨by rw [Nat.add_mul_mod_self_left,Nat.mod_eq_of_lt h],by rw [Nat.add_mul_div_left _ _ hW,Nat.div_eq_of_lt h,Nat.zero_add]⟩
theorem LC (t n:Nat) (hn:n<=1360000) (h:sF t n):sF (stp t) (n+1):=by
 have hp:=jC;have hs:=nT;have hc:=vF;have hs1:=vW;have b1:=uj;have b2:=FC;have zcn:=dG n (by omega)
 have zsn:=dL n;have hnn:(n:Rat)<=1360000:=by exact_mod_cast hn
 have hn0:=aF n;have he0:0<=11*(n:Rat)*bG:=Rat.mul_nonneg (by grind) (by grind)
 have he1:11*(n:Rat)*bG<=14960000*bG:=Rat.mul_le_mul_of_nonneg_right (by grind) (by grind)
 have hh:=h;unfold sF at h
 have g:=Z4 (t%dJ) (t/dJ) n (11*n*bG) he0 (by grind) h
  (by
   obtain ⟨⟨a1,a2⟩,⟨a3,a4⟩⟩:=h;apply OX (t/dJ) qs1 (t%dJ) qc1 2 (1/100) (1/10) (9/10)<;>grind)
 have hle:11*(n:Rat)*bG*(1+s1)+6*bG<=11*(n+1:Nat)*bG:=by
  have e1:((n+1:Nat):Rat)=(n:Rat)+1:=by norm_cast
  rw [e1];have m:=Rat.mul_le_mul_of_nonneg_left b1.2 he0;grind
 obtain ⟨p1,p2⟩:=JA t;unfold sF;rw [p1,p2];generalize 11*(n:Rat)*bG*(1+s1)+6*bG=E at *
 unfold xI at *
 obtain ⟨⟨a1,a2⟩,⟨a3,a4⟩⟩:=g;refine ⟨⟨?_,?_⟩,⟨?_,?_⟩⟩<;>grind
def T1:Nat:=2668606815930616794422295251795238276401961381301642649179619132477219630421654918950972168987929389
theorem QK:sF T1 1:=by
 have a:T1%dJ=qc1:=by decide +kernel
 have b:T1/dJ=qs1:=by decide +kernel
 unfold sF xI;rw [a,b,La,AV];have hc:=vF;have hs1:=vW;have hp:=jC;have e:((1:Nat):Rat)=1:=rfl;rw [e];refine ⟨⟨?_,?_⟩,⟨?_,?_⟩⟩<;>grind
theorem Bo:∀ j:Nat,j<=1359999->sF (FN j T1) (1+j)
 | 0,_=>QK
 | j+1,h=>by
  rw [Iu];have h2:=LC (FN j T1) (1+j) (by omega) (Bo j (by omega))
  rw [show 1+(j+1)=1+j+1 by omega]
  exact h2
theorem Kk:Walk 1351680 T1 3514879727201953102891235138955415353210249926988623055823917715107581327316116319700368899033249232865815:=iP (by decide +kernel) (ai (ai (ai YK Yf) WY) WW)
theorem PD:au*1351680<=2/5:=by unfold au;decide +kernel
theorem OL (m j:Nat) (y:Rat):hr (m+1) j y=1-y/(((j+1)*(j+2):Nat):Rat)*hr m (j+2) y:=by rw [hr]
theorem Vs (n:Nat) (h:n<=1351680):3/4<=zc n:=by
 obtain ⟨_,h2⟩:=near n (by omega)
 obtain ⟨_,y0,y1,_,_⟩:=mK n (by omega)
 have hb:=tu 33 2 _ y0 y1;have e:=GH n;have ht:=jF.1;have hn:(n:Rat)<=1351680:=by exact_mod_cast h
 have hx2:=Rat.mul_le_mul_of_nonneg_right hn (Rat.le_of_lt ht);have hx3:=PD;have hx:0<=(n:Rat)*au:=Rat.mul_nonneg (aF n) (Rat.le_of_lt ht);have k:=qZ;have q:=um _ ((0+1)*(0+2)) (by omega) y0 y1
 rw [OL 33 0] at e;have e2:(((0+1)*(0+2):Nat):Rat)=2:=rfl;rw [e2] at q e
 have hsq:((n*au)*(n*au))<=4/25:=by
  have:=aB ((n:Rat)*au) ((n:Rat)*au) (2/5) (2/5) (by grind) (by grind) (by grind) (by grind)
  grind
 clear hx2 hx3 hx hn;generalize (n:Rat)*au*((n:Rat)*au)=y at *
 generalize hr 33 2 y=H at *
 generalize y/2=z at *
 have m:=aB z H (2/25) 1 (by grind) (by grind) (by grind) (by grind)
 grind
def e61:Rat:=1/((2^61:Int):Rat)
theorem Nh:(1267650600228229401496703205376:Rat)*bG=2*e61:=by unfold e61 bG;decide +kernel
theorem e137:8589934592*(14960000*bG)<=e61:=by unfold e61 bG;decide +kernel
theorem N9 (n:Nat) (h0:1<=n) (h1:n<=1351680) (X Y:Int) (hn:¬ (X=0/\Y=0)) (hX:-4294967296<=X/\X<=4294967296) (hY:-4294967296<=Y/\Y<=4294967296) :
 e61<=(X:Rat)*zs n-Y*zc n∨(X:Rat)*zs n-Y*zc n<=-e61:=by
 obtain ⟨j,rfl⟩:∃ j,n=1+j:=⟨n-1,by omega⟩
 obtain ⟨g1,g2,g3⟩:=Kb Kk j (by omega)
 have hN:=Bo j (by omega)
 unfold sF at hN;generalize FN j T1%dJ=c at *
 generalize FN j T1/dJ=s at *
 obtain ⟨⟨a1,a2⟩,⟨b1,b2⟩⟩:=hN;have hp:=jC;have hes:=nT;have zcn:=dG (1+j) (by omega)
 have hjj:((1+j:Nat):Rat)<=1360000:=by exact_mod_cast (show 1+j<=1360000 by omega)
 have hE:11*((1+j:Nat):Rat)*bG<=14960000*bG:=Rat.mul_le_mul_of_nonneg_right (by grind) (by grind)
 have zc22:3/4<=zc (1+j):=Vs (1+j) (by omega)
 have hc:730750818665451459101842416358141509827966271488<=c:=by
  have q:(730750818665451459101842416358141509827966271488:Rat)*bG=1/2:=by unfold bG;decide +kernel
  have:((730750818665451459101842416358141509827966271488:Nat):Rat)<=(c:Rat):=by
   apply Rat.le_of_mul_le_mul_right (c:=bG) _ hp;have e:((730750818665451459101842416358141509827966271488:Nat):Rat)=730750818665451459101842416358141509827966271488:=rfl;rw [e,q];grind
  exact_mod_cast this
 have hr:=LF 200 (c-1) (s-1) (by omega) g3
 rw [show c-1+1=c by omega,show s-1+1=s by omega] at hr
 have hf:=ND c s hr hc X Y hn hX;have hXr:-(4294967296:Rat)<=(X:Rat)/\(X:Rat)<=4294967296:=⟨Rat.intCast_le_intCast.2 hX.1,Rat.intCast_le_intCast.2 hX.2⟩;have hYr:-(4294967296:Rat)<=(Y:Rat)/\(Y:Rat)<=4294967296:=⟨Rat.intCast_le_intCast.2 hY.1,Rat.intCast_le_intCast.2 hY.2⟩;have q1:=Nh;have q2:=e137;have m1:=aB (X:Rat) ((s:Rat)*bG-zs (1+j)) 4294967296 (14960000*bG) hXr.1 hXr.2 (by grind) (by grind)
 have m2:=aB (Y:Rat) ((c:Rat)*bG-zc (1+j)) 4294967296 (14960000*bG) hYr.1 hYr.2 (by grind) (by grind)
 have hf':(1267650600228229401496703205376:Rat)<=(X:Rat)*s-Y*c∨(X:Rat)*s-Y*c<=-1267650600228229401496703205376:=by
  rcases hf with hf|hf
  . left
    have:((1267650600228229401496703205376:Int):Rat)<=((X*s-Y*c:Int):Rat):=Rat.intCast_le_intCast.2 hf;rw [Rat.intCast_sub,Rat.intCast_mul,Rat.intCast_mul,Rat.intCast_natCast,Rat.intCast_natCast] at this;exact this
  . right
    have:((X*s-Y*c:Int):Rat)<=((-1267650600228229401496703205376:Int):Rat):=Rat.intCast_le_intCast.2 hf;rw [Rat.intCast_sub,Rat.intCast_mul,Rat.intCast_mul,Rat.intCast_natCast,Rat.intCast_natCast] at this;exact this
 clear hr hc g1 g2 g3 hf hX hY hn a1 a2 b1 b2 zc22 zcn hE hjj h0 h1;generalize zs (1+j)=u at *
 generalize zc (1+j)=v at *
 generalize (c:Rat)=c at *
 generalize (s:Rat)=s at *
 generalize (X:Rat)=X at *
 generalize (Y:Rat)=Y at *
 have ex:(X*s-Y*c)*bG=X*(s*bG-u)-Y*(c*bG-v)+(X*u-Y*v):=by grind
 rcases hf' with hf|hf
 . left
   have k:=Rat.mul_le_mul_of_nonneg_right hf (Rat.le_of_lt hp);rw [ex,q1] at k;grind
 . right
   have k:=Rat.mul_le_mul_of_nonneg_right hf (Rat.le_of_lt hp);rw [ex] at k;grind
theorem jb:-(4*bM)<=zs 2700000-zc 2700000/\zs 2700000-zc 2700000<=4*bM:=by
 have h:=near 2700000 (by omega)
 have m:=xP
 have hs:=jN (ps 2700000-pc 2700000) (ev sP M0-ev cP M0) L0 nW (by
  have a:=gD 2700000;have b:=iE 2700000;have e:((2700000:Nat):Int)=M0:=rfl;rw [e] at a b;rw [Rat.intCast_sub];grind) m
 have k:aU<=bM:=by unfold bM aU;decide +kernel
 generalize ps 2700000=a at *
 generalize pc 2700000=b at *
 generalize zs 2700000=c at *
 generalize zc 2700000=d at *
 generalize bM=e at *
 generalize aU=f at *
 grind
theorem U5:e61=2*e62:=by unfold e61 e62;decide +kernel
theorem Vq:8589934592*(4*bM)<=1/1000000000*e62:=by unfold bM aU e62;decide +kernel
theorem EP:7/10<=zc 2700000:=by
 have f2:FlR (zc 2700000) 759250124:=AB;unfold FlR at f2;have m:0<mg:=by unfold mg;decide +kernel
 have u:u30=1/1073741824:=by unfold u30;decide +kernel
 rw [u] at f2;generalize zc 2700000=x at *
 grind
theorem Kn (n:Nat) (h0:0<n) (h1:n<2700000) (X Y:Int) (hn:¬ (X=0/\Y=0)) (hX:-2147483648<=X/\X<=2147483648) (hY:-2147483648<=Y/\Y<=2147483648) :
 e62<=(X:Rat)*zs n-Y*zc n∨(X:Rat)*zs n-Y*zc n<=-e62:=by
 have ep:0<e62:=by unfold e62;decide +kernel
 have e1:=U5
 by_cases hs:n<=1351680
 . have h:=N9 n (by omega) hs X Y hn (by omega) (by omega)
   rw [e1] at h;clear hX hY hn hs h0 h1;rcases h with h|h
   . left;grind
   . right;grind
 . obtain ⟨j,hj⟩:∃ j,j+n=2700000:=⟨2700000-n,by omega⟩
   have h:=N9 j (by omega) (by omega) (X+Y) (X-Y) (by omega) (by omega) (by omega)
   have hu:=jk j;obtain ⟨a1,a2⟩:=vM j n;rw [hj] at a1 a2;have m:=jb;have zm:=EP;have q1:=Vq;have hXr:-(2147483648:Rat)<=(X:Rat)/\(X:Rat)<=2147483648:=⟨Rat.intCast_le_intCast.2 hX.1,Rat.intCast_le_intCast.2 hX.2⟩;have hYr:-(2147483648:Rat)<=(Y:Rat)/\(Y:Rat)<=2147483648:=⟨Rat.intCast_le_intCast.2 hY.1,Rat.intCast_le_intCast.2 hY.2⟩;have zl1:=dL j;have zl2:=gB j;have dp:0<bM:=by unfold bM aU;decide +kernel
   rw [Rat.intCast_add,Rat.intCast_sub,e1] at h;clear hX hY hn hs h0 h1 hj e1;generalize zs 2700000=sM at *
   generalize zc 2700000=cM at *
   generalize zs n=u at *
   generalize zc n=v at *
   generalize zs j=s at *
   generalize zc j=c at *
   generalize (X:Rat)=x at *
   generalize (Y:Rat)=y at *
   have k1:u=sM*c-cM*s:=by rw [a1,a2];grind
   have k2:v=cM*c+sM*s:=by rw [a1,a2];grind
   have k3:x*u-y*v=-cM*((x+y)*s-(x-y)*c)+(sM-cM)*(x*c-y*s):=by rw [k1,k2];grind
   have b1:=aB x c 2147483648 1 hXr.1 hXr.2 zl2.1 zl2.2;have b2:=aB y s 2147483648 1 hYr.1 hYr.2 zl1.1 zl1.2;have b3:=aB (sM-cM) (x*c-y*s) (4*bM) 4294967296 m.1 m.2 (by grind) (by grind)
   rw [k3];generalize (x+y)*s-(x-y)*c=F at *
   generalize (sM-cM)*(x*c-y*s)=E at *
   clear k1 k2 k3 a1 a2 b1 b2 hu hXr hYr zl1 zl2;generalize bM=D at *
   generalize e62=e at *
   rcases h with h|h
   . right
     have t:=Rat.mul_nonneg (show 0<=F-2*e by grind) (show 0<=cM-7/10 by grind)
     have t2:=Rat.mul_nonneg (show 0<=e by grind) (show 0<=cM-7/10 by grind)
     grind
   . left
     have t:=Rat.mul_nonneg (show 0<=-(2*e)-F by grind) (show 0<=cM-7/10 by grind)
     have t2:=Rat.mul_nonneg (show 0<=e by grind) (show 0<=cM-7/10 by grind)
     grind
end Alm
namespace Go.Proofs.YtbcnifkfaknnaaaGreat
open Alm
theorem s1_low:29/100000000<=s1:=by unfold s1 s1n dd tp;decide +kernel
theorem tZ:s1<=3/10000000:=by unfold s1 s1n dd tp;decide +kernel
theorem lL:4/100000000000000<=1-c1/\1-c1<=1/10000000000000:=by unfold c1 c1n dd tp;constructor<;>decide +kernel
theorem zs_up (n:Nat) (h:n<=2700000):zs n+1/10000000<=zs (n+1):=by
 rw [bZ];have a:=dG n h;have b:=dL n;have c:=lL;have s:=s1_low;have e1:0<=(zc n-49/100)*(s1-29/100000000):=Rat.mul_nonneg (by grind) (by grind)
 have e2:0<=(1-zs n)*(1-c1):=Rat.mul_nonneg (by grind) (by grind)
 grind
theorem uA (n:Nat) (h:n<=2700000):zc (n+1)<zc n:=by
 rw [bX];have a:=dG n h;have b:=mH n h;have c:=lL;have s:=tZ;have s':=s1_low;have e1:0<=(zc n-49/100)*(1-c1-4/100000000000000):=Rat.mul_nonneg (by grind) (by grind)
 have e2:0<=(zs n+1/1000000000)*s1:=Rat.mul_nonneg (by grind) (by grind)
 grind
theorem Tx:((ev sP 1800000*2-L0).natAbs:Int)*2^60<=L0*2:=by decide +kernel
theorem gL:u30=1/1073741824:=by unfold u30;decide +kernel
theorem Fb:0<mg:=by unfold mg;decide +kernel
theorem Ou (n:Nat) (hn:n+1=2700000):zs (n+1)<zc n:=by
 have f1:FlR (zs (n+1)) 759250124:=by rw [hn];exact ER
 have f2:FlR (zc (n+1)) 759250124:=by rw [hn];exact AB
 unfold FlR at f1 f2;rw [gL] at f1 f2;have m:=Fb;have e:=bX n;have e':=bZ n;have b:=mH n (by omega)
 have a:=dG n (by omega)
 have b2:=dL n;have a2:=gB n;have c:=lL;have s:=s1_low;have s2:=tZ;clear hn;generalize zs (n+1)=x' at *
 generalize zc (n+1)=y' at *
 generalize zs n=x at *
 generalize zc n=y at *
 have e1:0<=(1-y)*s1:=Rat.mul_nonneg (by grind) (by grind)
 have e2:0<=(x+1/1000000000)*(1-c1):=Rat.mul_nonneg (by grind) (by grind)
 have k:69/100<=x:=by grind
 have e3:0<=(x-69/100)*(s1-29/100000000):=Rat.mul_nonneg (by grind) (by grind)
 have e4:0<=(y-49/100)*(1-c1):=Rat.mul_nonneg (by grind) (by grind)
 grind
theorem Gq (n:Nat) (hn:n=1800000):-(2/1000000000)<=zs n-1/2/\zs n-1/2<=2/1000000000:=by
 have h:=(near n (by omega)).1
 have d:=qZ
 have p:-(1/1000000000000)<=ps n-1/2/\ps n-1/2<=1/1000000000000:=by
  have m:=gD n;have q:=Tx;have l:=pE;rw [<-show ((n:Nat):Int)=1800000 by omega] at q
  generalize ev sP (n:Int)=E at *
  have q1:((E*2-L0)*2^60<=L0*2)/\(-(L0*2)<=(E*2-L0)*2^60):=by omega
  have r1:(((E*2-L0)*2^60:Int):Rat)<=((L0*2:Int):Rat):=by exact_mod_cast q1.1
  have r2:((-(L0*2):Int):Rat)<=(((E*2-L0)*2^60:Int):Rat):=by exact_mod_cast q1.2
  clear q q1 h d hn;generalize L0=L at *
  simp only [Rat.intCast_mul,Rat.intCast_sub,Rat.intCast_neg] at r1 r2;generalize (L:Rat)=l0 at *
  generalize ps n=x at *
  have hx:(E:Rat)=x*l0:=m.symm;rw [hx] at r1 r2;have k:(((2^60:Int)):Rat)=1152921504606846976:=by decide +kernel
  have k2:((2:Int):Rat)=2:=by decide +kernel
  rw [k,k2] at r1 r2;refine ⟨?_,?_⟩
  . refine Rat.not_lt.1 fun hh=>?_
    have:0<(1/2-1/1000000000000-x)*l0:=Rat.mul_pos (by grind) l
    grind
  . refine Rat.not_lt.1 fun hh=>?_
    have:0<(x-1/2-1/1000000000000)*l0:=Rat.mul_pos (by grind) l
    grind
 grind
def sS (n:Nat):Rat:=if n=1800000 then 1/2 else if 2*n<=5400000 then zs n else zc (5400000-n)
theorem VY (n:Nat) (h:n<5400000):sS n<sS (n+1):=by
 unfold sS
 by_cases h1:n=1800000
 . have a:=Gq n h1;have b:=zs_up n (by omega)
   rw [if_pos h1,if_neg (by omega),if_pos (by omega)]
   clear h1 h;grind
 . rw [if_neg h1]
   by_cases h2:n+1=1800000
   . have a:=Gq (n+1) h2;have b:=zs_up n (by omega)
     rw [if_pos h2,if_pos (by omega)]
     clear h1 h h2;grind
   . rw [if_neg h2]
     by_cases h3:2*(n+1)<=5400000
     . rw [if_pos h3,if_pos (by omega)]
       have b:=zs_up n (by omega)
       clear h1 h h2 h3;grind
     . rw [if_neg h3]
       by_cases h4:2*n<=5400000
       . rw [if_pos h4];have:=Ou (5400000-(n+1)) (by omega)
         rw [show 5400000-(n+1)+1=n by omega] at this
         exact this
       . rw [if_neg h4];have:=uA (5400000-(n+1)) (by omega)
         rw [show 5400000-(n+1)+1=5400000-n by omega] at this
         exact this
theorem jV (m:Nat):∀ n:Nat,m<n->n<=5400000->sS m<sS n
 | 0,h,_=>by omega
 | n+1,h,h2=>by
  have up:=VY n (by omega)
  by_cases e:m=n
  . subst e;exact up
  . have:=jV m n (by omega) (by omega)
    clear h h2 e;grind
theorem jT:sS 0=0:=by unfold sS;rw [if_neg (by omega),if_pos (by omega)];exact dP
theorem EY (n:Nat) (h:n=5400000):sS n=1:=by
 unfold sS;rw [if_neg (by omega),if_neg (by omega),show 5400000-n=0 by omega]
 exact fE
theorem xS {s:Rat} {q:Nat} (h:FlR s q):((q:Int):Rat)*u30<=s/\s<=(((q:Int)+1:Int):Rat)*u30:=by
 have m:=Fb;unfold FlR at h;rw [gL] at *
 rw [Rat.intCast_add];have:((1:Int):Rat)=1:=rfl;rw [this];grind
theorem qV (n:Nat) (h:n<=5400000):(fq (n:Int):Rat)*u30<=sS n/\sS n<=((fq (n:Int)+(if gu (n:Int) then 0 else 1):Int):Rat)*u30:=by
 by_cases h0:n=0
 . subst h0;rw [jT];have a:fq ((0:Nat):Int)=0:=by decide
   have b:gu ((0:Nat):Int)=true:=by decide
   rw [a,b,if_pos rfl];have:((0:Int):Rat)=0:=rfl;rw [Int.add_zero,this];grind
 by_cases h1:n=1800000
 . have a:fq (n:Int)=536870912:=by rw [h1];decide
   have b:gu (n:Int)=true:=by rw [h1];decide
   have c:sS n=1/2:=by unfold sS;rw [if_pos h1]
   rw [a,b,c,if_pos rfl,gL,Int.add_zero];have:((536870912:Int):Rat)=536870912:=rfl;rw [this];clear a b c h h0 h1;grind
 by_cases h2:n=5400000
 . have a:fq (n:Int)=1073741824:=by rw [h2];decide
   have b:gu (n:Int)=true:=by rw [h2];decide
   rw [a,b,EY n h2,if_pos rfl,gL,Int.add_zero];have:((1073741824:Int):Rat)=1073741824:=rfl;rw [this];clear a b h h0 h1 h2;grind
 have e:gu (n:Int)=false:=by
  unfold gu;simp only [Bool.or_eq_false_iff,beq_eq_false_iff_ne];refine ⟨⟨?_,?_⟩,?_⟩<;>omega
 have v:fq (n:Int)=(mX n:Int):=by
  unfold fq;rw [if_neg (by omega),if_neg (by omega),if_neg (by omega),Int.toNat_natCast]
 rw [e,v,if_neg (by simp)]
 unfold sS mX;rw [if_neg h1]
 by_cases h3:2*n<=5400000
 . rw [if_pos h3,if_pos h3];obtain ⟨q,hq⟩:=Su n (by omega) h0 h1
   rw [PW n (by omega) q hq]
   exact xS hq
 . rw [if_neg h3,if_neg h3];obtain ⟨q,hq⟩:=Vn (5400000-n) (by omega) (by omega)
   rw [PN (5400000-n) (by omega) q hq]
   exact xS hq
def sR (n:Int):Rat:=if 0<=n then sS n.toNat else -sS (-n).toNat
theorem qo (n:Int) (h0:0<=n) (h1:n<=5400000):aI n=n/\bu n=false:=by
 unfold aI bu aj;simp only [];refine ⟨by split<;>split<;>omega,by simp;omega⟩
theorem xM (n:Int) (h0:-5400000<=n) (h1:n<0):aI n=-n/\bu n=true:=by
 unfold aI bu aj;simp only [];refine ⟨by split<;>split<;>omega,by simp;omega⟩
theorem yD (n:Int) (h0:-5400000<=n) (h1:n<=5400000):(bLo n:Rat)*u30<=sR n/\sR n<=(bHi n:Rat)*u30:=by
 unfold sR bLo bHi
 by_cases h:0<=n
 . obtain ⟨a,b⟩:=qo n h h1;rw [a,b,if_pos h,if_neg (by simp),if_neg (by simp)]
   have:=qV n.toNat (by omega)
   rw [Int.toNat_of_nonneg h] at this;exact this
 . obtain ⟨a,b⟩:=xM n h0 (by omega)
   rw [a,b,if_neg h,if_pos rfl,if_pos rfl];have:=qV (-n).toNat (by omega)
   rw [Int.toNat_of_nonneg (show (0:Int)<=-n by omega)] at this
   rw [Rat.intCast_neg,Rat.intCast_neg];generalize (((fq (-n)+if gu (-n)=true then 0 else 1:Int)):Rat)=x at *
   generalize ((fq (-n):Int):Rat)=y at *
   clear a b h h0 h1;grind
theorem Ra (m n:Int) (h0:-5400000<=m) (h:m<n) (h1:n<=5400000):sR m<sR n:=by
 unfold sR
 by_cases hm:0<=m
 . rw [if_pos hm,if_pos (by omega)]
   exact jV _ _ (by omega) (by omega)
 . rw [if_neg hm];have a:=jV 0 (-m).toNat (by omega) (by omega)
   rw [jT] at a
   by_cases hn:0<=n
   . rw [if_pos hn]
     have b:0<=sS n.toNat:=by
      by_cases z:n.toNat=0
      . rw [z,jT];exact Rat.le_refl
      . have:=jV 0 n.toNat (by omega) (by omega)
        rw [jT] at this;exact Rat.le_of_lt this
     clear h0 h h1 hm hn;grind
   . rw [if_neg hn];have:=jV (-n).toNat (-m).toNat (by omega) (by omega)
     clear h0 h h1 hm hn;grind
theorem UB (m n:Int) (h0:-5400000<=m) (h:m<n) (h1:n<=5400000):bLo m<bHi n:=by
 have a:=(yD m h0 (by omega)).1
 have b:=(yD n (by omega) h1).2
 have c:=Ra m n h0 h h1;rw [gL] at a b
 have k:(bLo m:Rat)<(bHi n:Rat):=by
  clear h0 h h1;grind
 exact_mod_cast k
end Go.Proofs.YtbcnifkfaknnaaaGreat
namespace Alm
def frm (x y:Int) (k:Nat):Rat:=if k<=2700000 then (x:Rat)*zs k-y*zc k else (x:Rat)*zc (5400000-k)-y*zs (5400000-k)
def past (x y:Int) (k:Nat):Prop:=if k=2700000 then y<x else 0<frm x y k
theorem zs_pos (n:Nat) (h:n<=2700000):0<=zs n:=by
 induction n with
 | zero=>rw [dP];exact Rat.le_refl
 | succ n ih =>
  have a:=ih (by omega)
  have b:=Go.Proofs.YtbcnifkfaknnaaaGreat.zs_up n (by omega)
  clear ih h;grind
theorem qE {x:Int} (h:0<=x) (h2:x<=2147483648):(0:Rat)<=(x:Rat)/\(x:Rat)<=2147483648:=⟨Rat.intCast_le_intCast.2 h,Rat.intCast_le_intCast.2 h2⟩
theorem PZ (x y:Int) (k:Nat) (h0:0<k) (h1:k<5400000) (h2:k≠2700000) (hn:¬ (x=0/\y=0)) (hx:0<=x/\x<=2147483648) (hy:0<=y/\y<=2147483648) :
 e62<=frm x y k∨frm x y k<=-e62:=by
 unfold frm
 by_cases h:k<=2700000
 . rw [if_pos h];exact Kn k h0 (by omega) x y hn (by omega) (by omega)
 . rw [if_neg h];have f:=Kn (5400000-k) (by omega) (by omega) y x (by omega) (by omega) (by omega)
   clear hx hy hn h0 h1 h2 h;generalize zs (5400000-k)=u at *
   generalize zc (5400000-k)=v at *
   rcases f with f|f
   . right;grind
   . left;grind
theorem WH:4294967296*(220*ak)<=1/2*e62:=by unfold ak e62;decide +kernel
theorem Zr:0<e62:=by unfold e62;decide +kernel
theorem Pq (k:Nat) (hk:k<=5400000):-(220*ak)<=(sN k:Rat)*ak-(if k<=2700000 then zs k else zc (5400000-k))/\(sN k:Rat)*ak-(if k<=2700000 then zs k else zc (5400000-k))<=220*ak:=by
 unfold sN
 by_cases h:k<=2700000
 . rw [if_pos h,if_pos h];have a:=Nl k h;rw [<-(ui k h).1,Rat.intCast_natCast] at a;exact a
 . rw [if_neg h,if_neg h];have a:=NN (5400000-k) (by omega)
   rw [<-(tX (5400000-k) (by omega)).1,Rat.intCast_natCast] at a
   exact a
theorem PL (k:Nat) (hk:k<=5400000):-(220*ak)<=(cN k:Rat)*ak-(if k<=2700000 then zc k else zs (5400000-k))/\(cN k:Rat)*ak-(if k<=2700000 then zc k else zs (5400000-k))<=220*ak:=by
 unfold cN
 by_cases h:k<=2700000
 . rw [if_pos h,if_pos h];have a:=NN k h;rw [<-(tX k h).1,Rat.intCast_natCast] at a;exact a
 . rw [if_neg h,if_neg h];have a:=Nl (5400000-k) (by omega)
   rw [<-(ui (5400000-k) (by omega)).1,Rat.intCast_natCast] at a
   exact a
theorem FK (x y:Int) (k:Nat) (h0:0<k) (h1:k<5400000) (hn:¬ (x=0/\y=0)) (hx:0<=x/\x<=2147483648) (hy:0<=y/\y<=2147483648) :
 jy x y k=true↔¬ past x y k:=by
 unfold jy past;rw [decide_eq_false (show ¬ k=0 by omega),Bool.false_or]
 by_cases hm:k=2700000
 . rw [if_pos hm,if_pos hm,decide_eq_true_iff];omega
 . rw [if_neg hm,if_neg hm,decide_eq_true_iff];have gap:=PZ x y k h0 h1 hm hn hx hy;have a:=Pq k (by omega)
   have b:=PL k (by omega)
   have bx:=qE hx.1 hx.2;have by':=qE hy.1 hy.2
   have nz:=WH;have dp:=bn;have ep:=Zr
   have ef:frm x y k=(x:Rat)*(if k<=2700000 then zs k else zc (5400000-k))-y*(if k<=2700000 then zc k else zs (5400000-k)):=by
    unfold frm;split<;>rfl
   have cx:((x.toNat:Nat):Rat)=(x:Rat):=by
    have:((x.toNat:Nat):Int)=x:=Int.toNat_of_nonneg hx.1;rw [<-Rat.intCast_natCast,this]
   have cy:((y.toNat:Nat):Rat)=(y:Rat):=by
    have:((y.toNat:Nat):Int)=y:=Int.toNat_of_nonneg hy.1;rw [<-Rat.intCast_natCast,this]
   have key:(sN k*x.toNat<=cN k*y.toNat)↔((sN k:Rat)*x<=(cN k:Rat)*y):=by
    rw [<-cx,<-cy,<-Rat.natCast_mul,<-Rat.natCast_mul];exact Rat.natCast_le_natCast.symm
   rw [key,ef];rw [ef] at gap;clear key cx cy ef hx hy hn h0 h1 hm;generalize (if k<=2700000 then zs k else zc (5400000-k))=s at *
   generalize (if k<=2700000 then zc k else zs (5400000-k))=c at *
   generalize (sN k:Rat)=S at *
   generalize (cN k:Rat)=C at *
   generalize (x:Rat)=x at *
   generalize (y:Rat)=y at *
   have m1:=aB x (S*ak-s) 2147483648 (220*ak) (by grind) bx.2 a.1 a.2
   have m2:=aB y (C*ak-c) 2147483648 (220*ak) (by grind) by'.2 b.1 b.2
   have e1:(S*x-C*y)*ak=x*(S*ak-s)-y*(C*ak-c)+(x*s-y*c):=by grind
   generalize x*(S*ak-s)=p at *
   generalize y*(C*ak-c)=q at *
   generalize x*s-y*c=f at *
   generalize S*x=A at *
   generalize C*y=B at *
   clear a b bx by'
   constructor
   . intro h hf;have:0<=(B-A)*ak:=Rat.mul_nonneg (by grind) (Rat.le_of_lt dp)
     rcases gap with g|g
     . grind
     . grind
   . intro h;refine Rat.not_lt.1 fun hh=>?_
     have:0<(A-B)*ak:=Rat.mul_pos (by grind) dp
     rcases gap with g|g
     . grind
     . grind
theorem I7 (x y:Int) (hy:0<=y):¬ past x y 0:=by
 unfold past frm;rw [if_neg (by omega),if_pos (by omega),dP,fE]
 have:(0:Rat)<=(y:Rat):=Rat.intCast_le_intCast.2 hy;grind
theorem Oc (x y:Int) (hx:0<x):past x y 5400000:=by
 unfold past frm;rw [if_neg (by omega),if_neg (by omega),Nat.sub_self,dP,fE]
 have:(0:Rat)<(x:Rat):=Rat.intCast_lt_intCast.2 hx;grind
theorem Xe:2147483648*(4*bM)<=1/1000000000:=by unfold bM aU;decide +kernel
theorem Sk:4*bM<=1/1000000000:=by unfold bM aU;decide +kernel
theorem zV:99/100<=c1/\c1<=1:=⟨FC,LJ.2⟩
theorem IW (x y:Int) (k:Nat) (h1:k<5400000) (hx:0<x/\x<=2147483648) (hy:0<=y/\y<=2147483648) (h:past x y k):past x y (k+1):=by
 have bx:=qE (Int.le_of_lt hx.1) hx.2;have by':=qE hy.1 hy.2
 have x1:(1:Rat)<=(x:Rat):=Rat.intCast_le_intCast.2 hx.1;have sl:=Go.Proofs.YtbcnifkfaknnaaaGreat.s1_low;have cl:=zV;unfold past at *
 by_cases ha:k+1<2700000
 . rw [if_neg (by omega)] at h ⊢
   unfold frm at *
   rw [if_pos (by omega)] at h ⊢
   rw [bZ,bX];have a:=dG k (by omega)
   have b:=zs_pos k (by omega)
   clear hx hy h1 ha;generalize zs k=s at *
   generalize zc k=c at *
   generalize (x:Rat)=x at *
   generalize (y:Rat)=y at *
   generalize c1=p at *
   generalize s1=q at *
   have m1:0<(x*s-y*c)*p:=Rat.mul_pos h (by grind)
   have m2:0<=(x*c)*q:=Rat.mul_nonneg (Rat.mul_nonneg (by grind) (by grind)) (by grind)
   have m3:0<=(y*s)*q:=Rat.mul_nonneg (Rat.mul_nonneg (by grind) (by grind)) (by grind)
   grind
 by_cases hb:k+1=2700000
 . rw [if_pos hb];rw [if_neg (by omega)] at h
   unfold frm at h;rw [if_pos (by omega)] at h
   have a:=dG k (by omega)
   have b:=zs_pos k (by omega)
   have e1:=bZ k;have e2:=bX k;rw [hb] at e1 e2;have m:=jb;have md:=Sk;have zm:=EP;rcases Int.lt_or_le y x with hh|hh
   . exact hh
   . exfalso;have xy:(x:Rat)<=(y:Rat):=Rat.intCast_le_intCast.2 hh;clear hx hy h1 ha hb hh;generalize zs 2700000=sM at *
     generalize zc 2700000=cM at *
     generalize zs k=s at *
     generalize zc k=c at *
     generalize (x:Rat)=x at *
     generalize (y:Rat)=y at *
     generalize c1=p at *
     generalize s1=q at *
     generalize bM=D at *
     have m1:0<(x*s-y*c)*p:=Rat.mul_pos h (by grind)
     have m2:0<=x*(c-49/100):=Rat.mul_nonneg (by grind) (by grind)
     have m2':0<=(x*c)*(q-29/100000000):=Rat.mul_nonneg (Rat.mul_nonneg (by grind) (by grind)) (by grind)
     have m3:0<=(y*s)*q:=Rat.mul_nonneg (Rat.mul_nonneg (by grind) (by grind)) (by grind)
     have m4:0<=(y-x)*cM:=Rat.mul_nonneg (by grind) (by grind)
     have m5:0<=x*(1/1000000000-(sM-cM)):=Rat.mul_nonneg (by grind) (by grind)
     have k:x*sM-y*cM=(x*s-y*c)*p+(x*c)*q+(y*s)*q:=by rw [e1,e2];grind
     clear e1 e2 h;grind
 by_cases hc:k=2700000
 . rw [if_neg (by omega)]
   rw [if_pos hc] at h;unfold frm;rw [if_neg (by omega)]
   have e1:=bZ (5400000-(k+1));have e2:=bX (5400000-(k+1));rw [show 5400000-(k+1)+1=2700000 by omega] at e1 e2
   have a:=dG (5400000-(k+1)) (by omega)
   have b:=zs_pos (5400000-(k+1)) (by omega)
   have m:=jb;have md:=Xe;have zm:=EP
   have xy:(y:Rat)+1<=(x:Rat):=by
    have:((y+1:Int):Rat)<=(x:Rat):=Rat.intCast_le_intCast.2 (by omega)
    rw [Rat.intCast_add] at this;exact this
   have dp:0<bM:=by unfold bM aU;decide +kernel
   clear hx hy h1 ha hb hc h;generalize zs 2700000=sM at *
   generalize zc 2700000=cM at *
   generalize zs (5400000-(k+1))=s at *
   generalize zc (5400000-(k+1))=c at *
   generalize (x:Rat)=x at *
   generalize (y:Rat)=y at *
   generalize c1=p at *
   generalize s1=q at *
   generalize bM=D at *
   have m1:=aB y (sM-cM) 2147483648 (4*D) (by grind) by'.2 m.1 m.2
   have m4:0<=(x-y-1)*cM:=Rat.mul_nonneg (by grind) (by grind)
   have g:0<x*cM-y*sM:=by grind
   have m2:0<=(x*s)*q:=Rat.mul_nonneg (Rat.mul_nonneg (by grind) (by grind)) (by grind)
   have m3:0<=(y*c)*q:=Rat.mul_nonneg (Rat.mul_nonneg (by grind) (by grind)) (by grind)
   have kk:x*cM-y*sM=(x*c-y*s)*p-(x*s)*q-(y*c)*q:=by rw [e1,e2];grind
   clear e1 e2;have g2:0<(x*c-y*s)*p:=by grind
   refine Rat.not_le.1 fun hh=>?_
   have:0<=(-(x*c-y*s))*p:=Rat.mul_nonneg (by grind) (by grind)
   grind
 . rw [if_neg (by omega)] at h ⊢
   unfold frm at *
   rw [if_neg (by omega)] at h ⊢
   have e1:=bZ (5400000-(k+1));have e2:=bX (5400000-(k+1));rw [show 5400000-(k+1)+1=5400000-k by omega] at e1 e2
   rw [e1,e2] at h;have a:=dG (5400000-(k+1)) (by omega)
   have b:=zs_pos (5400000-(k+1)) (by omega)
   clear hx hy h1 ha hb hc e1 e2;generalize zs (5400000-(k+1))=s at *
   generalize zc (5400000-(k+1))=c at *
   generalize (x:Rat)=x at *
   generalize (y:Rat)=y at *
   generalize c1=p at *
   generalize s1=q at *
   have m2:0<=(x*s)*q:=Rat.mul_nonneg (Rat.mul_nonneg (by grind) (by grind)) (by grind)
   have m3:0<=(y*c)*q:=Rat.mul_nonneg (Rat.mul_nonneg (by grind) (by grind)) (by grind)
   have g2:0<(x*c-y*s)*p:=by grind
   refine Rat.not_le.1 fun hh=>?_
   have:0<=(-(x*c-y*s))*p:=Rat.mul_nonneg (by grind) (by grind)
   grind
theorem zM (x y:Int) (k m:Nat) (hkm:k<=m) (h1:m<=5400000) (hx:0<x/\x<=2147483648) (hy:0<=y/\y<=2147483648) (h:past x y k):past x y m:=by
 obtain ⟨d,rfl⟩:∃ d,m=k+d:=⟨m-k,by omega⟩
 clear hkm
 induction d with
 | zero=>exact h
 | succ d ih=>exact IW x y (k+d) (by omega) hx hy (ih (by omega))
def vY (x y:Int) (L:Nat):Prop:=L<5400000/\¬ past x y L/\past x y (L+1)
theorem A8 {x y:Int} {L M:Nat} (hx:0<x/\x<=2147483648) (hy:0<=y/\y<=2147483648) (h:vY x y L) (k:vY x y M):L=M:=by
 obtain ⟨a,b,c⟩:=h;obtain ⟨a',b',c'⟩:=k;rcases Nat.lt_trichotomy L M with q|q|q
 . exact absurd (zM x y (L+1) M (by omega) (by omega) hx hy c) b'
 . exact q
 . exact absurd (zM x y (M+1) L (by omega) (by omega) hx hy c') b
theorem AZ (x y:Int) (hx:0<x/\x<=2147483648) (hy:0<=y/\y<=2147483648):∀ (f lo hi:Nat),lo<hi->hi<=5400000->hi-lo<=2^f->¬ past x y lo->past x y hi->vY x y (mU x y f lo hi)
 | 0,lo,hi,h1,h2,h3,h4,h5=>by
  have:hi=lo+1:=by simp at h3;omega
  subst this;exact ⟨by show lo<_;omega,h4,h5⟩
 | f+1,lo,hi,h1,h2,h3,h4,h5=>by
  rw [yE];rw [Nat.pow_succ] at h3
  by_cases hl:lo+1<hi
  . rw [if_pos hl];have r:=FK x y ((lo+hi)/2) (by omega) (by omega) (by omega) ⟨by omega,hx.2⟩ hy
    by_cases hr:jy x y ((lo+hi)/2)=true
    . rw [if_pos hr];exact AZ x y hx hy f _ _ (by omega) h2 (by omega) (r.1 hr) h5
    . rw [if_neg hr];exact AZ x y hx hy f _ _ (by omega) (by omega) (by omega) h4 (Classical.not_not.1 fun q=>hr (r.2 q))
  . rw [if_neg hl];have:hi=lo+1:=by omega
    subst this;exact ⟨by omega,h4,h5⟩
theorem iL (x y:Int) (h0:¬ (x=0/\y=0)) (hx:-2147483648<=x/\x<=2147483648) (hy:-2147483648<=y/\y<=2147483648):vY (qX x y) (qY x y) (bQ x y):=by
 obtain ⟨a,b,c,d⟩:=q_bd x y 2147483648 h0 hx hy;exact AZ _ _ ⟨a,b⟩ ⟨c,d⟩ 23 0 5400000 (by omega) (by omega) (by omega) (I7 _ _ c) (Oc _ _ a)
theorem Nq {x y x' y':Int} {k:Nat} (hk:k<=5400000) (hx:0<x/\x<=2147483648) (hy:0<=y) (hx':0<x'/\x'<=2147483648) (hy':0<=y') (hc:x'*y<=x*y') (h:past x' y' k):past x y k:=by
 unfold past at *
 by_cases hm:k=2700000
 . rw [if_pos hm] at h ⊢
   refine Int.not_le.1 fun hh=>?_
   have m1:x*(y'+1)<=x*x':=Int.mul_le_mul_of_nonneg_left (by omega) (by omega)
   have m2:x'*x<=x'*y:=Int.mul_le_mul_of_nonneg_left hh (by omega)
   have e:x*(y'+1)=x*y'+x:=by grind
   have e2:x'*x=x*x':=by grind
   omega
 . rw [if_neg hm] at h ⊢
   have px:(0:Rat)<(x:Rat):=Rat.intCast_lt_intCast.2 hx.1;have px':(0:Rat)<(x':Rat):=Rat.intCast_lt_intCast.2 hx'.1
   have pc:(x':Rat)*y<=(x:Rat)*y':=by
    have:((x'*y:Int):Rat)<=((x*y':Int):Rat):=Rat.intCast_le_intCast.2 hc
    rwa [Rat.intCast_mul,Rat.intCast_mul] at this
   unfold frm at *
   have core:∀ s c:Rat,0<=c->0<(x':Rat)*s-y'*c->0<(x:Rat)*s-y*c:=by
    intro s c hc0 hh;clear hx hy hx' hy' hc h hm;generalize (x:Rat)=x at *
    generalize (y:Rat)=y at *
    generalize (x':Rat)=x' at *
    generalize (y':Rat)=y' at *
    refine Rat.not_le.1 fun hq=>?_
    have m1:0<(x'*s-y'*c)*x:=Rat.mul_pos hh px;have m2:0<=(-(x*s-y*c))*x':=Rat.mul_nonneg (by grind) (Rat.le_of_lt px')
    have m3:0<=(x*y'-x'*y)*c:=Rat.mul_nonneg (by grind) hc0
    grind
   by_cases hb:k<=2700000
   . rw [if_pos hb] at h ⊢
     have a:=dG k hb;exact core _ _ (by clear h px px' pc core hc hx hy hx' hy';grind) h
   . rw [if_neg hb] at h ⊢
     exact core _ _ (zs_pos _ (by omega)) h
theorem Ao {x y x' y':Int} {L M:Nat} (hx:0<x/\x<=2147483648) (hy:0<=y/\y<=2147483648) (hx':0<x'/\x'<=2147483648) (hy':0<=y'/\y'<=2147483648) (hc:x'*y<=x*y') (h:vY x y L) (k:vY x' y' M):L<=M:=by
 rcases Nat.lt_or_ge M L with q|q
 . exact absurd (zM x y (M+1) L (by omega) (by have:=h.1;omega) hx hy (Nq (by have:=k.1;omega) hx hy.1 hx' hy'.1 hc k.2.2)) h.2.1
 . exact q
end Alm
namespace Alm
def crs (px py qx qy:Int):Int:=px*qy-py*qx
theorem Mc (u v px py qx qy rx ry:Int):crs px py rx ry*(u*qx+v*qy)=crs px py qx qy*(u*rx+v*ry)+crs qx qy rx ry*(u*px+v*py):=by
 unfold crs;grind
theorem yK {u v px py qx qy rx ry:Int} (hp:0<u*px+v*py) (hq:0<u*qx+v*qy) (hr:0<u*rx+v*ry) (h1:0<=crs px py qx qy) (h2:0<=crs qx qy rx ry):0<=crs px py rx ry:=by
 have e:=Mc u v px py qx qy rx ry;have a:=Int.mul_nonneg h1 (Int.le_of_lt hr);have b:=Int.mul_nonneg h2 (Int.le_of_lt hp);rcases Int.lt_or_le (crs px py rx ry) 0 with h|h
 . have:=Int.mul_neg_of_neg_of_pos h hq;omega
 . exact h
theorem pR (px py qx qy:Int):crs qx qy px py=-crs px py qx qy:=by unfold crs;grind
theorem Ci (px py:Int):crs px py px py=0:=by unfold crs;grind
theorem Hg (px py qx qy:Int):qK px py qx qy=decide (0<=crs px py qx qy):=by
 unfold qK crs;exact decide_eq_decide.2 ⟨fun h=>by omega,fun h=>by omega⟩
theorem ug {a b h k:Int} (hh:0<h) (hk:0<k) (e:a*k=b*h):(0<a↔0<b)/\(0<=a↔0<=b)/\(a<0↔b<0):=by
 have key:∀ x y s t:Int,0<s->0<t->x*t=y*s->0<x->0<y:=by
  intro x y s t hs ht he hx;rcases Int.lt_or_le 0 y with q|q
  . exact q
  . have a1:=Int.mul_pos hx ht;have a2:=Int.mul_nonneg (show 0<=-y by omega) (Int.le_of_lt hs)
    have a3:-y*s=-(y*s):=Int.neg_mul y s;omega
 have key2:∀ x y s t:Int,0<s->0<t->x*t=y*s->x<0->y<0:=by
  intro x y s t hs ht he hx;have:=key (-x) (-y) s t hs ht (by rw [Int.neg_mul,Int.neg_mul,he]) (by omega)
  omega
 have p1:0<a↔0<b:=⟨key a b h k hh hk e,key b a k h hk hh e.symm⟩;have p2:a<0↔b<0:=⟨key2 a b h k hh hk e,key2 b a k h hk hh e.symm⟩;exact ⟨p1,by omega,p2⟩
theorem Bb {u v px py qx qy:Int} (hp:0<u*px+v*py) (hq:0<u*qx+v*qy) (hc:crs px py qx qy=0) (hpx:-2147483648<=px/\px<=2147483648) (hpy:-2147483648<=py/\py<=2147483648) (hqx:-2147483648<=qx/\qx<=2147483648) (hqy:-2147483648<=qy/\qy<=2147483648) :
 aG px py=aG qx qy/\fG px py=fG qx qy:=by
 have ex:px*(u*qx+v*qy)=qx*(u*px+v*py):=by
  have:px*(u*qx+v*qy)-qx*(u*px+v*py)=v*crs px py qx qy:=by unfold crs;grind
  rw [hc] at this;omega
 have ey:py*(u*qx+v*qy)=qy*(u*px+v*py):=by
  have:py*(u*qx+v*qy)-qy*(u*px+v*py)=-(u*crs px py qx qy):=by unfold crs;grind
  rw [hc] at this;omega
 obtain ⟨x1,x2,x3⟩:=ug hp hq ex;obtain ⟨y1,y2,y3⟩:=ug hp hq ey;have np:¬ (px=0/\py=0):=by rintro ⟨rfl,rfl⟩;simp at hp
 have nq:¬ (qx=0/\qy=0):=by rintro ⟨rfl,rfl⟩;simp at hq
 have dp:=iL px py np hpx hpy;have dq:=iL qx qy nq hqx hqy;have bp:=q_bd px py 2147483648 np hpx hpy;have bq:=q_bd qx qy 2147483648 nq hqx hqy
 have hcr:qX qx qy*qY px py=qX px py*qY qx qy:=by
  unfold crs at hc;unfold qX qY
  by_cases c1:0<px/\0<=py
  . rw [if_pos c1,if_pos c1,if_pos (by omega),if_pos (by omega)];grind
  . rw [if_neg c1,if_neg c1,if_neg (show ¬ (0<qx/\0<=qy) by omega),if_neg (show ¬ (0<qx/\0<=qy) by omega)]
    by_cases c2:0<py
    . rw [if_pos c2,if_pos c2,if_pos (by omega),if_pos (by omega)];grind
    . rw [if_neg c2,if_neg c2,if_neg (show ¬ 0<qy by omega),if_neg (show ¬ 0<qy by omega)]
      by_cases c3:px<0
      . rw [if_pos c3,if_pos c3,if_pos (by omega),if_pos (by omega)];grind
      . rw [if_neg c3,if_neg c3,if_neg (show ¬ qx<0 by omega),if_neg (show ¬ qx<0 by omega)];grind
 have hT:qT px py=qT qx qy:=by
  unfold qT
  by_cases c1:0<px/\0<=py
  . rw [if_pos c1,if_pos (by omega)]
  . rw [if_neg c1,if_neg (show ¬ (0<qx/\0<=qy) by omega)]
    by_cases c2:0<py
    . rw [if_pos c2,if_pos (by omega)]
    . rw [if_neg c2,if_neg (show ¬ 0<qy by omega)]
      by_cases c3:px<0
      . rw [if_pos c3,if_pos (by omega)]
      . rw [if_neg c3,if_neg (show ¬ qx<0 by omega)]
 have hL:bQ px py=bQ qx qy:=by
  have a:=Ao ⟨bp.1,bp.2.1⟩ ⟨bp.2.2.1,bp.2.2.2⟩ ⟨bq.1,bq.2.1⟩ ⟨bq.2.2.1,bq.2.2.2⟩ (by omega) dp dq
  have b:=Ao ⟨bq.1,bq.2.1⟩ ⟨bq.2.2.1,bq.2.2.2⟩ ⟨bp.1,bp.2.1⟩ ⟨bp.2.2.1,bp.2.2.2⟩ (by omega) dq dp
  omega
 refine ⟨by unfold aG;rw [hT,hL],?_⟩
 unfold fG;rw [hL]
 have e0:decide (qY px py=0)=decide (qY qx qy=0):=by
  have:=ug bp.1 bq.1 (show qY px py*qX qx qy=qY qx qy*qX px py by grind)
  exact decide_eq_decide.2 (by omega)
 have e1:decide (qX px py=qY px py)=decide (qX qx qy=qY qx qy):=by
  have:=ug bp.1 bq.1 (show (qX px py-qY px py)*qX qx qy=(qX qx qy-qY qx qy)*qX px py by grind)
  exact decide_eq_decide.2 (by omega)
 rw [e0,e1]
theorem EW (x y:Int) (h:¬ (x=0/\y=0)):(qT x y=0/\x=qX x y/\y=qY x y)∨(qT x y=5400000/\x=-qY x y/\y=qX x y)∨(qT x y=10800000/\x=-qX x y/\y=-qY x y)∨(qT x y=16200000/\x=qY x y/\y=-qX x y):=by
 unfold qT qX qY
 by_cases c1:0<x/\0<=y
 . rw [if_pos c1,if_pos c1,if_pos c1];left;omega
 . rw [if_neg c1,if_neg c1,if_neg c1]
   by_cases c2:0<y
   . rw [if_pos c2,if_pos c2,if_pos c2];right;left;omega
   . rw [if_neg c2,if_neg c2,if_neg c2]
     by_cases c3:x<0
     . rw [if_pos c3,if_pos c3,if_pos c3];right;right;left;omega
     . rw [if_neg c3,if_neg c3,if_neg c3];right;right;right;omega
end Alm
namespace Alm
theorem Bv {yl yh xl xh:Int} (hy:yl<=yh) (hx:xl<=xh) (ho:¬ (xl<=0/\0<=xh/\yl<=0/\0<=yh)) :
 ∃ u v:Int,∀ px py:Int,(px=xl∨px=xh)->(py=yl∨py=yh)->0<u*px+v*py:=by
 by_cases h1:0<xl
 . exact ⟨1,0,fun px py h k=>by omega⟩
 . by_cases h2:xh<0
   . exact ⟨-1,0,fun px py h k=>by omega⟩
   . by_cases h3:0<yl
     . exact ⟨0,1,fun px py h k=>by omega⟩
     . exact ⟨0,-1,fun px py h k=>by omega⟩
theorem PK (xl xh yl yh:Int) (k:Nat):(cX xl xh k=xl∨cX xl xh k=xh)/\(cY yl yh k=yl∨cY yl yh k=yh):=by
 simp only [cX,cY];constructor<;>split<;>simp
theorem kV {yl yh xl xh u v:Int} (H:∀ px py:Int,(px=xl∨px=xh)->(py=yl∨py=yh)->0<u*px+v*py) (k j:Nat) (hj:j<k) :
 0<=crs (aL xl xh yl yh k).1 (aL xl xh yl yh k).2 (cX xl xh j) (cY yl yh j):=by
 induction k with
 | zero=>omega
 | succ k ih =>
  have pi:=iw xl xh yl yh k;have ci:=PK xl xh yl yh k;have cj:=PK xl xh yl yh j;rw [show aL xl xh yl yh (k+1)=if qK (cX xl xh k) (cY yl yh k) (aL xl xh yl yh k).1 (aL xl xh yl yh k).2 then (cX xl xh k,cY yl yh k) else aL xl xh yl yh k from rfl]
  have hp:=H _ _ pi.1 pi.2;have hc:=H _ _ ci.1 ci.2;have hj':=H _ _ cj.1 cj.2;rw [Hg]
  by_cases h1:0<=crs (cX xl xh k) (cY yl yh k) (aL xl xh yl yh k).1 (aL xl xh yl yh k).2
  . rw [if_pos (by simpa using h1)]
    by_cases e:j=k
    . subst e;have:=Ci (cX xl xh j) (cY yl yh j);simp only [];omega
    . exact yK hc hp hj' h1 (ih (by omega))
  . rw [if_neg (by simpa using h1)]
    by_cases e:j=k
    . subst e;have:=pR (aL xl xh yl yh j).1 (aL xl xh yl yh j).2 (cX xl xh j) (cY yl yh j);omega
    . exact ih (by omega)
end Alm
namespace Alm
theorem Aa (yl yh xl xh:Int):0<=aT yl yh xl xh/\aT yl yh xl xh<=21599999/\aT yl yh xl xh<=bi yl yh xl xh/\bi yl yh xl xh<=aT yl yh xl xh+21600000:=by
 have a:=jg (aL xl xh yl yh 4).1 (aL xl xh yl yh 4).2;have b:=jg (aQ xl xh yl yh 4).1 (aQ xl xh yl yh 4).2;unfold bi aT upE;cases dX yl yh xl xh
 . simp only [Bool.false_eq_true,if_false];generalize aG (aL xl xh yl yh 4).1 (aL xl xh yl yh 4).2=f at *
   generalize aG (aQ xl xh yl yh 4).1 (aQ xl xh yl yh 4).2=l at *
   generalize fG (aQ xl xh yl yh 4).1 (aQ xl xh yl yh 4).2=e at *
   cases e<;>simp<;>split<;>omega
 . simp
