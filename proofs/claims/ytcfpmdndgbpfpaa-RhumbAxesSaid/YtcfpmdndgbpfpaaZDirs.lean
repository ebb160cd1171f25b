/- Plain numbers: no point of small coordinates lies near the ray of an angle. -/
import Derived.Test.YtcfpmdndgbpfpaaZCfB1
import Derived.Test.YtcfpmdndgbpfpaaZTrigs
import Derived.Test.YtcfpmdndgbpfpaaZArcHi
set_option linter.unusedVariables false
set_option linter.unusedSimpArgs false
namespace Alm
def aY:Rat:=1/((2^160:Int):Rat)
theorem PY:(fV:Rat)*aY=1:=by unfold fV aY;decide +kernel
theorem ig:0<aY:=by unfold aY;decide +kernel
theorem kD:aY<=1/1000000000000000000:=by unfold aY;decide +kernel
theorem rW:-aY<=(qc1:Rat)*aY-c1/\(qc1:Rat)*aY-c1<=aY:=by
 unfold aY c1 qc1 c1n dd tp;constructor<;>decide +kernel
theorem qE:-aY<=(qs1:Rat)*aY-s1/\(qs1:Rat)*aY-s1<=aY:=by
 unfold aY s1 qs1 s1n dd tp;constructor<;>decide +kernel
theorem BQ:0<s1/\s1<=3/10000000:=by unfold s1 s1n dd tp;constructor<;>decide +kernel
theorem Ay:99/100<=c1:=by unfold c1 c1n dd tp;decide +kernel
def ui (c s:Nat) (n:Nat) (e:Rat):Prop :=
 (-e<=(c:Rat)*aY-zc n/\(c:Rat)*aY-zc n<=e)/\(-e<=(s:Rat)*aY-zs n/\(s:Rat)*aY-zs n<=e)
theorem pM (X:Nat):((X/fV:Nat):Rat)*aY<=X*(aY*aY)/\X*(aY*aY)<=((X/fV:Nat):Rat)*aY+aY:=by
 have hF:0<fV:=by decide +kernel
 have h1:=Nat.div_mul_le_self X fV;have h2:=Nat.lt_div_mul_add (a:=X) hF;have g1:=bn _ _ h1;have g2:=bn _ _ (Nat.le_of_lt h2);rw [Rat.natCast_mul] at g1;rw [Rat.natCast_add,Rat.natCast_mul] at g2;have he:=PY;have hp:=ig;have hpp:0<=aY*aY:=aA _;generalize ((X/fV:Nat):Rat)=q at *
 generalize (fV:Rat)=F at *
 have k1:=Rat.mul_le_mul_of_nonneg_right g1 hpp;have k2:=Rat.mul_le_mul_of_nonneg_right g2 hpp;have e1:q*F*(aY*aY)=q*aY*(F*aY):=by grind
 have e2:(q*F+F)*(aY*aY)=(q*aY+aY)*(F*aY):=by grind
 rw [e1,he] at k1;rw [e2,he] at k2
 constructor<;>grind
theorem KW (a b c d:Nat) (A B C D:Rat) (h1:(a:Rat)*aY<=A) (h2:(b:Rat)*aY<=B) (h3:C<=(c:Rat)*aY) (h4:D<=(d:Rat)*aY) (hC:0<=C) (hD:0<=D) (h:A*B<=C*D):a*b<=c*d:=by
 have hp:=ig;have ha:=ax a;have hb:=ax b;have pa:0<=(a:Rat)*aY:=Rat.mul_nonneg ha (Rat.le_of_lt hp);have pb:0<=(b:Rat)*aY:=Rat.mul_nonneg hb (Rat.le_of_lt hp);have k1:=Rat.mul_le_mul_of_nonneg_right h1 pb;have k2:=Rat.mul_le_mul_of_nonneg_left h2 (show 0<=A by grind)
 have k3:=Rat.mul_le_mul_of_nonneg_right h3 hD;have k4:=Rat.mul_le_mul_of_nonneg_left h4 (show 0<=(c:Rat)*aY by grind)
 have hle:((a*b:Nat):Rat)<=((c*d:Nat):Rat):=by
  rw [Rat.natCast_mul,Rat.natCast_mul];have hpp:(0:Rat)<aY*aY:=Rat.mul_pos hp hp;apply Rat.le_of_mul_le_mul_right (c:=aY*aY) _ hpp;generalize (a:Rat)=a at *
  generalize (b:Rat)=b at *
  generalize (c:Rat)=c at *
  generalize (d:Rat)=d at *
  generalize aY=e at *
  have e1:a*b*(e*e)=a*e*(b*e):=by grind
  have e2:c*d*(e*e)=c*e*(d*e):=by grind
  grind
 exact_mod_cast hle
theorem TR (cp sp:Nat) (n:Nat) (e:Rat) (he0:0<=e) (he:e<=1/100) (h:ui cp sp n e) (hsub:sp*qs1<=cp*qc1) :
 ui ((cp*qc1-sp*qs1)/fV) ((sp*qc1+cp*qs1)/fV) (n+1) (e*(1+s1)+6*aY):=by
 obtain ⟨⟨a1,a2⟩,⟨b1,b2⟩⟩:=h;have d1:=pM (cp*qc1-sp*qs1);have d2:=pM (sp*qc1+cp*qs1);rw [eZ _ _ hsub,Rat.natCast_mul,Rat.natCast_mul] at d1;rw [Rat.natCast_add,Rat.natCast_mul,Rat.natCast_mul] at d2;have za1:=bM n;have za2:=bH n;have hC:=rW;have hS:=qE;have hep:=ig;have hes:=kD;have st:=BQ;have zr:=Gx;have zr2:=Ay;have zn:=fq n;have zn2:=bU n;unfold ui;rw [za1,za2];generalize (((cp*qc1-sp*qs1)/fV:Nat):Rat)=P1 at *
 generalize (((sp*qc1+cp*qs1)/fV:Nat):Rat)=P2 at *
 generalize (cp:Rat)=x at *
 generalize (sp:Rat)=y at *
 generalize (qc1:Rat)=c at *
 generalize (qs1:Rat)=s at *
 generalize zc n=u at *
 generalize zs n=v at *
 generalize c1=k at *
 generalize s1=l at *
 generalize aY=d at *
 have f1:(x*c-y*s)*(d*d)=(x*d)*(c*d)-(y*d)*(s*d):=by grind
 have f2:(y*c+x*s)*(d*d)=(y*d)*(c*d)+(x*d)*(s*d):=by grind
 rw [f1] at d1;rw [f2] at d2;obtain ⟨A,hA⟩:∃ A,A=x*d-u:=⟨_,rfl⟩;obtain ⟨B,hB⟩:∃ B,B=y*d-v:=⟨_,rfl⟩;obtain ⟨G,hG⟩:∃ G,G=c*d-k:=⟨_,rfl⟩;obtain ⟨H,hH⟩:∃ H,H=s*d-l:=⟨_,rfl⟩;rw [<-hA] at a1 a2;rw [<-hB] at b1 b2;rw [<-hG] at hC;rw [<-hH] at hS;have ex:x*d=u+A:=by grind
 have ey:y*d=v+B:=by grind
 have ec:c*d=k+G:=by grind
 have es:s*d=l+H:=by grind
 rw [ex,ey,ec,es] at d1 d2;clear hA hB hG hH ex ey ec es f1 f2;have t1:=ak A k e 1 a1 a2 (by grind) (by grind)
 have t2:=ak B l e l b1 b2 (by grind) (by grind)
 have t3:=ak (u+A) G (101/100) d (by grind) (by grind) hC.1 hC.2
 have t4:=ak (v+B) H (101/100) d (by grind) (by grind) hS.1 hS.2
 have t5:=ak B k e 1 b1 b2 (by grind) (by grind)
 have t6:=ak A l e l a1 a2 (by grind) (by grind)
 have t7:=ak (v+B) G (101/100) d (by grind) (by grind) hC.1 hC.2
 have t8:=ak (u+A) H (101/100) d (by grind) (by grind) hS.1 hS.2
 refine ⟨⟨?_,?_⟩,⟨?_,?_⟩⟩<;>grind
def oo (t n:Nat):Prop:=ui (t%bP) (t/bP) n (11*n*aY)
theorem En (t:Nat):stp t%bP=((t%bP)*qc1-(t/bP)*qs1)/fV/\stp t/bP=((t/bP)*qc1+(t%bP)*qs1)/fV:=by
 have h:((t%bP)*qc1-(t/bP)*qs1)/fV<bP:=by
  have h1:t%bP<bP:=Nat.mod_lt _ (by decide +kernel)
  have h2:(t%bP)*qc1<=(t%bP)*fV:=Nat.mul_le_mul_left _ (by decide +kernel)
  have h3:((t%bP)*qc1-(t/bP)*qs1)/fV<=t%bP:=by
   apply Nat.div_le_of_le_mul;rw [Nat.mul_comm fV];omega
  omega
 have hW:0<bP:=by decide +kernel
 unfold stp;generalize ((t%bP)*qc1-(t/bP)*qs1)/fV=x at *
 generalize ((t/bP)*qc1+(t%bP)*qs1)/fV=y at *
 generalize bP=W at *
 exact ⟨by rw [Nat.add_mul_mod_self_left,Nat.mod_eq_of_lt h],by rw [Nat.add_mul_div_left _ _ hW,Nat.div_eq_of_lt h,Nat.zero_add]⟩
theorem Gi (t n:Nat) (hn:n<=1360000) (h:oo t n):oo (stp t) (n+1):=by
 have hp:=ig;have hs:=kD;have hc:=rW;have hs1:=qE;have b1:=BQ;have b2:=Ay;have zcn:=dw n (by omega)
 have zsn:=bU n;have hnn:(n:Rat)<=1360000:=by exact_mod_cast hn
 have hn0:=ax n;have he0:0<=11*(n:Rat)*aY:=Rat.mul_nonneg (by grind) (by grind)
 have he1:11*(n:Rat)*aY<=14960000*aY:=Rat.mul_le_mul_of_nonneg_right (by grind) (by grind)
 have hh:=h;unfold oo at h
 have g:=TR (t%bP) (t/bP) n (11*n*aY) he0 (by grind) h
  (by
   obtain ⟨⟨a1,a2⟩,⟨a3,a4⟩⟩:=h;apply KW (t/bP) qs1 (t%bP) qc1 2 (1/100) (1/10) (9/10)<;>grind)
 have hle:11*(n:Rat)*aY*(1+s1)+6*aY<=11*(n+1:Nat)*aY:=by
  have e1:((n+1:Nat):Rat)=(n:Rat)+1:=by norm_cast
  rw [e1];have m:=Rat.mul_le_mul_of_nonneg_left b1.2 he0;grind
 obtain ⟨p1,p2⟩:=En t;unfold oo;rw [p1,p2];generalize 11*(n:Rat)*aY*(1+s1)+6*aY=E at *
 unfold ui at *
 obtain ⟨⟨a1,a2⟩,⟨a3,a4⟩⟩:=g;refine ⟨⟨?_,?_⟩,⟨?_,?_⟩⟩<;>grind
def T1:Nat:=2668606815930616794422295251795238276401961381301642649179619132477219630421654918950972168987929389
theorem LM:oo T1 1:=by
 have a:T1%bP=qc1:=by decide +kernel
 have b:T1/bP=qs1:=by decide +kernel
 unfold oo ui;rw [a,b,GJ,wB];have hc:=rW;have hs1:=qE;have hp:=ig;have e:((1:Nat):Rat)=1:=rfl;rw [e];refine ⟨⟨?_,?_⟩,⟨?_,?_⟩⟩<;>grind
theorem xL:∀ j:Nat,j<=1359999->oo (Bq j T1) (1+j)
 | 0,_=>LM
 | j+1,h=>by
  rw [Ef];have h2:=Gi (Bq j T1) (1+j) (by omega) (xL j (by omega))
  rw [show 1+(j+1)=1+j+1 by omega]
  exact h2
theorem Jm:Walk 1351680 T1 3514879727201953102891235138955415353210249926988623055823917715107581327316116319700368899033249232865815:=fZ (by decide +kernel) (af (af (af SQ QM) SE) R9)
theorem Kk:aj*1351680<=2/5:=by unfold aj;decide +kernel
theorem Me (m j:Nat) (y:Rat):hr (m+1) j y=1-y/(((j+1)*(j+2):Nat):Rat)*hr m (j+2) y:=by rw [hr]
theorem OU (n:Nat) (h:n<=1351680):3/4<=zc n:=by
 obtain ⟨_,h2⟩:=near n (by omega)
 obtain ⟨_,y0,y1,_,_⟩:=jR n (by omega)
 have hb:=nU 33 2 _ y0 y1;have e:=DI n;have ht:=gU.1;have hn:(n:Rat)<=1351680:=by exact_mod_cast h
 have hx2:=Rat.mul_le_mul_of_nonneg_right hn (Rat.le_of_lt ht);have hx3:=Kk;have hx:0<=(n:Rat)*aj:=Rat.mul_nonneg (ax n) (Rat.le_of_lt ht);have k:=nJ;have q:=oQ _ ((0+1)*(0+2)) (by omega) y0 y1
 rw [Me 33 0] at e;have e2:(((0+1)*(0+2):Nat):Rat)=2:=rfl;rw [e2] at q e
 have hsq:((n*aj)*(n*aj))<=4/25:=by
  have:=ak ((n:Rat)*aj) ((n:Rat)*aj) (2/5) (2/5) (by grind) (by grind) (by grind) (by grind)
  grind
 clear hx2 hx3 hx hn;generalize (n:Rat)*aj*((n:Rat)*aj)=y at *
 generalize hr 33 2 y=H at *
 generalize y/2=z at *
 have m:=ak z H (2/25) 1 (by grind) (by grind) (by grind) (by grind)
 grind
def e61:Rat:=1/((2^61:Int):Rat)
theorem Oo:(1267650600228229401496703205376:Rat)*aY=2*e61:=by unfold e61 aY;decide +kernel
theorem e137:8589934592*(14960000*aY)<=e61:=by unfold e61 aY;decide +kernel
theorem Jq (n:Nat) (h0:1<=n) (h1:n<=1351680) (X Y:Int) (hn:¬ (X=0/\Y=0)) (hX:-4294967296<=X/\X<=4294967296) (hY:-4294967296<=Y/\Y<=4294967296) :
 e61<=(X:Rat)*zs n-Y*zc n∨(X:Rat)*zs n-Y*zc n<=-e61:=by
 obtain ⟨j,rfl⟩:∃ j,n=1+j:=⟨n-1,by omega⟩
 obtain ⟨g1,g2,g3⟩:=EO Jm j (by omega)
 have hN:=xL j (by omega)
 unfold oo at hN;generalize Bq j T1%bP=c at *
 generalize Bq j T1/bP=s at *
 obtain ⟨⟨a1,a2⟩,⟨b1,b2⟩⟩:=hN;have hp:=ig;have hes:=kD;have zcn:=dw (1+j) (by omega)
 have hjj:((1+j:Nat):Rat)<=1360000:=by exact_mod_cast (show 1+j<=1360000 by omega)
 have hE:11*((1+j:Nat):Rat)*aY<=14960000*aY:=Rat.mul_le_mul_of_nonneg_right (by grind) (by grind)
 have zc22:3/4<=zc (1+j):=OU (1+j) (by omega)
 have hc:730750818665451459101842416358141509827966271488<=c:=by
  have q:(730750818665451459101842416358141509827966271488:Rat)*aY=1/2:=by unfold aY;decide +kernel
  have:((730750818665451459101842416358141509827966271488:Nat):Rat)<=(c:Rat):=by
   apply Rat.le_of_mul_le_mul_right (c:=aY) _ hp;have e:((730750818665451459101842416358141509827966271488:Nat):Rat)=730750818665451459101842416358141509827966271488:=rfl;rw [e,q];grind
  exact_mod_cast this
 have hr:=GR 200 (c-1) (s-1) (by omega) g3
 rw [show c-1+1=c by omega,show s-1+1=s by omega] at hr
 have hf:=IL c s hr hc X Y hn hX;have hXr:-(4294967296:Rat)<=(X:Rat)/\(X:Rat)<=4294967296:=⟨Rat.intCast_le_intCast.2 hX.1,Rat.intCast_le_intCast.2 hX.2⟩;have hYr:-(4294967296:Rat)<=(Y:Rat)/\(Y:Rat)<=4294967296:=⟨Rat.intCast_le_intCast.2 hY.1,Rat.intCast_le_intCast.2 hY.2⟩;have q1:=Oo;have q2:=e137;have m1:=ak (X:Rat) ((s:Rat)*aY-zs (1+j)) 4294967296 (14960000*aY) hXr.1 hXr.2 (by grind) (by grind)
 have m2:=ak (Y:Rat) ((c:Rat)*aY-zc (1+j)) 4294967296 (14960000*aY) hYr.1 hYr.2 (by grind) (by grind)
 have hf':(1267650600228229401496703205376:Rat)<=(X:Rat)*s-Y*c∨(X:Rat)*s-Y*c<=-1267650600228229401496703205376:=by
  rcases hf with hf|hf
  . left
    have:((1267650600228229401496703205376:Int):Rat)<=((X*s-Y*c:Int):Rat):=Rat.intCast_le_intCast.2 hf;rw [Rat.intCast_sub,Rat.intCast_mul,Rat.intCast_mul,Rat.intCast_natCast,Rat.intCast_natCast] at this;exact this
  . right
    have:((X*s-Y*c:Int):Rat)<=((-1267650600228229401496703205376:Int):Rat):=Rat.intCast_le_intCast.2 hf;rw [Rat.intCast_sub,Rat.intCast_mul,Rat.intCast_mul,Rat.intCast_natCast,Rat.intCast_natCast] at this;exact this
 clear hr hc g1 g2 g3 hf hX hY hn a1 a2 b1 b2 zc22 zcn hE hjj h0 h1;generalize zs (1+j)=u at *
 generalize zc (1+j)=v at *
 generalize (c:Rat)=c at *
 generalize (s:Rat)=s at *
 generalize (X:Rat)=X at *
 generalize (Y:Rat)=Y at *
 have ex:(X*s-Y*c)*aY=X*(s*aY-u)-Y*(c*aY-v)+(X*u-Y*v):=by grind
 rcases hf' with hf|hf
 . left
   have k:=Rat.mul_le_mul_of_nonneg_right hf (Rat.le_of_lt hp);rw [ex,q1] at k;grind
 . right
   have k:=Rat.mul_le_mul_of_nonneg_right hf (Rat.le_of_lt hp);rw [ex] at k;grind
theorem jA:-(4*bg)<=zs 2700000-zc 2700000/\zs 2700000-zc 2700000<=4*bg:=by
 have h:=near 2700000 (by omega)
 have m:=uD
 have hs:=il (ps 2700000-pc 2700000) (ev sP M0-ev cP M0) L0 kH (by
  have a:=eU 2700000;have b:=fH 2700000;have e:((2700000:Nat):Int)=M0:=rfl;rw [e] at a b;rw [Rat.intCast_sub];grind) m
 have k:aH<=bg:=by unfold bg aH;decide +kernel
 generalize ps 2700000=a at *
 generalize pc 2700000=b at *
 generalize zs 2700000=c at *
 generalize zc 2700000=d at *
 generalize bg=e at *
 generalize aH=f at *
 grind
theorem PP:e61=2*e62:=by unfold e61 e62;decide +kernel
theorem Om:8589934592*(4*bg)<=1/1000000000*e62:=by unfold bg aH e62;decide +kernel
theorem zT:7/10<=zc 2700000:=by
 have f2:FlR (zc 2700000) 759250124:=Au;unfold FlR at f2;have m:0<mg:=by unfold mg;decide +kernel
 have u:u30=1/1073741824:=by unfold u30;decide +kernel
 rw [u] at f2;generalize zc 2700000=x at *
 grind
theorem IM (n:Nat) (h0:0<n) (h1:n<2700000) (X Y:Int) (hn:¬ (X=0/\Y=0)) (hX:-2147483648<=X/\X<=2147483648) (hY:-2147483648<=Y/\Y<=2147483648) :
 e62<=(X:Rat)*zs n-Y*zc n∨(X:Rat)*zs n-Y*zc n<=-e62:=by
 have ep:0<e62:=by unfold e62;decide +kernel
 have e1:=PP
 by_cases hs:n<=1351680
 . have h:=Jq n (by omega) hs X Y hn (by omega) (by omega)
   rw [e1] at h;clear hX hY hn hs h0 h1;rcases h with h|h
   . left;grind
   . right;grind
 . obtain ⟨j,hj⟩:∃ j,j+n=2700000:=⟨2700000-n,by omega⟩
   have h:=Jq j (by omega) (by omega) (X+Y) (X-Y) (by omega) (by omega) (by omega)
   have hu:=iR j;obtain ⟨a1,a2⟩:=tH j n;rw [hj] at a1 a2;have m:=jA;have zm:=zT;have q1:=Om;have hXr:-(2147483648:Rat)<=(X:Rat)/\(X:Rat)<=2147483648:=⟨Rat.intCast_le_intCast.2 hX.1,Rat.intCast_le_intCast.2 hX.2⟩;have hYr:-(2147483648:Rat)<=(Y:Rat)/\(Y:Rat)<=2147483648:=⟨Rat.intCast_le_intCast.2 hY.1,Rat.intCast_le_intCast.2 hY.2⟩;have zl1:=bU j;have zl2:=fq j;have dp:0<bg:=by unfold bg aH;decide +kernel
   rw [Rat.intCast_add,Rat.intCast_sub,e1] at h;clear hX hY hn hs h0 h1 hj e1;generalize zs 2700000=sM at *
   generalize zc 2700000=cM at *
   generalize zs n=u at *
   generalize zc n=v at *
   generalize zs j=s at *
   generalize zc j=c at *
   generalize (X:Rat)=x at *
   generalize (Y:Rat)=y at *
   have k1:u=sM*c-cM*s:=by rw [a1,a2];grind
   have k2:v=cM*c+sM*s:=by rw [a1,a2];grind
   have k3:x*u-y*v=-cM*((x+y)*s-(x-y)*c)+(sM-cM)*(x*c-y*s):=by rw [k1,k2];grind
   have b1:=ak x c 2147483648 1 hXr.1 hXr.2 zl2.1 zl2.2;have b2:=ak y s 2147483648 1 hYr.1 hYr.2 zl1.1 zl1.2;have b3:=ak (sM-cM) (x*c-y*s) (4*bg) 4294967296 m.1 m.2 (by grind) (by grind)
   rw [k3];generalize (x+y)*s-(x-y)*c=F at *
   generalize (sM-cM)*(x*c-y*s)=E at *
   clear k1 k2 k3 a1 a2 b1 b2 hu hXr hYr zl1 zl2;generalize bg=D at *
   generalize e62=e at *
   rcases h with h|h
   . right
     have t:=Rat.mul_nonneg (show 0<=F-2*e by grind) (show 0<=cM-7/10 by grind)
     have t2:=Rat.mul_nonneg (show 0<=e by grind) (show 0<=cM-7/10 by grind)
     grind
   . left
     have t:=Rat.mul_nonneg (show 0<=-(2*e)-F by grind) (show 0<=cM-7/10 by grind)
     have t2:=Rat.mul_nonneg (show 0<=e by grind) (show 0<=cM-7/10 by grind)
     grind
end Alm
namespace Go.Proofs.Ytcfpmdndgbpfpaa
open Alm
theorem s1_low:29/100000000<=s1:=by unfold s1 s1n dd tp;decide +kernel
theorem Dt:s1<=3/10000000:=by unfold s1 s1n dd tp;decide +kernel
theorem Al:4/100000000000000<=1-c1/\1-c1<=1/10000000000000:=by unfold c1 c1n dd tp;constructor<;>decide +kernel
theorem zs_up (n:Nat) (h:n<=2700000):zs n+1/10000000<=zs (n+1):=by
 rw [bH];have a:=dw n h;have b:=bU n;have c:=Al;have s:=s1_low;have e1:0<=(zc n-49/100)*(s1-29/100000000):=Rat.mul_nonneg (by grind) (by grind)
 have e2:0<=(1-zs n)*(1-c1):=Rat.mul_nonneg (by grind) (by grind)
 grind
theorem oO (n:Nat) (h:n<=2700000):zc (n+1)<zc n:=by
 rw [bM];have a:=dw n h;have b:=nD n h;have c:=Al;have s:=Dt;have s':=s1_low;have e1:0<=(zc n-49/100)*(1-c1-4/100000000000000):=Rat.mul_nonneg (by grind) (by grind)
 have e2:0<=(zs n+1/1000000000)*s1:=Rat.mul_nonneg (by grind) (by grind)
 grind
theorem OD:((ev sP 1800000*2-L0).natAbs:Int)*2^60<=L0*2:=by decide +kernel
theorem mP:u30=1/1073741824:=by unfold u30;decide +kernel
theorem I6:0<mg:=by unfold mg;decide +kernel
theorem Jv (n:Nat) (hn:n+1=2700000):zs (n+1)<zc n:=by
 have f1:FlR (zs (n+1)) 759250124:=by rw [hn];exact Ju
 have f2:FlR (zc (n+1)) 759250124:=by rw [hn];exact Au
 unfold FlR at f1 f2;rw [mP] at f1 f2;have m:=I6;have e:=bM n;have e':=bH n;have b:=nD n (by omega)
 have a:=dw n (by omega)
 have b2:=bU n;have a2:=fq n;have c:=Al;have s:=s1_low;have s2:=Dt;clear hn;generalize zs (n+1)=x' at *
 generalize zc (n+1)=y' at *
 generalize zs n=x at *
 generalize zc n=y at *
 have e1:0<=(1-y)*s1:=Rat.mul_nonneg (by grind) (by grind)
 have e2:0<=(x+1/1000000000)*(1-c1):=Rat.mul_nonneg (by grind) (by grind)
 have k:69/100<=x:=by grind
 have e3:0<=(x-69/100)*(s1-29/100000000):=Rat.mul_nonneg (by grind) (by grind)
 have e4:0<=(y-49/100)*(1-c1):=Rat.mul_nonneg (by grind) (by grind)
 grind
theorem Mq (n:Nat) (hn:n=1800000):-(2/1000000000)<=zs n-1/2/\zs n-1/2<=2/1000000000:=by
 have h:=(near n (by omega)).1
 have d:=nJ
 have p:-(1/1000000000000)<=ps n-1/2/\ps n-1/2<=1/1000000000000:=by
  have m:=eU n;have q:=OD;have l:=mJ;rw [<-show ((n:Nat):Int)=1800000 by omega] at q
  generalize ev sP (n:Int)=E at *
  have q1:((E*2-L0)*2^60<=L0*2)/\(-(L0*2)<=(E*2-L0)*2^60):=by omega
  have r1:(((E*2-L0)*2^60:Int):Rat)<=((L0*2:Int):Rat):=by exact_mod_cast q1.1
  have r2:((-(L0*2):Int):Rat)<=(((E*2-L0)*2^60:Int):Rat):=by exact_mod_cast q1.2
  clear q q1 h d hn;generalize L0=L at *
  simp only [Rat.intCast_mul,Rat.intCast_sub,Rat.intCast_neg] at r1 r2;generalize (L:Rat)=l0 at *
  generalize ps n=x at *
  have hx:(E:Rat)=x*l0:=m.symm;rw [hx] at r1 r2;have k:(((2^60:Int)):Rat)=1152921504606846976:=by decide +kernel
  have k2:((2:Int):Rat)=2:=by decide +kernel
  rw [k,k2] at r1 r2;refine ⟨?_,?_⟩
  . refine Rat.not_lt.1 fun hh=>?_
    have:0<(1/2-1/1000000000000-x)*l0:=Rat.mul_pos (by grind) l
    grind
  . refine Rat.not_lt.1 fun hh=>?_
    have:0<(x-1/2-1/1000000000000)*l0:=Rat.mul_pos (by grind) l
    grind
 grind
def sS (n:Nat):Rat:=if n=1800000 then 1/2 else if 2*n<=5400000 then zs n else zc (5400000-n)
theorem QL (n:Nat) (h:n<5400000):sS n<sS (n+1):=by
 unfold sS
 by_cases h1:n=1800000
 . have a:=Mq n h1;have b:=zs_up n (by omega)
   rw [if_pos h1,if_neg (by omega),if_pos (by omega)]
   clear h1 h;grind
 . rw [if_neg h1]
   by_cases h2:n+1=1800000
   . have a:=Mq (n+1) h2;have b:=zs_up n (by omega)
     rw [if_pos h2,if_pos (by omega)]
     clear h1 h h2;grind
   . rw [if_neg h2]
     by_cases h3:2*(n+1)<=5400000
     . rw [if_pos h3,if_pos (by omega)]
       have b:=zs_up n (by omega)
       clear h1 h h2 h3;grind
     . rw [if_neg h3]
       by_cases h4:2*n<=5400000
       . rw [if_pos h4];have:=Jv (5400000-(n+1)) (by omega)
         rw [show 5400000-(n+1)+1=n by omega] at this
         exact this
       . rw [if_neg h4];have:=oO (5400000-(n+1)) (by omega)
         rw [show 5400000-(n+1)+1=5400000-n by omega] at this
         exact this
theorem mM (m:Nat):∀ n:Nat,m<n->n<=5400000->sS m<sS n
 | 0,h,_=>by omega
 | n+1,h,h2=>by
  have up:=QL n (by omega)
  by_cases e:m=n
  . subst e;exact up
  . have:=mM m n (by omega) (by omega)
    clear h h2 e;grind
theorem oL:sS 0=0:=by unfold sS;rw [if_neg (by omega),if_pos (by omega)];exact dA
theorem Bc (n:Nat) (h:n=5400000):sS n=1:=by
 unfold sS;rw [if_neg (by omega),if_neg (by omega),show 5400000-n=0 by omega]
 exact dQ
theorem tX {s:Rat} {q:Nat} (h:FlR s q):((q:Int):Rat)*u30<=s/\s<=(((q:Int)+1:Int):Rat)*u30:=by
 have m:=I6;unfold FlR at h;rw [mP] at *
 rw [Rat.intCast_add];have:((1:Int):Rat)=1:=rfl;rw [this];grind
theorem mV (n:Nat) (h:n<=5400000):(dJ (n:Int):Rat)*u30<=sS n/\sS n<=((dJ (n:Int)+(if fC (n:Int) then 0 else 1):Int):Rat)*u30:=by
 by_cases h0:n=0
 . subst h0;rw [oL];have a:dJ ((0:Nat):Int)=0:=by decide
   have b:fC ((0:Nat):Int)=true:=by decide
   rw [a,b,if_pos rfl];have:((0:Int):Rat)=0:=rfl;rw [Int.add_zero,this];grind
 by_cases h1:n=1800000
 . have a:dJ (n:Int)=536870912:=by rw [h1];decide
   have b:fC (n:Int)=true:=by rw [h1];decide
   have c:sS n=1/2:=by unfold sS;rw [if_pos h1]
   rw [a,b,c,if_pos rfl,mP,Int.add_zero];have:((536870912:Int):Rat)=536870912:=rfl;rw [this];clear a b c h h0 h1;grind
 by_cases h2:n=5400000
 . have a:dJ (n:Int)=1073741824:=by rw [h2];decide
   have b:fC (n:Int)=true:=by rw [h2];decide
   rw [a,b,Bc n h2,if_pos rfl,mP,Int.add_zero];have:((1073741824:Int):Rat)=1073741824:=rfl;rw [this];clear a b h h0 h1 h2;grind
 have e:fC (n:Int)=false:=by
  unfold fC;simp only [Bool.or_eq_false_iff,beq_eq_false_iff_ne];refine ⟨⟨?_,?_⟩,?_⟩<;>omega
 have v:dJ (n:Int)=(jZ n:Int):=by
  unfold dJ;rw [if_neg (by omega),if_neg (by omega),if_neg (by omega),Int.toNat_natCast]
 rw [e,v,if_neg (by simp)]
 unfold sS jZ;rw [if_neg h1]
 by_cases h3:2*n<=5400000
 . rw [if_pos h3,if_pos h3];obtain ⟨q,hq⟩:=MZ n (by omega) h0 h1
   rw [JV n (by omega) q hq]
   exact tX hq
 . rw [if_neg h3,if_neg h3];obtain ⟨q,hq⟩:=Nt (5400000-n) (by omega) (by omega)
   rw [Mc (5400000-n) (by omega) q hq]
   exact tX hq
def sR (n:Int):Rat:=if 0<=n then sS n.toNat else -sS (-n).toNat
theorem DY (n:Int) (h0:0<=n) (h1:n<=5400000):aO n=n/\dG n=false:=by
 unfold aO dG ay;simp only [];refine ⟨by split<;>split<;>omega,by simp;omega⟩
theorem FK (n:Int) (h0:-5400000<=n) (h1:n<0):aO n=-n/\dG n=true:=by
 unfold aO dG ay;simp only [];refine ⟨by split<;>split<;>omega,by simp;omega⟩
theorem uz (n:Int) (h0:-5400000<=n) (h1:n<=5400000):(bLo n:Rat)*u30<=sR n/\sR n<=(bHi n:Rat)*u30:=by
 unfold sR bLo bHi
 by_cases h:0<=n
 . obtain ⟨a,b⟩:=DY n h h1;rw [a,b,if_pos h,if_neg (by simp),if_neg (by simp)]
   have:=mV n.toNat (by omega)
   rw [Int.toNat_of_nonneg h] at this;exact this
 . obtain ⟨a,b⟩:=FK n h0 (by omega)
   rw [a,b,if_neg h,if_pos rfl,if_pos rfl];have:=mV (-n).toNat (by omega)
   rw [Int.toNat_of_nonneg (show (0:Int)<=-n by omega)] at this
   rw [Rat.intCast_neg,Rat.intCast_neg];generalize (((dJ (-n)+if fC (-n)=true then 0 else 1:Int)):Rat)=x at *
   generalize ((dJ (-n):Int):Rat)=y at *
   clear a b h h0 h1;grind
theorem Kz (m n:Int) (h0:-5400000<=m) (h:m<n) (h1:n<=5400000):sR m<sR n:=by
 unfold sR
 by_cases hm:0<=m
 . rw [if_pos hm,if_pos (by omega)]
   exact mM _ _ (by omega) (by omega)
 . rw [if_neg hm];have a:=mM 0 (-m).toNat (by omega) (by omega)
   rw [oL] at a
   by_cases hn:0<=n
   . rw [if_pos hn]
     have b:0<=sS n.toNat:=by
      by_cases z:n.toNat=0
      . rw [z,oL];exact Rat.le_refl
      . have:=mM 0 n.toNat (by omega) (by omega)
        rw [oL] at this;exact Rat.le_of_lt this
     clear h0 h h1 hm hn;grind
   . rw [if_neg hn];have:=mM (-n).toNat (-m).toNat (by omega) (by omega)
     clear h0 h h1 hm hn;grind
theorem Ov (m n:Int) (h0:-5400000<=m) (h:m<n) (h1:n<=5400000):bLo m<bHi n:=by
 have a:=(uz m h0 (by omega)).1
 have b:=(uz n (by omega) h1).2
 have c:=Kz m n h0 h h1;rw [mP] at a b
 have k:(bLo m:Rat)<(bHi n:Rat):=by
  clear h0 h h1;grind
 exact_mod_cast k
end Go.Proofs.Ytcfpmdndgbpfpaa
namespace Alm
def frm (x y:Int) (k:Nat):Rat:=if k<=2700000 then (x:Rat)*zs k-y*zc k else (x:Rat)*zc (5400000-k)-y*zs (5400000-k)
def past (x y:Int) (k:Nat):Prop:=if k=2700000 then y<x else 0<frm x y k
theorem ql (n:Nat) (h:n<=2700000):0<=zs n:=by
 induction n with
 | zero=>rw [dA];exact Rat.le_refl
 | succ n ih =>
  have a:=ih (by omega)
  have b:=Go.Proofs.Ytcfpmdndgbpfpaa.zs_up n (by omega)
  clear ih h;grind
theorem vL {x:Int} (h:0<=x) (h2:x<=2147483648):(0:Rat)<=(x:Rat)/\(x:Rat)<=2147483648:=⟨Rat.intCast_le_intCast.2 h,Rat.intCast_le_intCast.2 h2⟩
theorem Kj (x y:Int) (k:Nat) (h0:0<k) (h1:k<5400000) (h2:k≠2700000) (hn:¬ (x=0/\y=0)) (hx:0<=x/\x<=2147483648) (hy:0<=y/\y<=2147483648) :
 e62<=frm x y k∨frm x y k<=-e62:=by
 unfold frm
 by_cases h:k<=2700000
 . rw [if_pos h];exact IM k h0 (by omega) x y hn (by omega) (by omega)
 . rw [if_neg h];have f:=IM (5400000-k) (by omega) (by omega) y x (by omega) (by omega) (by omega)
   clear hx hy hn h0 h1 h2 h;generalize zs (5400000-k)=u at *
   generalize zc (5400000-k)=v at *
   rcases f with f|f
   . right;grind
   . left;grind
theorem SL:4294967296*(220*ah)<=1/2*e62:=by unfold ah e62;decide +kernel
theorem TT:0<e62:=by unfold e62;decide +kernel
theorem JS (k:Nat) (hk:k<=5400000):-(220*ah)<=(sN k:Rat)*ah-(if k<=2700000 then zs k else zc (5400000-k))/\(sN k:Rat)*ah-(if k<=2700000 then zs k else zc (5400000-k))<=220*ah:=by
 unfold sN
 by_cases h:k<=2700000
 . rw [if_pos h,if_pos h];have a:=H7 k h;rw [<-(pz k h).1,Rat.intCast_natCast] at a;exact a
 . rw [if_neg h,if_neg h];have a:=Gt (5400000-k) (by omega)
   rw [<-(oP (5400000-k) (by omega)).1,Rat.intCast_natCast] at a
   exact a
theorem LA (k:Nat) (hk:k<=5400000):-(220*ah)<=(cN k:Rat)*ah-(if k<=2700000 then zc k else zs (5400000-k))/\(cN k:Rat)*ah-(if k<=2700000 then zc k else zs (5400000-k))<=220*ah:=by
 unfold cN
 by_cases h:k<=2700000
 . rw [if_pos h,if_pos h];have a:=Gt k h;rw [<-(oP k h).1,Rat.intCast_natCast] at a;exact a
 . rw [if_neg h,if_neg h];have a:=H7 (5400000-k) (by omega)
   rw [<-(pz (5400000-k) (by omega)).1,Rat.intCast_natCast] at a
   exact a
theorem Bj (x y:Int) (k:Nat) (h0:0<k) (h1:k<5400000) (hn:¬ (x=0/\y=0)) (hx:0<=x/\x<=2147483648) (hy:0<=y/\y<=2147483648) :
 gP x y k=true↔¬ past x y k:=by
 unfold gP past;rw [decide_eq_false (show ¬ k=0 by omega),Bool.false_or]
 by_cases hm:k=2700000
 . rw [if_pos hm,if_pos hm,decide_eq_true_iff];omega
 . rw [if_neg hm,if_neg hm,decide_eq_true_iff];have gap:=Kj x y k h0 h1 hm hn hx hy;have a:=JS k (by omega)
   have b:=LA k (by omega)
   have bx:=vL hx.1 hx.2;have by':=vL hy.1 hy.2
   have nz:=SL;have dp:=aM;have ep:=TT
   have ef:frm x y k=(x:Rat)*(if k<=2700000 then zs k else zc (5400000-k))-y*(if k<=2700000 then zc k else zs (5400000-k)):=by
    unfold frm;split<;>rfl
   have cx:((x.toNat:Nat):Rat)=(x:Rat):=by
    have:((x.toNat:Nat):Int)=x:=Int.toNat_of_nonneg hx.1;rw [<-Rat.intCast_natCast,this]
   have cy:((y.toNat:Nat):Rat)=(y:Rat):=by
    have:((y.toNat:Nat):Int)=y:=Int.toNat_of_nonneg hy.1;rw [<-Rat.intCast_natCast,this]
   have key:(sN k*x.toNat<=cN k*y.toNat)↔((sN k:Rat)*x<=(cN k:Rat)*y):=by
    rw [<-cx,<-cy,<-Rat.natCast_mul,<-Rat.natCast_mul];exact Rat.natCast_le_natCast.symm
   rw [key,ef];rw [ef] at gap;clear key cx cy ef hx hy hn h0 h1 hm;generalize (if k<=2700000 then zs k else zc (5400000-k))=s at *
   generalize (if k<=2700000 then zc k else zs (5400000-k))=c at *
   generalize (sN k:Rat)=S at *
   generalize (cN k:Rat)=C at *
   generalize (x:Rat)=x at *
   generalize (y:Rat)=y at *
   have m1:=ak x (S*ah-s) 2147483648 (220*ah) (by grind) bx.2 a.1 a.2
   have m2:=ak y (C*ah-c) 2147483648 (220*ah) (by grind) by'.2 b.1 b.2
   have e1:(S*x-C*y)*ah=x*(S*ah-s)-y*(C*ah-c)+(x*s-y*c):=by grind
   generalize x*(S*ah-s)=p at *
   generalize y*(C*ah-c)=q at *
   generalize x*s-y*c=f at *
   generalize S*x=A at *
   generalize C*y=B at *
   clear a b bx by'
   constructor
   . intro h hf;have:0<=(B-A)*ah:=Rat.mul_nonneg (by grind) (Rat.le_of_lt dp)
     rcases gap with g|g
     . grind
     . grind
   . intro h;refine Rat.not_lt.1 fun hh=>?_
     have:0<(A-B)*ah:=Rat.mul_pos (by grind) dp
     rcases gap with g|g
     . grind
     . grind
theorem Ee (x y:Int) (hy:0<=y):¬ past x y 0:=by
 unfold past frm;rw [if_neg (by omega),if_pos (by omega),dA,dQ]
 have:(0:Rat)<=(y:Rat):=Rat.intCast_le_intCast.2 hy;grind
theorem Io (x y:Int) (hx:0<x):past x y 5400000:=by
 unfold past frm;rw [if_neg (by omega),if_neg (by omega),Nat.sub_self,dA,dQ]
 have:(0:Rat)<(x:Rat):=Rat.intCast_lt_intCast.2 hx;grind
theorem QZ:2147483648*(4*bg)<=1/1000000000:=by unfold bg aH;decide +kernel
theorem MU:4*bg<=1/1000000000:=by unfold bg aH;decide +kernel
theorem PI:99/100<=c1/\c1<=1:=⟨Ay,Gx.2⟩
theorem DR (x y:Int) (k:Nat) (h1:k<5400000) (hx:0<x/\x<=2147483648) (hy:0<=y/\y<=2147483648) (h:past x y k):past x y (k+1):=by
 have bx:=vL (Int.le_of_lt hx.1) hx.2;have by':=vL hy.1 hy.2
 have x1:(1:Rat)<=(x:Rat):=Rat.intCast_le_intCast.2 hx.1;have sl:=Go.Proofs.Ytcfpmdndgbpfpaa.s1_low;have cl:=PI;unfold past at *
 by_cases ha:k+1<2700000
 . rw [if_neg (by omega)] at h ⊢
   unfold frm at *
   rw [if_pos (by omega)] at h ⊢
   rw [bH,bM];have a:=dw k (by omega)
   have b:=ql k (by omega)
   clear hx hy h1 ha;generalize zs k=s at *
   generalize zc k=c at *
   generalize (x:Rat)=x at *
   generalize (y:Rat)=y at *
   generalize c1=p at *
   generalize s1=q at *
   have m1:0<(x*s-y*c)*p:=Rat.mul_pos h (by grind)
   have m2:0<=(x*c)*q:=Rat.mul_nonneg (Rat.mul_nonneg (by grind) (by grind)) (by grind)
   have m3:0<=(y*s)*q:=Rat.mul_nonneg (Rat.mul_nonneg (by grind) (by grind)) (by grind)
   grind
 by_cases hb:k+1=2700000
 . rw [if_pos hb];rw [if_neg (by omega)] at h
   unfold frm at h;rw [if_pos (by omega)] at h
   have a:=dw k (by omega)
   have b:=ql k (by omega)
   have e1:=bH k;have e2:=bM k;rw [hb] at e1 e2;have m:=jA;have md:=MU;have zm:=zT;rcases Int.lt_or_le y x with hh|hh
   . exact hh
   . exfalso;have xy:(x:Rat)<=(y:Rat):=Rat.intCast_le_intCast.2 hh;clear hx hy h1 ha hb hh;generalize zs 2700000=sM at *
     generalize zc 2700000=cM at *
     generalize zs k=s at *
     generalize zc k=c at *
     generalize (x:Rat)=x at *
     generalize (y:Rat)=y at *
     generalize c1=p at *
     generalize s1=q at *
     generalize bg=D at *
     have m1:0<(x*s-y*c)*p:=Rat.mul_pos h (by grind)
     have m2:0<=x*(c-49/100):=Rat.mul_nonneg (by grind) (by grind)
     have m2':0<=(x*c)*(q-29/100000000):=Rat.mul_nonneg (Rat.mul_nonneg (by grind) (by grind)) (by grind)
     have m3:0<=(y*s)*q:=Rat.mul_nonneg (Rat.mul_nonneg (by grind) (by grind)) (by grind)
     have m4:0<=(y-x)*cM:=Rat.mul_nonneg (by grind) (by grind)
     have m5:0<=x*(1/1000000000-(sM-cM)):=Rat.mul_nonneg (by grind) (by grind)
     have k:x*sM-y*cM=(x*s-y*c)*p+(x*c)*q+(y*s)*q:=by rw [e1,e2];grind
     clear e1 e2 h;grind
 by_cases hc:k=2700000
 . rw [if_neg (by omega)]
   rw [if_pos hc] at h;unfold frm;rw [if_neg (by omega)]
   have e1:=bH (5400000-(k+1));have e2:=bM (5400000-(k+1));rw [show 5400000-(k+1)+1=2700000 by omega] at e1 e2
   have a:=dw (5400000-(k+1)) (by omega)
   have b:=ql (5400000-(k+1)) (by omega)
   have m:=jA;have md:=QZ;have zm:=zT
   have xy:(y:Rat)+1<=(x:Rat):=by
    have:((y+1:Int):Rat)<=(x:Rat):=Rat.intCast_le_intCast.2 (by omega)
    rw [Rat.intCast_add] at this;exact this
   have dp:0<bg:=by unfold bg aH;decide +kernel
   clear hx hy h1 ha hb hc h;generalize zs 2700000=sM at *
   generalize zc 2700000=cM at *
   generalize zs (5400000-(k+1))=s at *
   generalize zc (5400000-(k+1))=c at *
   generalize (x:Rat)=x at *
   generalize (y:Rat)=y at *
   generalize c1=p at *
   generalize s1=q at *
   generalize bg=D at *
   have m1:=ak y (sM-cM) 2147483648 (4*D) (by grind) by'.2 m.1 m.2
   have m4:0<=(x-y-1)*cM:=Rat.mul_nonneg (by grind) (by grind)
   have g:0<x*cM-y*sM:=by grind
   have m2:0<=(x*s)*q:=Rat.mul_nonneg (Rat.mul_nonneg (by grind) (by grind)) (by grind)
   have m3:0<=(y*c)*q:=Rat.mul_nonneg (Rat.mul_nonneg (by grind) (by grind)) (by grind)
   have kk:x*cM-y*sM=(x*c-y*s)*p-(x*s)*q-(y*c)*q:=by rw [e1,e2];grind
   clear e1 e2;have g2:0<(x*c-y*s)*p:=by grind
   refine Rat.not_le.1 fun hh=>?_
   have:0<=(-(x*c-y*s))*p:=Rat.mul_nonneg (by grind) (by grind)
   grind
 . rw [if_neg (by omega)] at h ⊢
   unfold frm at *
   rw [if_neg (by omega)] at h ⊢
   have e1:=bH (5400000-(k+1));have e2:=bM (5400000-(k+1));rw [show 5400000-(k+1)+1=5400000-k by omega] at e1 e2
   rw [e1,e2] at h;have a:=dw (5400000-(k+1)) (by omega)
   have b:=ql (5400000-(k+1)) (by omega)
   clear hx hy h1 ha hb hc e1 e2;generalize zs (5400000-(k+1))=s at *
   generalize zc (5400000-(k+1))=c at *
   generalize (x:Rat)=x at *
   generalize (y:Rat)=y at *
   generalize c1=p at *
   generalize s1=q at *
   have m2:0<=(x*s)*q:=Rat.mul_nonneg (Rat.mul_nonneg (by grind) (by grind)) (by grind)
   have m3:0<=(y*c)*q:=Rat.mul_nonneg (Rat.mul_nonneg (by grind) (by grind)) (by grind)
   have g2:0<(x*c-y*s)*p:=by grind
   refine Rat.not_le.1 fun hh=>?_
   have:0<=(-(x*c-y*s))*p:=Rat.mul_nonneg (by grind) (by grind)
   grind
theorem vD (x y:Int) (k m:Nat) (hkm:k<=m) (h1:m<=5400000) (hx:0<x/\x<=2147483648) (hy:0<=y/\y<=2147483648) (h:past x y k):past x y m:=by
 obtain ⟨d,rfl⟩:∃ d,m=k+d:=⟨m-k,by omega⟩
 clear hkm
 induction d with
 | zero=>exact h
 | succ d ih=>exact DR x y (k+d) (by omega) hx hy (ih (by omega))
def uC (x y:Int) (L:Nat):Prop:=L<5400000/\¬ past x y L/\past x y (L+1)
theorem vR {x y:Int} {L M:Nat} (hx:0<x/\x<=2147483648) (hy:0<=y/\y<=2147483648) (h:uC x y L) (k:uC x y M):L=M:=by
 obtain ⟨a,b,c⟩:=h;obtain ⟨a',b',c'⟩:=k;rcases Nat.lt_trichotomy L M with q|q|q
 . exact absurd (vD x y (L+1) M (by omega) (by omega) hx hy c) b'
 . exact q
 . exact absurd (vD x y (M+1) L (by omega) (by omega) hx hy c') b
theorem wO (x y:Int) (hx:0<x/\x<=2147483648) (hy:0<=y/\y<=2147483648):∀ (f lo hi:Nat),lo<hi->hi<=5400000->hi-lo<=2^f->¬ past x y lo->past x y hi->uC x y (jX x y f lo hi)
 | 0,lo,hi,h1,h2,h3,h4,h5=>by
  have:hi=lo+1:=by simp at h3;omega
  subst this;exact ⟨by show lo<_;omega,h4,h5⟩
 | f+1,lo,hi,h1,h2,h3,h4,h5=>by
  rw [tJ];rw [Nat.pow_succ] at h3
  by_cases hl:lo+1<hi
  . rw [if_pos hl];have r:=Bj x y ((lo+hi)/2) (by omega) (by omega) (by omega) ⟨by omega,hx.2⟩ hy
    by_cases hr:gP x y ((lo+hi)/2)=true
    . rw [if_pos hr];exact wO x y hx hy f _ _ (by omega) h2 (by omega) (r.1 hr) h5
    . rw [if_neg hr];exact wO x y hx hy f _ _ (by omega) (by omega) (by omega) h4 (Classical.not_not.1 fun q=>hr (r.2 q))
  . rw [if_neg hl];have:hi=lo+1:=by omega
    subst this;exact ⟨by omega,h4,h5⟩
theorem gH (x y:Int) (h0:¬ (x=0/\y=0)) (hx:-2147483648<=x/\x<=2147483648) (hy:-2147483648<=y/\y<=2147483648):uC (qX x y) (qY x y) (qi x y):=by
 obtain ⟨a,b,c,d⟩:=wY x y 2147483648 h0 hx hy;exact wO _ _ ⟨a,b⟩ ⟨c,d⟩ 23 0 5400000 (by omega) (by omega) (by omega) (Ee _ _ c) (Io _ _ a)
end Alm
namespace Alm
end Alm
namespace Alm
end Alm
namespace Alm
theorem Uz (Y:Int) (h:0<Y/\Y<=2147483648) (L:Nat) (hL:uC Y 0 L):L=0:=by
 refine vR h ⟨Int.le_refl _,by omega⟩ hL ⟨by omega,Ee Y 0 (Int.le_refl _),?_⟩
 unfold past frm;rw [if_neg (by omega),if_pos (by omega)]
 have u:=Go.Proofs.Ytcfpmdndgbpfpaa.zs_up 0 (by omega)
 rw [dA] at u;have p:(0:Rat)<(Y:Rat):=Rat.intCast_lt_intCast.2 h.1;have m:=Rat.mul_pos p (show 0<zs (0+1) by grind)
 have e:((0:Int):Rat)=0:=rfl;rw [e];have e1:zs 1=zs (0+1):=rfl;rw [e1];grind
