/- Plain numbers: no point of small coordinates lies near the ray of an angle. -/
import Derived.Test.YtpcfajiiijndiaaZCfB1
import Derived.Test.YtpcfajiiijndiaaZCfB2
import Derived.Test.YtpcfajiiijndiaaZCfB3
import Derived.Test.YtpcfajiiijndiaaZCfB4
import Derived.Test.YtpcfajiiijndiaaZTrigs
import Derived.Test.YtpcfajiiijndiaaZArcHi
import Derived.Test.YtpcfajiiijndiaaZArc8
set_option linter.unusedVariables false
set_option linter.unusedSimpArgs false
namespace Alm
def aX:Rat:=1/((2^160:Int):Rat)
theorem Ro:(gY:Rat)*aX=1:=by unfold gY aX;decide +kernel
theorem iT:0<aX:=by unfold aX;decide +kernel
theorem lG:aX<=1/1000000000000000000:=by unfold aX;decide +kernel
theorem rZ:-aX<=(qc1:Rat)*aX-c1/\(qc1:Rat)*aX-c1<=aX:=by
 unfold aX c1 qc1 c1n dd tp;constructor<;>decide +kernel
theorem sF:-aX<=(qs1:Rat)*aX-s1/\(qs1:Rat)*aX-s1<=aX:=by
 unfold aX s1 qs1 s1n dd tp;constructor<;>decide +kernel
theorem En:0<s1/\s1<=3/10000000:=by unfold s1 s1n dd tp;constructor<;>decide +kernel
theorem BL:99/100<=c1:=by unfold c1 c1n dd tp;decide +kernel
def uY (c s:Nat) (n:Nat) (e:Rat):Prop :=
 (-e<=(c:Rat)*aX-zc n/\(c:Rat)*aX-zc n<=e)/\(-e<=(s:Rat)*aX-zs n/\(s:Rat)*aX-zs n<=e)
theorem qZ (X:Nat):((X/gY:Nat):Rat)*aX<=X*(aX*aX)/\X*(aX*aX)<=((X/gY:Nat):Rat)*aX+aX:=by
 have hF:0<gY:=by decide +kernel
 have h1:=Nat.div_mul_le_self X gY;have h2:=Nat.lt_div_mul_add (a:=X) hF;have g1:=dx _ _ h1;have g2:=dx _ _ (Nat.le_of_lt h2);rw [Rat.natCast_mul] at g1;rw [Rat.natCast_add,Rat.natCast_mul] at g2;have he:=Ro;have hp:=iT;have hpp:0<=aX*aX:=bn _;generalize ((X/gY:Nat):Rat)=q at *
 generalize (gY:Rat)=F at *
 have k1:=Rat.mul_le_mul_of_nonneg_right g1 hpp;have k2:=Rat.mul_le_mul_of_nonneg_right g2 hpp;have e1:q*F*(aX*aX)=q*aX*(F*aX):=by grind
 have e2:(q*F+F)*(aX*aX)=(q*aX+aX)*(F*aX):=by grind
 rw [e1,he] at k1;rw [e2,he] at k2
 constructor<;>grind
theorem MM (a b c d:Nat) (A B C D:Rat) (h1:(a:Rat)*aX<=A) (h2:(b:Rat)*aX<=B) (h3:C<=(c:Rat)*aX) (h4:D<=(d:Rat)*aX) (hC:0<=C) (hD:0<=D) (h:A*B<=C*D):a*b<=c*d:=by
 have hp:=iT;have ha:=aR a;have hb:=aR b;have pa:0<=(a:Rat)*aX:=Rat.mul_nonneg ha (Rat.le_of_lt hp);have pb:0<=(b:Rat)*aX:=Rat.mul_nonneg hb (Rat.le_of_lt hp);have k1:=Rat.mul_le_mul_of_nonneg_right h1 pb;have k2:=Rat.mul_le_mul_of_nonneg_left h2 (show 0<=A by grind)
 have k3:=Rat.mul_le_mul_of_nonneg_right h3 hD;have k4:=Rat.mul_le_mul_of_nonneg_left h4 (show 0<=(c:Rat)*aX by grind)
 have hle:((a*b:Nat):Rat)<=((c*d:Nat):Rat):=by
  rw [Rat.natCast_mul,Rat.natCast_mul];have hpp:(0:Rat)<aX*aX:=Rat.mul_pos hp hp;apply Rat.le_of_mul_le_mul_right (c:=aX*aX) _ hpp;generalize (a:Rat)=a at *
  generalize (b:Rat)=b at *
  generalize (c:Rat)=c at *
  generalize (d:Rat)=d at *
  generalize aX=e at *
  have e1:a*b*(e*e)=a*e*(b*e):=by grind
  have e2:c*d*(e*e)=c*e*(d*e):=by grind
  grind
 exact_mod_cast hle
theorem WO (cp sp:Nat) (n:Nat) (e:Rat) (he0:0<=e) (he:e<=1/100) (h:uY cp sp n e) (hsub:sp*qs1<=cp*qc1) :
 uY ((cp*qc1-sp*qs1)/gY) ((sp*qc1+cp*qs1)/gY) (n+1) (e*(1+s1)+6*aX):=by
 obtain ⟨⟨a1,a2⟩,⟨b1,b2⟩⟩:=h;have d1:=qZ (cp*qc1-sp*qs1);have d2:=qZ (sp*qc1+cp*qs1);rw [iP _ _ hsub,Rat.natCast_mul,Rat.natCast_mul] at d1;rw [Rat.natCast_add,Rat.natCast_mul,Rat.natCast_mul] at d2;have za1:=dm n;have za2:=dw n;have hC:=rZ;have hS:=sF;have hep:=iT;have hes:=lG;have st:=En;have zr:=Js;have zr2:=BL;have zn:=jF n;have zn2:=iy n;unfold uY;rw [za1,za2];generalize (((cp*qc1-sp*qs1)/gY:Nat):Rat)=P1 at *
 generalize (((sp*qc1+cp*qs1)/gY:Nat):Rat)=P2 at *
 generalize (cp:Rat)=x at *
 generalize (sp:Rat)=y at *
 generalize (qc1:Rat)=c at *
 generalize (qs1:Rat)=s at *
 generalize zc n=u at *
 generalize zs n=v at *
 generalize c1=k at *
 generalize s1=l at *
 generalize aX=d at *
 have f1:(x*c-y*s)*(d*d)=(x*d)*(c*d)-(y*d)*(s*d):=by grind
 have f2:(y*c+x*s)*(d*d)=(y*d)*(c*d)+(x*d)*(s*d):=by grind
 rw [f1] at d1;rw [f2] at d2;obtain ⟨A,hA⟩:∃ A,A=x*d-u:=⟨_,rfl⟩;obtain ⟨B,hB⟩:∃ B,B=y*d-v:=⟨_,rfl⟩;obtain ⟨G,hG⟩:∃ G,G=c*d-k:=⟨_,rfl⟩;obtain ⟨H,hH⟩:∃ H,H=s*d-l:=⟨_,rfl⟩;rw [<-hA] at a1 a2;rw [<-hB] at b1 b2;rw [<-hG] at hC;rw [<-hH] at hS;have ex:x*d=u+A:=by grind
 have ey:y*d=v+B:=by grind
 have ec:c*d=k+G:=by grind
 have es:s*d=l+H:=by grind
 rw [ex,ey,ec,es] at d1 d2;clear hA hB hG hH ex ey ec es f1 f2;have t1:=aK A k e 1 a1 a2 (by grind) (by grind)
 have t2:=aK B l e l b1 b2 (by grind) (by grind)
 have t3:=aK (u+A) G (101/100) d (by grind) (by grind) hC.1 hC.2
 have t4:=aK (v+B) H (101/100) d (by grind) (by grind) hS.1 hS.2
 have t5:=aK B k e 1 b1 b2 (by grind) (by grind)
 have t6:=aK A l e l a1 a2 (by grind) (by grind)
 have t7:=aK (v+B) G (101/100) d (by grind) (by grind) hC.1 hC.2
 have t8:=aK (u+A) H (101/100) d (by grind) (by grind) hS.1 hS.2
 refine ⟨⟨?_,?_⟩,⟨?_,?_⟩⟩<;>grind
def pV (t n:Nat):Prop:=uY (t%cK) (t/cK) n (11*n*aX)
theorem FL (t:Nat):stp t%cK=((t%cK)*qc1-(t/cK)*qs1)/gY/\stp t/cK=((t/cK)*qc1+(t%cK)*qs1)/gY:=by
 have h:((t%cK)*qc1-(t/cK)*qs1)/gY<cK:=by
  have h1:t%cK<cK:=Nat.mod_lt _ (by decide +kernel)
  have h2:(t%cK)*qc1<=(t%cK)*gY:=Nat.mul_le_mul_left _ (by decide +kernel)
  have h3:((t%cK)*qc1-(t/cK)*qs1)/gY<=t%cK:=by
   apply Nat.div_le_of_le_mul;rw [Nat.mul_comm gY];omega
  omega
 have hW:0<cK:=by decide +kernel
 unfold stp;generalize ((t%cK)*qc1-(t/cK)*qs1)/gY=x at *
 generalize ((t/cK)*qc1+(t%cK)*qs1)/gY=y at *
 generalize cK=W at *
 exact ⟨by rw [Nat.add_mul_mod_self_left,Nat.mod_eq_of_lt h],by rw [Nat.add_mul_div_left _ _ hW,Nat.div_eq_of_lt h,Nat.zero_add]⟩
theorem IK (t n:Nat) (hn:n<=1360000) (h:pV t n):pV (stp t) (n+1):=by
 have hp:=iT;have hs:=lG;have hc:=rZ;have hs1:=sF;have b1:=En;have b2:=BL;have zcn:=dG n (by omega)
 have zsn:=iy n;have hnn:(n:Rat)<=1360000:=by exact_mod_cast hn
 have hn0:=aR n;have he0:0<=11*(n:Rat)*aX:=Rat.mul_nonneg (by grind) (by grind)
 have he1:11*(n:Rat)*aX<=14960000*aX:=Rat.mul_le_mul_of_nonneg_right (by grind) (by grind)
 have hh:=h;unfold pV at h
 have g:=WO (t%cK) (t/cK) n (11*n*aX) he0 (by grind) h
  (by
   obtain ⟨⟨a1,a2⟩,⟨a3,a4⟩⟩:=h;apply MM (t/cK) qs1 (t%cK) qc1 2 (1/100) (1/10) (9/10)<;>grind)
 have hle:11*(n:Rat)*aX*(1+s1)+6*aX<=11*(n+1:Nat)*aX:=by
  have e1:((n+1:Nat):Rat)=(n:Rat)+1:=by norm_cast
  rw [e1];have m:=Rat.mul_le_mul_of_nonneg_left b1.2 he0;grind
 obtain ⟨p1,p2⟩:=FL t;unfold pV;rw [p1,p2];generalize 11*(n:Rat)*aX*(1+s1)+6*aX=E at *
 unfold uY at *
 obtain ⟨⟨a1,a2⟩,⟨a3,a4⟩⟩:=g;refine ⟨⟨?_,?_⟩,⟨?_,?_⟩⟩<;>grind
def T1:Nat:=2668606815930616794422295251795238276401961381301642649179619132477219630421654918950972168987929389
theorem MC:pV T1 1:=by
 have a:T1%cK=qc1:=by decide +kernel
 have b:T1/cK=qs1:=by decide +kernel
 unfold pV uY;rw [a,b,J2,yu];have hc:=rZ;have hs1:=sF;have hp:=iT;have e:((1:Nat):Rat)=1:=rfl;rw [e];refine ⟨⟨?_,?_⟩,⟨?_,?_⟩⟩<;>grind
theorem zD:∀ j:Nat,j<=1359999->pV (Aw j T1) (1+j)
 | 0,_=>MC
 | j+1,h=>by
  rw [Fg];have h2:=IK (Aw j T1) (1+j) (by omega) (zD j (by omega))
  rw [show 1+(j+1)=1+j+1 by omega]
  exact h2
theorem Jy:Walk 1351680 T1 3514879727201953102891235138955415353210249926988623055823917715107581327316116319700368899033249232865815:=il (by decide +kernel) (ai (ai (ai Vr VS) Vb) UU)
theorem Ld:ay*1351680<=2/5:=by unfold ay;decide +kernel
theorem KZ (m j:Nat) (y:Rat):hr (m+1) j y=1-y/(((j+1)*(j+2):Nat):Rat)*hr m (j+2) y:=by rw [hr]
theorem Rq (n:Nat) (h:n<=1351680):3/4<=zc n:=by
 obtain ⟨_,h2⟩:=near n (by omega)
 obtain ⟨_,y0,y1,_,_⟩:=kM n (by omega)
 have hb:=qh 33 2 _ y0 y1;have e:=Dz n;have ht:=iR.1;have hn:(n:Rat)<=1351680:=by exact_mod_cast h
 have hx2:=Rat.mul_le_mul_of_nonneg_right hn (Rat.le_of_lt ht);have hx3:=Ld;have hx:0<=(n:Rat)*ay:=Rat.mul_nonneg (aR n) (Rat.le_of_lt ht);have k:=om;have q:=qJ _ ((0+1)*(0+2)) (by omega) y0 y1
 rw [KZ 33 0] at e;have e2:(((0+1)*(0+2):Nat):Rat)=2:=rfl;rw [e2] at q e
 have hsq:((n*ay)*(n*ay))<=4/25:=by
  have:=aK ((n:Rat)*ay) ((n:Rat)*ay) (2/5) (2/5) (by grind) (by grind) (by grind) (by grind)
  grind
 clear hx2 hx3 hx hn;generalize (n:Rat)*ay*((n:Rat)*ay)=y at *
 generalize hr 33 2 y=H at *
 generalize y/2=z at *
 have m:=aK z H (2/25) 1 (by grind) (by grind) (by grind) (by grind)
 grind
def e61:Rat:=1/((2^61:Int):Rat)
theorem BV:(1267650600228229401496703205376:Rat)*aX=2*e61:=by unfold e61 aX;decide +kernel
theorem e137:8589934592*(14960000*aX)<=e61:=by unfold e61 aX;decide +kernel
theorem IY (n:Nat) (h0:1<=n) (h1:n<=1351680) (X Y:Int) (hn:¬ (X=0/\Y=0)) (hX:-4294967296<=X/\X<=4294967296) (hY:-4294967296<=Y/\Y<=4294967296) :
 e61<=(X:Rat)*zs n-Y*zc n∨(X:Rat)*zs n-Y*zc n<=-e61:=by
 obtain ⟨j,rfl⟩:∃ j,n=1+j:=⟨n-1,by omega⟩
 obtain ⟨g1,g2,g3⟩:=FC Jy j (by omega)
 have hN:=zD j (by omega)
 unfold pV at hN;generalize Aw j T1%cK=c at *
 generalize Aw j T1/cK=s at *
 obtain ⟨⟨a1,a2⟩,⟨b1,b2⟩⟩:=hN;have hp:=iT;have hes:=lG;have zcn:=dG (1+j) (by omega)
 have hjj:((1+j:Nat):Rat)<=1360000:=by exact_mod_cast (show 1+j<=1360000 by omega)
 have hE:11*((1+j:Nat):Rat)*aX<=14960000*aX:=Rat.mul_le_mul_of_nonneg_right (by grind) (by grind)
 have zc22:3/4<=zc (1+j):=Rq (1+j) (by omega)
 have hc:730750818665451459101842416358141509827966271488<=c:=by
  have q:(730750818665451459101842416358141509827966271488:Rat)*aX=1/2:=by unfold aX;decide +kernel
  have:((730750818665451459101842416358141509827966271488:Nat):Rat)<=(c:Rat):=by
   apply Rat.le_of_mul_le_mul_right (c:=aX) _ hp;have e:((730750818665451459101842416358141509827966271488:Nat):Rat)=730750818665451459101842416358141509827966271488:=rfl;rw [e,q];grind
  exact_mod_cast this
 have hr:=JO 200 (c-1) (s-1) (by omega) g3
 rw [show c-1+1=c by omega,show s-1+1=s by omega] at hr
 have hf:=J9 c s hr hc X Y hn hX;have hXr:-(4294967296:Rat)<=(X:Rat)/\(X:Rat)<=4294967296:=⟨Rat.intCast_le_intCast.2 hX.1,Rat.intCast_le_intCast.2 hX.2⟩;have hYr:-(4294967296:Rat)<=(Y:Rat)/\(Y:Rat)<=4294967296:=⟨Rat.intCast_le_intCast.2 hY.1,Rat.intCast_le_intCast.2 hY.2⟩;have q1:=BV;have q2:=e137;have m1:=aK (X:Rat) ((s:Rat)*aX-zs (1+j)) 4294967296 (14960000*aX) hXr.1 hXr.2 (by grind) (by grind)
 have m2:=aK (Y:Rat) ((c:Rat)*aX-zc (1+j)) 4294967296 (14960000*aX) hYr.1 hYr.2 (by grind) (by grind)
 have hf':(1267650600228229401496703205376:Rat)<=(X:Rat)*s-Y*c∨(X:Rat)*s-Y*c<=-1267650600228229401496703205376:=by
  rcases hf with hf|hf
  . left
    have:((1267650600228229401496703205376:Int):Rat)<=((X*s-Y*c:Int):Rat):=Rat.intCast_le_intCast.2 hf;rw [Rat.intCast_sub,Rat.intCast_mul,Rat.intCast_mul,Rat.intCast_natCast,Rat.intCast_natCast] at this;exact this
  . right
    have:((X*s-Y*c:Int):Rat)<=((-1267650600228229401496703205376:Int):Rat):=Rat.intCast_le_intCast.2 hf;rw [Rat.intCast_sub,Rat.intCast_mul,Rat.intCast_mul,Rat.intCast_natCast,Rat.intCast_natCast] at this;exact this
 clear hr hc g1 g2 g3 hf hX hY hn a1 a2 b1 b2 zc22 zcn hE hjj h0 h1;generalize zs (1+j)=u at *
 generalize zc (1+j)=v at *
 generalize (c:Rat)=c at *
 generalize (s:Rat)=s at *
 generalize (X:Rat)=X at *
 generalize (Y:Rat)=Y at *
 have ex:(X*s-Y*c)*aX=X*(s*aX-u)-Y*(c*aX-v)+(X*u-Y*v):=by grind
 rcases hf' with hf|hf
 . left
   have k:=Rat.mul_le_mul_of_nonneg_right hf (Rat.le_of_lt hp);rw [ex,q1] at k;grind
 . right
   have k:=Rat.mul_le_mul_of_nonneg_right hf (Rat.le_of_lt hp);rw [ex] at k;grind
theorem jS:-(4*bR)<=zs 2700000-zc 2700000/\zs 2700000-zc 2700000<=4*bR:=by
 have h:=near 2700000 (by omega)
 have m:=EG
 have hs:=uH (ps 2700000-pc 2700000) (ev sP M0-ev cP M0) L0 yc (by
  have a:=ja 2700000;have b:=jY 2700000;have e:((2700000:Nat):Int)=M0:=rfl;rw [e] at a b;rw [Rat.intCast_sub];grind) m
 have k:aO<=bR:=by unfold bR aO;decide +kernel
 generalize ps 2700000=a at *
 generalize pc 2700000=b at *
 generalize zs 2700000=c at *
 generalize zc 2700000=d at *
 generalize bR=e at *
 generalize aO=f at *
 grind
theorem Py:e61=2*e62:=by unfold e61 e62;decide +kernel
theorem Ri:8589934592*(4*bR)<=1/1000000000*e62:=by unfold bR aO e62;decide +kernel
theorem BS:7/10<=zc 2700000:=by
 have f2:FlR (zc 2700000) 759250124:=yo;unfold FlR at f2;have m:0<mg:=by unfold mg;decide +kernel
 have u:u30=1/1073741824:=by unfold u30;decide +kernel
 rw [u] at f2;generalize zc 2700000=x at *
 grind
theorem Kh (n:Nat) (h0:0<n) (h1:n<2700000) (X Y:Int) (hn:¬ (X=0/\Y=0)) (hX:-2147483648<=X/\X<=2147483648) (hY:-2147483648<=Y/\Y<=2147483648) :
 e62<=(X:Rat)*zs n-Y*zc n∨(X:Rat)*zs n-Y*zc n<=-e62:=by
 have ep:0<e62:=by unfold e62;decide +kernel
 have e1:=Py
 by_cases hs:n<=1351680
 . have h:=IY n (by omega) hs X Y hn (by omega) (by omega)
   rw [e1] at h;clear hX hY hn hs h0 h1;rcases h with h|h
   . left;grind
   . right;grind
 . obtain ⟨j,hj⟩:∃ j,j+n=2700000:=⟨2700000-n,by omega⟩
   have h:=IY j (by omega) (by omega) (X+Y) (X-Y) (by omega) (by omega) (by omega)
   have hu:=tF j;obtain ⟨a1,a2⟩:=yw j n;rw [hj] at a1 a2;have m:=jS;have zm:=BS;have q1:=Ri;have hXr:-(2147483648:Rat)<=(X:Rat)/\(X:Rat)<=2147483648:=⟨Rat.intCast_le_intCast.2 hX.1,Rat.intCast_le_intCast.2 hX.2⟩;have hYr:-(2147483648:Rat)<=(Y:Rat)/\(Y:Rat)<=2147483648:=⟨Rat.intCast_le_intCast.2 hY.1,Rat.intCast_le_intCast.2 hY.2⟩;have zl1:=iy j;have zl2:=jF j;have dp:0<bR:=by unfold bR aO;decide +kernel
   rw [Rat.intCast_add,Rat.intCast_sub,e1] at h;clear hX hY hn hs h0 h1 hj e1;generalize zs 2700000=sM at *
   generalize zc 2700000=cM at *
   generalize zs n=u at *
   generalize zc n=v at *
   generalize zs j=s at *
   generalize zc j=c at *
   generalize (X:Rat)=x at *
   generalize (Y:Rat)=y at *
   have k1:u=sM*c-cM*s:=by rw [a1,a2];grind
   have k2:v=cM*c+sM*s:=by rw [a1,a2];grind
   have k3:x*u-y*v=-cM*((x+y)*s-(x-y)*c)+(sM-cM)*(x*c-y*s):=by rw [k1,k2];grind
   have b1:=aK x c 2147483648 1 hXr.1 hXr.2 zl2.1 zl2.2;have b2:=aK y s 2147483648 1 hYr.1 hYr.2 zl1.1 zl1.2;have b3:=aK (sM-cM) (x*c-y*s) (4*bR) 4294967296 m.1 m.2 (by grind) (by grind)
   rw [k3];generalize (x+y)*s-(x-y)*c=F at *
   generalize (sM-cM)*(x*c-y*s)=E at *
   clear k1 k2 k3 a1 a2 b1 b2 hu hXr hYr zl1 zl2;generalize bR=D at *
   generalize e62=e at *
   rcases h with h|h
   . right
     have t:=Rat.mul_nonneg (show 0<=F-2*e by grind) (show 0<=cM-7/10 by grind)
     have t2:=Rat.mul_nonneg (show 0<=e by grind) (show 0<=cM-7/10 by grind)
     grind
   . left
     have t:=Rat.mul_nonneg (show 0<=-(2*e)-F by grind) (show 0<=cM-7/10 by grind)
     have t2:=Rat.mul_nonneg (show 0<=e by grind) (show 0<=cM-7/10 by grind)
     grind
end Alm
namespace Go.Proofs.Ytpcfajiiijndiaa
open Alm
theorem s1_low:29/100000000<=s1:=by unfold s1 s1n dd tp;decide +kernel
theorem wQ:s1<=3/10000000:=by unfold s1 s1n dd tp;decide +kernel
theorem rY:4/100000000000000<=1-c1/\1-c1<=1/10000000000000:=by unfold c1 c1n dd tp;constructor<;>decide +kernel
theorem zs_up (n:Nat) (h:n<=2700000):zs n+1/10000000<=zs (n+1):=by
 rw [dw];have a:=dG n h;have b:=iy n;have c:=rY;have s:=s1_low;have e1:0<=(zc n-49/100)*(s1-29/100000000):=Rat.mul_nonneg (by grind) (by grind)
 have e2:0<=(1-zs n)*(1-c1):=Rat.mul_nonneg (by grind) (by grind)
 grind
theorem L8 (n:Nat) (h:n<=2700000):zc (n+1)<zc n:=by
 rw [dm];have a:=dG n h;have b:=kQ n h;have c:=rY;have s:=wQ;have s':=s1_low;have e1:0<=(zc n-49/100)*(1-c1-4/100000000000000):=Rat.mul_nonneg (by grind) (by grind)
 have e2:0<=(zs n+1/1000000000)*s1:=Rat.mul_nonneg (by grind) (by grind)
 grind
theorem Kv:((ev sP 1800000*2-L0).natAbs:Int)*2^60<=L0*2:=by decide +kernel
theorem dI:u30=1/1073741824:=by unfold u30;decide +kernel
theorem BA:0<mg:=by unfold mg;decide +kernel
theorem Jv (n:Nat) (hn:n+1=2700000):zs (n+1)<zc n:=by
 have f1:FlR (zs (n+1)) 759250124:=by rw [hn];exact Bf
 have f2:FlR (zc (n+1)) 759250124:=by rw [hn];exact yo
 unfold FlR at f1 f2;rw [dI] at f1 f2;have m:=BA;have e:=dm n;have e':=dw n;have b:=kQ n (by omega)
 have a:=dG n (by omega)
 have b2:=iy n;have a2:=jF n;have c:=rY;have s:=s1_low;have s2:=wQ;clear hn;generalize zs (n+1)=x' at *
 generalize zc (n+1)=y' at *
 generalize zs n=x at *
 generalize zc n=y at *
 have e1:0<=(1-y)*s1:=Rat.mul_nonneg (by grind) (by grind)
 have e2:0<=(x+1/1000000000)*(1-c1):=Rat.mul_nonneg (by grind) (by grind)
 have k:69/100<=x:=by grind
 have e3:0<=(x-69/100)*(s1-29/100000000):=Rat.mul_nonneg (by grind) (by grind)
 have e4:0<=(y-49/100)*(1-c1):=Rat.mul_nonneg (by grind) (by grind)
 grind
theorem Ed (n:Nat) (hn:n=1800000):-(2/1000000000)<=zs n-1/2/\zs n-1/2<=2/1000000000:=by
 have h:=(near n (by omega)).1
 have d:=om
 have p:-(1/1000000000000)<=ps n-1/2/\ps n-1/2<=1/1000000000000:=by
  have m:=ja n;have q:=Kv;have l:=ny;rw [<-show ((n:Nat):Int)=1800000 by omega] at q
  generalize ev sP (n:Int)=E at *
  have q1:((E*2-L0)*2^60<=L0*2)/\(-(L0*2)<=(E*2-L0)*2^60):=by omega
  have r1:(((E*2-L0)*2^60:Int):Rat)<=((L0*2:Int):Rat):=by exact_mod_cast q1.1
  have r2:((-(L0*2):Int):Rat)<=(((E*2-L0)*2^60:Int):Rat):=by exact_mod_cast q1.2
  clear q q1 h d hn;generalize L0=L at *
  simp only [Rat.intCast_mul,Rat.intCast_sub,Rat.intCast_neg] at r1 r2;generalize (L:Rat)=l0 at *
  generalize ps n=x at *
  have hx:(E:Rat)=x*l0:=m.symm;rw [hx] at r1 r2;have k:(((2^60:Int)):Rat)=1152921504606846976:=by decide +kernel
  have k2:((2:Int):Rat)=2:=by decide +kernel
  rw [k,k2] at r1 r2;refine ⟨?_,?_⟩
  . refine Rat.not_lt.1 fun hh=>?_
    have:0<(1/2-1/1000000000000-x)*l0:=Rat.mul_pos (by grind) l
    grind
  . refine Rat.not_lt.1 fun hh=>?_
    have:0<(x-1/2-1/1000000000000)*l0:=Rat.mul_pos (by grind) l
    grind
 grind
def sS (n:Nat):Rat:=if n=1800000 then 1/2 else if 2*n<=5400000 then zs n else zc (5400000-n)
theorem VY (n:Nat) (h:n<5400000):sS n<sS (n+1):=by
 unfold sS
 by_cases h1:n=1800000
 . have a:=Ed n h1;have b:=zs_up n (by omega)
   rw [if_pos h1,if_neg (by omega),if_pos (by omega)]
   clear h1 h;grind
 . rw [if_neg h1]
   by_cases h2:n+1=1800000
   . have a:=Ed (n+1) h2;have b:=zs_up n (by omega)
     rw [if_pos h2,if_pos (by omega)]
     clear h1 h h2;grind
   . rw [if_neg h2]
     by_cases h3:2*(n+1)<=5400000
     . rw [if_pos h3,if_pos (by omega)]
       have b:=zs_up n (by omega)
       clear h1 h h2 h3;grind
     . rw [if_neg h3]
       by_cases h4:2*n<=5400000
       . rw [if_pos h4];have:=Jv (5400000-(n+1)) (by omega)
         rw [show 5400000-(n+1)+1=n by omega] at this
         exact this
       . rw [if_neg h4];have:=L8 (5400000-(n+1)) (by omega)
         rw [show 5400000-(n+1)+1=5400000-n by omega] at this
         exact this
theorem jA (m:Nat):∀ n:Nat,m<n->n<=5400000->sS m<sS n
 | 0,h,_=>by omega
 | n+1,h,h2=>by
  have up:=VY n (by omega)
  by_cases e:m=n
  . subst e;exact up
  . have:=jA m n (by omega) (by omega)
    clear h h2 e;grind
theorem jC:sS 0=0:=by unfold sS;rw [if_neg (by omega),if_pos (by omega)];exact dK
theorem AY (n:Nat) (h:n=5400000):sS n=1:=by
 unfold sS;rw [if_neg (by omega),if_neg (by omega),show 5400000-n=0 by omega]
 exact dJ
theorem vN {s:Rat} {q:Nat} (h:FlR s q):((q:Int):Rat)*u30<=s/\s<=(((q:Int)+1:Int):Rat)*u30:=by
 have m:=BA;unfold FlR at h;rw [dI] at *
 rw [Rat.intCast_add];have:((1:Int):Rat)=1:=rfl;rw [this];grind
theorem pF (n:Nat) (h:n<=5400000):(eB (n:Int):Rat)*u30<=sS n/\sS n<=((eB (n:Int)+(if gD (n:Int) then 0 else 1):Int):Rat)*u30:=by
 by_cases h0:n=0
 . subst h0;rw [jC];have a:eB ((0:Nat):Int)=0:=by decide
   have b:gD ((0:Nat):Int)=true:=by decide
   rw [a,b,if_pos rfl];have:((0:Int):Rat)=0:=rfl;rw [Int.add_zero,this];grind
 by_cases h1:n=1800000
 . have a:eB (n:Int)=536870912:=by rw [h1];decide
   have b:gD (n:Int)=true:=by rw [h1];decide
   have c:sS n=1/2:=by unfold sS;rw [if_pos h1]
   rw [a,b,c,if_pos rfl,dI,Int.add_zero];have:((536870912:Int):Rat)=536870912:=rfl;rw [this];clear a b c h h0 h1;grind
 by_cases h2:n=5400000
 . have a:eB (n:Int)=1073741824:=by rw [h2];decide
   have b:gD (n:Int)=true:=by rw [h2];decide
   rw [a,b,AY n h2,if_pos rfl,dI,Int.add_zero];have:((1073741824:Int):Rat)=1073741824:=rfl;rw [this];clear a b h h0 h1 h2;grind
 have e:gD (n:Int)=false:=by
  unfold gD;simp only [Bool.or_eq_false_iff,beq_eq_false_iff_ne];refine ⟨⟨?_,?_⟩,?_⟩<;>omega
 have v:eB (n:Int)=(kY n:Int):=by
  unfold eB;rw [if_neg (by omega),if_neg (by omega),if_neg (by omega),Int.toNat_natCast]
 rw [e,v,if_neg (by simp)]
 unfold sS kY;rw [if_neg h1]
 by_cases h3:2*n<=5400000
 . rw [if_pos h3,if_pos h3];obtain ⟨q,hq⟩:=Rw n (by omega) h0 h1
   rw [Lu n (by omega) q hq]
   exact vN hq
 . rw [if_neg h3,if_neg h3];obtain ⟨q,hq⟩:=R4 (5400000-n) (by omega) (by omega)
   rw [LD (5400000-n) (by omega) q hq]
   exact vN hq
def sR (n:Int):Rat:=if 0<=n then sS n.toNat else -sS (-n).toNat
theorem wG (n:Int) (h0:0<=n) (h1:n<=5400000):aG n=n/\bU n=false:=by
 unfold aG bU av;simp only [];refine ⟨by split<;>split<;>omega,by simp;omega⟩
theorem vV (n:Int) (h0:-5400000<=n) (h1:n<0):aG n=-n/\bU n=true:=by
 unfold aG bU av;simp only [];refine ⟨by split<;>split<;>omega,by simp;omega⟩
theorem ve (n:Int) (h0:-5400000<=n) (h1:n<=5400000):(bLo n:Rat)*u30<=sR n/\sR n<=(bHi n:Rat)*u30:=by
 unfold sR bLo bHi
 by_cases h:0<=n
 . obtain ⟨a,b⟩:=wG n h h1;rw [a,b,if_pos h,if_neg (by simp),if_neg (by simp)]
   have:=pF n.toNat (by omega)
   rw [Int.toNat_of_nonneg h] at this;exact this
 . obtain ⟨a,b⟩:=vV n h0 (by omega)
   rw [a,b,if_neg h,if_pos rfl,if_pos rfl];have:=pF (-n).toNat (by omega)
   rw [Int.toNat_of_nonneg (show (0:Int)<=-n by omega)] at this
   rw [Rat.intCast_neg,Rat.intCast_neg];generalize (((eB (-n)+if gD (-n)=true then 0 else 1:Int)):Rat)=x at *
   generalize ((eB (-n):Int):Rat)=y at *
   clear a b h h0 h1;grind
theorem NU (m n:Int) (h0:-5400000<=m) (h:m<n) (h1:n<=5400000):sR m<sR n:=by
 unfold sR
 by_cases hm:0<=m
 . rw [if_pos hm,if_pos (by omega)]
   exact jA _ _ (by omega) (by omega)
 . rw [if_neg hm];have a:=jA 0 (-m).toNat (by omega) (by omega)
   rw [jC] at a
   by_cases hn:0<=n
   . rw [if_pos hn]
     have b:0<=sS n.toNat:=by
      by_cases z:n.toNat=0
      . rw [z,jC];exact Rat.le_refl
      . have:=jA 0 n.toNat (by omega) (by omega)
        rw [jC] at this;exact Rat.le_of_lt this
     clear h0 h h1 hm hn;grind
   . rw [if_neg hn];have:=jA (-n).toNat (-m).toNat (by omega) (by omega)
     clear h0 h h1 hm hn;grind
theorem Bl (m n:Int) (h0:-5400000<=m) (h:m<n) (h1:n<=5400000):bLo m<bHi n:=by
 have a:=(ve m h0 (by omega)).1
 have b:=(ve n (by omega) h1).2
 have c:=NU m n h0 h h1;rw [dI] at a b
 have k:(bLo m:Rat)<(bHi n:Rat):=by
  clear h0 h h1;grind
 exact_mod_cast k
end Go.Proofs.Ytpcfajiiijndiaa
namespace Alm
def frm (x y:Int) (k:Nat):Rat:=if k<=2700000 then (x:Rat)*zs k-y*zc k else (x:Rat)*zc (5400000-k)-y*zs (5400000-k)
def past (x y:Int) (k:Nat):Prop:=if k=2700000 then y<x else 0<frm x y k
theorem zs_pos (n:Nat) (h:n<=2700000):0<=zs n:=by
 induction n with
 | zero=>rw [dK];exact Rat.le_refl
 | succ n ih =>
  have a:=ih (by omega)
  have b:=Go.Proofs.Ytpcfajiiijndiaa.zs_up n (by omega)
  clear ih h;grind
theorem yn {x:Int} (h:0<=x) (h2:x<=2147483648):(0:Rat)<=(x:Rat)/\(x:Rat)<=2147483648:=⟨Rat.intCast_le_intCast.2 h,Rat.intCast_le_intCast.2 h2⟩
theorem LW (x y:Int) (k:Nat) (h0:0<k) (h1:k<5400000) (h2:k≠2700000) (hn:¬ (x=0/\y=0)) (hx:0<=x/\x<=2147483648) (hy:0<=y/\y<=2147483648) :
 e62<=frm x y k∨frm x y k<=-e62:=by
 unfold frm
 by_cases h:k<=2700000
 . rw [if_pos h];exact Kh k h0 (by omega) x y hn (by omega) (by omega)
 . rw [if_neg h];have f:=Kh (5400000-k) (by omega) (by omega) y x (by omega) (by omega) (by omega)
   clear hx hy hn h0 h1 h2 h;generalize zs (5400000-k)=u at *
   generalize zc (5400000-k)=v at *
   rcases f with f|f
   . right;grind
   . left;grind
theorem Ws:4294967296*(220*aM)<=1/2*e62:=by unfold aM e62;decide +kernel
theorem WN:0<e62:=by unfold e62;decide +kernel
theorem MW (k:Nat) (hk:k<=5400000):-(220*aM)<=(sN k:Rat)*aM-(if k<=2700000 then zs k else zc (5400000-k))/\(sN k:Rat)*aM-(if k<=2700000 then zs k else zc (5400000-k))<=220*aM:=by
 unfold sN
 by_cases h:k<=2700000
 . rw [if_pos h,if_pos h];have a:=J3 k h;rw [<-(qP k h).1,Rat.intCast_natCast] at a;exact a
 . rw [if_neg h,if_neg h];have a:=G9 (5400000-k) (by omega)
   rw [<-(qE (5400000-k) (by omega)).1,Rat.intCast_natCast] at a
   exact a
theorem Ng (k:Nat) (hk:k<=5400000):-(220*aM)<=(cN k:Rat)*aM-(if k<=2700000 then zc k else zs (5400000-k))/\(cN k:Rat)*aM-(if k<=2700000 then zc k else zs (5400000-k))<=220*aM:=by
 unfold cN
 by_cases h:k<=2700000
 . rw [if_pos h,if_pos h];have a:=G9 k h;rw [<-(qE k h).1,Rat.intCast_natCast] at a;exact a
 . rw [if_neg h,if_neg h];have a:=J3 (5400000-k) (by omega)
   rw [<-(qP (5400000-k) (by omega)).1,Rat.intCast_natCast] at a
   exact a
theorem Bz (x y:Int) (k:Nat) (h0:0<k) (h1:k<5400000) (hn:¬ (x=0/\y=0)) (hx:0<=x/\x<=2147483648) (hy:0<=y/\y<=2147483648) :
 iH x y k=true↔¬ past x y k:=by
 unfold iH past;rw [decide_eq_false (show ¬ k=0 by omega),Bool.false_or]
 by_cases hm:k=2700000
 . rw [if_pos hm,if_pos hm,decide_eq_true_iff];omega
 . rw [if_neg hm,if_neg hm,decide_eq_true_iff];have gap:=LW x y k h0 h1 hm hn hx hy;have a:=MW k (by omega)
   have b:=Ng k (by omega)
   have bx:=yn hx.1 hx.2;have by':=yn hy.1 hy.2
   have nz:=Ws;have dp:=dZ;have ep:=WN
   have ef:frm x y k=(x:Rat)*(if k<=2700000 then zs k else zc (5400000-k))-y*(if k<=2700000 then zc k else zs (5400000-k)):=by
    unfold frm;split<;>rfl
   have cx:((x.toNat:Nat):Rat)=(x:Rat):=by
    have:((x.toNat:Nat):Int)=x:=Int.toNat_of_nonneg hx.1;rw [<-Rat.intCast_natCast,this]
   have cy:((y.toNat:Nat):Rat)=(y:Rat):=by
    have:((y.toNat:Nat):Int)=y:=Int.toNat_of_nonneg hy.1;rw [<-Rat.intCast_natCast,this]
   have key:(sN k*x.toNat<=cN k*y.toNat)↔((sN k:Rat)*x<=(cN k:Rat)*y):=by
    rw [<-cx,<-cy,<-Rat.natCast_mul,<-Rat.natCast_mul];exact Rat.natCast_le_natCast.symm
   rw [key,ef];rw [ef] at gap;clear key cx cy ef hx hy hn h0 h1 hm;generalize (if k<=2700000 then zs k else zc (5400000-k))=s at *
   generalize (if k<=2700000 then zc k else zs (5400000-k))=c at *
   generalize (sN k:Rat)=S at *
   generalize (cN k:Rat)=C at *
   generalize (x:Rat)=x at *
   generalize (y:Rat)=y at *
   have m1:=aK x (S*aM-s) 2147483648 (220*aM) (by grind) bx.2 a.1 a.2
   have m2:=aK y (C*aM-c) 2147483648 (220*aM) (by grind) by'.2 b.1 b.2
   have e1:(S*x-C*y)*aM=x*(S*aM-s)-y*(C*aM-c)+(x*s-y*c):=by grind
   generalize x*(S*aM-s)=p at *
   generalize y*(C*aM-c)=q at *
   generalize x*s-y*c=f at *
   generalize S*x=A at *
   generalize C*y=B at *
   clear a b bx by'
   constructor
   . intro h hf;have:0<=(B-A)*aM:=Rat.mul_nonneg (by grind) (Rat.le_of_lt dp)
     rcases gap with g|g
     . grind
     . grind
   . intro h;refine Rat.not_lt.1 fun hh=>?_
     have:0<(A-B)*aM:=Rat.mul_pos (by grind) dp
     rcases gap with g|g
     . grind
     . grind
theorem wE (x y:Int) (hy:0<=y):¬ past x y 0:=by
 unfold past frm;rw [if_neg (by omega),if_pos (by omega),dK,dJ]
 have:(0:Rat)<=(y:Rat):=Rat.intCast_le_intCast.2 hy;grind
theorem JC (x y:Int) (hx:0<x):past x y 5400000:=by
 unfold past frm;rw [if_neg (by omega),if_neg (by omega),Nat.sub_self,dK,dJ]
 have:(0:Rat)<(x:Rat):=Rat.intCast_lt_intCast.2 hx;grind
theorem Tu:2147483648*(4*bR)<=1/1000000000:=by unfold bR aO;decide +kernel
theorem R9:4*bR<=1/1000000000:=by unfold bR aO;decide +kernel
theorem RJ:99/100<=c1/\c1<=1:=⟨BL,Js.2⟩
theorem GK (x y:Int) (k:Nat) (h1:k<5400000) (hx:0<x/\x<=2147483648) (hy:0<=y/\y<=2147483648) (h:past x y k):past x y (k+1):=by
 have bx:=yn (Int.le_of_lt hx.1) hx.2;have by':=yn hy.1 hy.2
 have x1:(1:Rat)<=(x:Rat):=Rat.intCast_le_intCast.2 hx.1;have sl:=Go.Proofs.Ytpcfajiiijndiaa.s1_low;have cl:=RJ;unfold past at *
 by_cases ha:k+1<2700000
 . rw [if_neg (by omega)] at h ⊢
   unfold frm at *
   rw [if_pos (by omega)] at h ⊢
   rw [dw,dm];have a:=dG k (by omega)
   have b:=zs_pos k (by omega)
   clear hx hy h1 ha;generalize zs k=s at *
   generalize zc k=c at *
   generalize (x:Rat)=x at *
   generalize (y:Rat)=y at *
   generalize c1=p at *
   generalize s1=q at *
   have m1:0<(x*s-y*c)*p:=Rat.mul_pos h (by grind)
   have m2:0<=(x*c)*q:=Rat.mul_nonneg (Rat.mul_nonneg (by grind) (by grind)) (by grind)
   have m3:0<=(y*s)*q:=Rat.mul_nonneg (Rat.mul_nonneg (by grind) (by grind)) (by grind)
   grind
 by_cases hb:k+1=2700000
 . rw [if_pos hb];rw [if_neg (by omega)] at h
   unfold frm at h;rw [if_pos (by omega)] at h
   have a:=dG k (by omega)
   have b:=zs_pos k (by omega)
   have e1:=dw k;have e2:=dm k;rw [hb] at e1 e2;have m:=jS;have md:=R9;have zm:=BS;rcases Int.lt_or_le y x with hh|hh
   . exact hh
   . exfalso;have xy:(x:Rat)<=(y:Rat):=Rat.intCast_le_intCast.2 hh;clear hx hy h1 ha hb hh;generalize zs 2700000=sM at *
     generalize zc 2700000=cM at *
     generalize zs k=s at *
     generalize zc k=c at *
     generalize (x:Rat)=x at *
     generalize (y:Rat)=y at *
     generalize c1=p at *
     generalize s1=q at *
     generalize bR=D at *
     have m1:0<(x*s-y*c)*p:=Rat.mul_pos h (by grind)
     have m2:0<=x*(c-49/100):=Rat.mul_nonneg (by grind) (by grind)
     have m2':0<=(x*c)*(q-29/100000000):=Rat.mul_nonneg (Rat.mul_nonneg (by grind) (by grind)) (by grind)
     have m3:0<=(y*s)*q:=Rat.mul_nonneg (Rat.mul_nonneg (by grind) (by grind)) (by grind)
     have m4:0<=(y-x)*cM:=Rat.mul_nonneg (by grind) (by grind)
     have m5:0<=x*(1/1000000000-(sM-cM)):=Rat.mul_nonneg (by grind) (by grind)
     have k:x*sM-y*cM=(x*s-y*c)*p+(x*c)*q+(y*s)*q:=by rw [e1,e2];grind
     clear e1 e2 h;grind
 by_cases hc:k=2700000
 . rw [if_neg (by omega)]
   rw [if_pos hc] at h;unfold frm;rw [if_neg (by omega)]
   have e1:=dw (5400000-(k+1));have e2:=dm (5400000-(k+1));rw [show 5400000-(k+1)+1=2700000 by omega] at e1 e2
   have a:=dG (5400000-(k+1)) (by omega)
   have b:=zs_pos (5400000-(k+1)) (by omega)
   have m:=jS;have md:=Tu;have zm:=BS
   have xy:(y:Rat)+1<=(x:Rat):=by
    have:((y+1:Int):Rat)<=(x:Rat):=Rat.intCast_le_intCast.2 (by omega)
    rw [Rat.intCast_add] at this;exact this
   have dp:0<bR:=by unfold bR aO;decide +kernel
   clear hx hy h1 ha hb hc h;generalize zs 2700000=sM at *
   generalize zc 2700000=cM at *
   generalize zs (5400000-(k+1))=s at *
   generalize zc (5400000-(k+1))=c at *
   generalize (x:Rat)=x at *
   generalize (y:Rat)=y at *
   generalize c1=p at *
   generalize s1=q at *
   generalize bR=D at *
   have m1:=aK y (sM-cM) 2147483648 (4*D) (by grind) by'.2 m.1 m.2
   have m4:0<=(x-y-1)*cM:=Rat.mul_nonneg (by grind) (by grind)
   have g:0<x*cM-y*sM:=by grind
   have m2:0<=(x*s)*q:=Rat.mul_nonneg (Rat.mul_nonneg (by grind) (by grind)) (by grind)
   have m3:0<=(y*c)*q:=Rat.mul_nonneg (Rat.mul_nonneg (by grind) (by grind)) (by grind)
   have kk:x*cM-y*sM=(x*c-y*s)*p-(x*s)*q-(y*c)*q:=by rw [e1,e2];grind
   clear e1 e2;have g2:0<(x*c-y*s)*p:=by grind
   refine Rat.not_le.1 fun hh=>?_
   have:0<=(-(x*c-y*s))*p:=Rat.mul_nonneg (by grind) (by grind)
   grind
 . rw [if_neg (by omega)] at h ⊢
   unfold frm at *
   rw [if_neg (by omega)] at h ⊢
   have e1:=dw (5400000-(k+1));have e2:=dm (5400000-(k+1));rw [show 5400000-(k+1)+1=5400000-k by omega] at e1 e2
   rw [e1,e2] at h;have a:=dG (5400000-(k+1)) (by omega)
   have b:=zs_pos (5400000-(k+1)) (by omega)
   clear hx hy h1 ha hb hc e1 e2;generalize zs (5400000-(k+1))=s at *
   generalize zc (5400000-(k+1))=c at *
   generalize (x:Rat)=x at *
   generalize (y:Rat)=y at *
   generalize c1=p at *
   generalize s1=q at *
   have m2:0<=(x*s)*q:=Rat.mul_nonneg (Rat.mul_nonneg (by grind) (by grind)) (by grind)
   have m3:0<=(y*c)*q:=Rat.mul_nonneg (Rat.mul_nonneg (by grind) (by grind)) (by grind)
   have g2:0<(x*c-y*s)*p:=by grind
   refine Rat.not_le.1 fun hh=>?_
   have:0<=(-(x*c-y*s))*p:=Rat.mul_nonneg (by grind) (by grind)
   grind
theorem xg (x y:Int) (k m:Nat) (hkm:k<=m) (h1:m<=5400000) (hx:0<x/\x<=2147483648) (hy:0<=y/\y<=2147483648) (h:past x y k):past x y m:=by
 obtain ⟨d,rfl⟩:∃ d,m=k+d:=⟨m-k,by omega⟩
 clear hkm
 induction d with
 | zero=>exact h
 | succ d ih=>exact GK x y (k+d) (by omega) hx hy (ih (by omega))
def qR (x y:Int) (L:Nat):Prop:=L<5400000/\¬ past x y L/\past x y (L+1)
theorem xM {x y:Int} {L M:Nat} (hx:0<x/\x<=2147483648) (hy:0<=y/\y<=2147483648) (h:qR x y L) (k:qR x y M):L=M:=by
 obtain ⟨a,b,c⟩:=h;obtain ⟨a',b',c'⟩:=k;rcases Nat.lt_trichotomy L M with q|q|q
 . exact absurd (xg x y (L+1) M (by omega) (by omega) hx hy c) b'
 . exact q
 . exact absurd (xg x y (M+1) L (by omega) (by omega) hx hy c') b
theorem xJ (x y:Int) (hx:0<x/\x<=2147483648) (hy:0<=y/\y<=2147483648):∀ (f lo hi:Nat),lo<hi->hi<=5400000->hi-lo<=2^f->¬ past x y lo->past x y hi->qR x y (kX x y f lo hi)
 | 0,lo,hi,h1,h2,h3,h4,h5=>by
  have:hi=lo+1:=by simp at h3;omega
  subst this;exact ⟨by show lo<_;omega,h4,h5⟩
 | f+1,lo,hi,h1,h2,h3,h4,h5=>by
  rw [vz];rw [Nat.pow_succ] at h3
  by_cases hl:lo+1<hi
  . rw [if_pos hl];have r:=Bz x y ((lo+hi)/2) (by omega) (by omega) (by omega) ⟨by omega,hx.2⟩ hy
    by_cases hr:iH x y ((lo+hi)/2)=true
    . rw [if_pos hr];exact xJ x y hx hy f _ _ (by omega) h2 (by omega) (r.1 hr) h5
    . rw [if_neg hr];exact xJ x y hx hy f _ _ (by omega) (by omega) (by omega) h4 (Classical.not_not.1 fun q=>hr (r.2 q))
  . rw [if_neg hl];have:hi=lo+1:=by omega
    subst this;exact ⟨by omega,h4,h5⟩
theorem eG (x y:Int) (h0:¬ (x=0/\y=0)) (hx:-2147483648<=x/\x<=2147483648) (hy:-2147483648<=y/\y<=2147483648):qR (qX x y) (qY x y) (gZ x y):=by
 obtain ⟨a,b,c,d⟩:=q_bd x y 2147483648 h0 hx hy;exact xJ _ _ ⟨a,b⟩ ⟨c,d⟩ 23 0 5400000 (by omega) (by omega) (by omega) (wE _ _ c) (JC _ _ a)
theorem JJ {x y x' y':Int} {k:Nat} (hk:k<=5400000) (hx:0<x/\x<=2147483648) (hy:0<=y) (hx':0<x'/\x'<=2147483648) (hy':0<=y') (hc:x'*y<=x*y') (h:past x' y' k):past x y k:=by
 unfold past at *
 by_cases hm:k=2700000
 . rw [if_pos hm] at h ⊢
   refine Int.not_le.1 fun hh=>?_
   have m1:x*(y'+1)<=x*x':=Int.mul_le_mul_of_nonneg_left (by omega) (by omega)
   have m2:x'*x<=x'*y:=Int.mul_le_mul_of_nonneg_left hh (by omega)
   have e:x*(y'+1)=x*y'+x:=by grind
   have e2:x'*x=x*x':=by grind
   omega
 . rw [if_neg hm] at h ⊢
   have px:(0:Rat)<(x:Rat):=Rat.intCast_lt_intCast.2 hx.1;have px':(0:Rat)<(x':Rat):=Rat.intCast_lt_intCast.2 hx'.1
   have pc:(x':Rat)*y<=(x:Rat)*y':=by
    have:((x'*y:Int):Rat)<=((x*y':Int):Rat):=Rat.intCast_le_intCast.2 hc
    rwa [Rat.intCast_mul,Rat.intCast_mul] at this
   unfold frm at *
   have core:∀ s c:Rat,0<=c->0<(x':Rat)*s-y'*c->0<(x:Rat)*s-y*c:=by
    intro s c hc0 hh;clear hx hy hx' hy' hc h hm;generalize (x:Rat)=x at *
    generalize (y:Rat)=y at *
    generalize (x':Rat)=x' at *
    generalize (y':Rat)=y' at *
    refine Rat.not_le.1 fun hq=>?_
    have m1:0<(x'*s-y'*c)*x:=Rat.mul_pos hh px;have m2:0<=(-(x*s-y*c))*x':=Rat.mul_nonneg (by grind) (Rat.le_of_lt px')
    have m3:0<=(x*y'-x'*y)*c:=Rat.mul_nonneg (by grind) hc0
    grind
   by_cases hb:k<=2700000
   . rw [if_pos hb] at h ⊢
     have a:=dG k hb;exact core _ _ (by clear h px px' pc core hc hx hy hx' hy';grind) h
   . rw [if_neg hb] at h ⊢
     exact core _ _ (zs_pos _ (by omega)) h
theorem tH {x y x' y':Int} {L M:Nat} (hx:0<x/\x<=2147483648) (hy:0<=y/\y<=2147483648) (hx':0<x'/\x'<=2147483648) (hy':0<=y'/\y'<=2147483648) (hc:x'*y<=x*y') (h:qR x y L) (k:qR x' y' M):L<=M:=by
 rcases Nat.lt_or_ge M L with q|q
 . exact absurd (xg x y (M+1) L (by omega) (by have:=h.1;omega) hx hy (JJ (by have:=k.1;omega) hx hy.1 hx' hy'.1 hc k.2.2)) h.2.1
 . exact q
end Alm
namespace Alm
def crs (px py qx qy:Int):Int:=px*qy-py*qx
theorem Ji (u v px py qx qy rx ry:Int):crs px py rx ry*(u*qx+v*qy)=crs px py qx qy*(u*rx+v*ry)+crs qx qy rx ry*(u*px+v*py):=by
 unfold crs;grind
theorem iQ {u v px py qx qy rx ry:Int} (hp:0<u*px+v*py) (hq:0<u*qx+v*qy) (hr:0<u*rx+v*ry) (h1:0<=crs px py qx qy) (h2:0<=crs qx qy rx ry):0<=crs px py rx ry:=by
 have e:=Ji u v px py qx qy rx ry;have a:=Int.mul_nonneg h1 (Int.le_of_lt hr);have b:=Int.mul_nonneg h2 (Int.le_of_lt hp);rcases Int.lt_or_le (crs px py rx ry) 0 with h|h
 . have:=Int.mul_neg_of_neg_of_pos h hq;omega
 . exact h
theorem rM (px py qx qy:Int):crs qx qy px py=-crs px py qx qy:=by unfold crs;grind
theorem zO (px py:Int):crs px py px py=0:=by unfold crs;grind
theorem Ej (px py qx qy:Int):oC px py qx qy=decide (0<=crs px py qx qy):=by
 unfold oC crs;exact decide_eq_decide.2 ⟨fun h=>by omega,fun h=>by omega⟩
theorem qH {a b h k:Int} (hh:0<h) (hk:0<k) (e:a*k=b*h):(0<a↔0<b)/\(0<=a↔0<=b)/\(a<0↔b<0):=by
 have key:∀ x y s t:Int,0<s->0<t->x*t=y*s->0<x->0<y:=by
  intro x y s t hs ht he hx;rcases Int.lt_or_le 0 y with q|q
  . exact q
  . have a1:=Int.mul_pos hx ht;have a2:=Int.mul_nonneg (show 0<=-y by omega) (Int.le_of_lt hs)
    have a3:-y*s=-(y*s):=Int.neg_mul y s;omega
 have key2:∀ x y s t:Int,0<s->0<t->x*t=y*s->x<0->y<0:=by
  intro x y s t hs ht he hx;have:=key (-x) (-y) s t hs ht (by rw [Int.neg_mul,Int.neg_mul,he]) (by omega)
  omega
 have p1:0<a↔0<b:=⟨key a b h k hh hk e,key b a k h hk hh e.symm⟩;have p2:a<0↔b<0:=⟨key2 a b h k hh hk e,key2 b a k h hk hh e.symm⟩;exact ⟨p1,by omega,p2⟩
theorem Il {u v px py qx qy:Int} (hp:0<u*px+v*py) (hq:0<u*qx+v*qy) (hc:crs px py qx qy=0) (hpx:-2147483648<=px/\px<=2147483648) (hpy:-2147483648<=py/\py<=2147483648) (hqx:-2147483648<=qx/\qx<=2147483648) (hqy:-2147483648<=qy/\qy<=2147483648) :
 bX px py=bX qx qy/\iA px py=iA qx qy:=by
 have ex:px*(u*qx+v*qy)=qx*(u*px+v*py):=by
  have:px*(u*qx+v*qy)-qx*(u*px+v*py)=v*crs px py qx qy:=by unfold crs;grind
  rw [hc] at this;omega
 have ey:py*(u*qx+v*qy)=qy*(u*px+v*py):=by
  have:py*(u*qx+v*qy)-qy*(u*px+v*py)=-(u*crs px py qx qy):=by unfold crs;grind
  rw [hc] at this;omega
 obtain ⟨x1,x2,x3⟩:=qH hp hq ex;obtain ⟨y1,y2,y3⟩:=qH hp hq ey;have np:¬ (px=0/\py=0):=by rintro ⟨rfl,rfl⟩;simp at hp
 have nq:¬ (qx=0/\qy=0):=by rintro ⟨rfl,rfl⟩;simp at hq
 have dp:=eG px py np hpx hpy;have dq:=eG qx qy nq hqx hqy;have bp:=q_bd px py 2147483648 np hpx hpy;have bq:=q_bd qx qy 2147483648 nq hqx hqy
 have hcr:qX qx qy*qY px py=qX px py*qY qx qy:=by
  unfold crs at hc;unfold qX qY
  by_cases c1:0<px/\0<=py
  . rw [if_pos c1,if_pos c1,if_pos (by omega),if_pos (by omega)];grind
  . rw [if_neg c1,if_neg c1,if_neg (show ¬ (0<qx/\0<=qy) by omega),if_neg (show ¬ (0<qx/\0<=qy) by omega)]
    by_cases c2:0<py
    . rw [if_pos c2,if_pos c2,if_pos (by omega),if_pos (by omega)];grind
    . rw [if_neg c2,if_neg c2,if_neg (show ¬ 0<qy by omega),if_neg (show ¬ 0<qy by omega)]
      by_cases c3:px<0
      . rw [if_pos c3,if_pos c3,if_pos (by omega),if_pos (by omega)];grind
      . rw [if_neg c3,if_neg c3,if_neg (show ¬ qx<0 by omega),if_neg (show ¬ qx<0 by omega)];grind
 have hT:qT px py=qT qx qy:=by
  unfold qT
  by_cases c1:0<px/\0<=py
  . rw [if_pos c1,if_pos (by omega)]
  . rw [if_neg c1,if_neg (show ¬ (0<qx/\0<=qy) by omega)]
    by_cases c2:0<py
    . rw [if_pos c2,if_pos (by omega)]
    . rw [if_neg c2,if_neg (show ¬ 0<qy by omega)]
      by_cases c3:px<0
      . rw [if_pos c3,if_pos (by omega)]
      . rw [if_neg c3,if_neg (show ¬ qx<0 by omega)]
 have hL:gZ px py=gZ qx qy:=by
  have a:=tH ⟨bp.1,bp.2.1⟩ ⟨bp.2.2.1,bp.2.2.2⟩ ⟨bq.1,bq.2.1⟩ ⟨bq.2.2.1,bq.2.2.2⟩ (by omega) dp dq
  have b:=tH ⟨bq.1,bq.2.1⟩ ⟨bq.2.2.1,bq.2.2.2⟩ ⟨bp.1,bp.2.1⟩ ⟨bp.2.2.1,bp.2.2.2⟩ (by omega) dq dp
  omega
 refine ⟨by unfold bX;rw [hT,hL],?_⟩
 unfold iA;rw [hL]
 have e0:decide (qY px py=0)=decide (qY qx qy=0):=by
  have:=qH bp.1 bq.1 (show qY px py*qX qx qy=qY qx qy*qX px py by grind)
  exact decide_eq_decide.2 (by omega)
 have e1:decide (qX px py=qY px py)=decide (qX qx qy=qY qx qy):=by
  have:=qH bp.1 bq.1 (show (qX px py-qY px py)*qX qx qy=(qX qx qy-qY qx qy)*qX px py by grind)
  exact decide_eq_decide.2 (by omega)
 rw [e0,e1]
theorem xQ (x y:Int) (h:¬ (x=0/\y=0)):(qT x y=0/\x=qX x y/\y=qY x y)∨(qT x y=5400000/\x=-qY x y/\y=qX x y)∨(qT x y=10800000/\x=-qX x y/\y=-qY x y)∨(qT x y=16200000/\x=qY x y/\y=-qX x y):=by
 unfold qT qX qY
 by_cases c1:0<x/\0<=y
 . rw [if_pos c1,if_pos c1,if_pos c1];left;omega
 . rw [if_neg c1,if_neg c1,if_neg c1]
   by_cases c2:0<y
   . rw [if_pos c2,if_pos c2,if_pos c2];right;left;omega
   . rw [if_neg c2,if_neg c2,if_neg c2]
     by_cases c3:x<0
     . rw [if_pos c3,if_pos c3,if_pos c3];right;right;left;omega
     . rw [if_neg c3,if_neg c3,if_neg c3];right;right;right;omega
theorem LV {px py qx qy:Int} (np:¬ (px=0/\py=0)) (nq:¬ (qx=0/\qy=0)) (hc:0<=crs px py qx qy) (hpx:-2147483648<=px/\px<=2147483648) (hpy:-2147483648<=py/\py<=2147483648) (hqx:-2147483648<=qx/\qx<=2147483648) (hqy:-2147483648<=qy/\qy<=2147483648) :
 bX qx qy+1≠bX px py:=by
 have dp:=eG px py np hpx hpy;have dq:=eG qx qy nq hqx hqy;have bp:=q_bd px py 2147483648 np hpx hpy;have bq:=q_bd qx qy 2147483648 nq hqx hqy;have lp:=dp.1;have lq:=dq.1;intro he;unfold bX at he
 have same:crs px py qx qy=qX px py*qY qx qy-qY px py*qX qx qy->gZ px py<=gZ qx qy:=fun e =>
  tH ⟨bp.1,bp.2.1⟩ ⟨bp.2.2.1,bp.2.2.2⟩ ⟨bq.1,bq.2.1⟩ ⟨bq.2.2.1,bq.2.2.2⟩ (by
   have:qX qx qy*qY px py=qY px py*qX qx qy:=Int.mul_comm _ _;omega) dp dq
 have turn:crs px py qx qy=-(qX px py*qX qx qy+qY px py*qY qx qy)->False:=fun e=>by
  have a:=Int.mul_pos bp.1 bq.1;have b:=Int.mul_nonneg bp.2.2.1 bq.2.2.1;omega
 have hp:=xQ px py np;have hq:=xQ qx qy nq;unfold crs at same turn;generalize qX px py=X at *
 generalize qY px py=Y at *
 generalize qX qx qy=U at *
 generalize qY qx qy=V at *
 generalize qT px py=s at *
 generalize qT qx qy=t at *
 clear dp dq hc hpx hpy hqx hqy np nq
 rcases hp with ⟨rfl,rfl,rfl⟩|⟨rfl,rfl,rfl⟩|⟨rfl,rfl,rfl⟩|⟨rfl,rfl,rfl⟩<;>rcases hq with ⟨rfl,rfl,rfl⟩|⟨rfl,rfl,rfl⟩|⟨rfl,rfl,rfl⟩|⟨rfl,rfl,rfl⟩ <;>
  first
  | omega
  | (have:=same (by grind);omega)
  | exact turn (by grind)
end Alm
namespace Alm
theorem zq {yl yh xl xh:Int} (hy:yl<=yh) (hx:xl<=xh) (ho:¬ (xl<=0/\0<=xh/\yl<=0/\0<=yh)) :
 ∃ u v:Int,∀ px py:Int,(px=xl∨px=xh)->(py=yl∨py=yh)->0<u*px+v*py:=by
 by_cases h1:0<xl
 . exact ⟨1,0,fun px py h k=>by omega⟩
 . by_cases h2:xh<0
   . exact ⟨-1,0,fun px py h k=>by omega⟩
   . by_cases h3:0<yl
     . exact ⟨0,1,fun px py h k=>by omega⟩
     . exact ⟨0,-1,fun px py h k=>by omega⟩
theorem NS (xl xh yl yh:Int) (k:Nat):(cX xl xh k=xl∨cX xl xh k=xh)/\(cY yl yh k=yl∨cY yl yh k=yh):=by
 simp only [cX,cY];constructor<;>split<;>simp
theorem kv {yl yh xl xh u v:Int} (H:∀ px py:Int,(px=xl∨px=xh)->(py=yl∨py=yh)->0<u*px+v*py) (k j:Nat) (hj:j<k) :
 0<=crs (aA xl xh yl yh k).1 (aA xl xh yl yh k).2 (cX xl xh j) (cY yl yh j):=by
 induction k with
 | zero=>omega
 | succ k ih =>
  have pi:=iq xl xh yl yh k;have ci:=NS xl xh yl yh k;have cj:=NS xl xh yl yh j;rw [show aA xl xh yl yh (k+1)=if oC (cX xl xh k) (cY yl yh k) (aA xl xh yl yh k).1 (aA xl xh yl yh k).2 then (cX xl xh k,cY yl yh k) else aA xl xh yl yh k from rfl]
  have hp:=H _ _ pi.1 pi.2;have hc:=H _ _ ci.1 ci.2;have hj':=H _ _ cj.1 cj.2;rw [Ej]
  by_cases h1:0<=crs (cX xl xh k) (cY yl yh k) (aA xl xh yl yh k).1 (aA xl xh yl yh k).2
  . rw [if_pos (by simpa using h1)]
    by_cases e:j=k
    . subst e;have:=zO (cX xl xh j) (cY yl yh j);simp only [];omega
    . exact iQ hc hp hj' h1 (ih (by omega))
  . rw [if_neg (by simpa using h1)]
    by_cases e:j=k
    . subst e;have:=rM (aA xl xh yl yh j).1 (aA xl xh yl yh j).2 (cX xl xh j) (cY yl yh j);omega
    . exact ih (by omega)
end Alm
namespace Alm
theorem Cy (yl yh xl xh:Int):0<=bf yl yh xl xh/\bf yl yh xl xh<=21599999/\bf yl yh xl xh<=bK yl yh xl xh/\bK yl yh xl xh<=bf yl yh xl xh+21600000:=by
 have a:=fZ (aA xl xh yl yh 4).1 (aA xl xh yl yh 4).2;have b:=fZ (aB xl xh yl yh 4).1 (aB xl xh yl yh 4).2;unfold bK bf upE;cases dY yl yh xl xh
 . simp only [Bool.false_eq_true,if_false];generalize bX (aA xl xh yl yh 4).1 (aA xl xh yl yh 4).2=f at *
   generalize bX (aB xl xh yl yh 4).1 (aB xl xh yl yh 4).2=l at *
   generalize iA (aB xl xh yl yh 4).1 (aB xl xh yl yh 4).2=e at *
   cases e<;>simp<;>split<;>omega
 . simp
theorem II (Y:Int) (h:0<Y/\Y<=2147483648) (L:Nat) (hL:qR Y 0 L):L=0:=by
 refine xM h ⟨Int.le_refl _,by omega⟩ hL ⟨by omega,wE Y 0 (Int.le_refl _),?_⟩
 unfold past frm;rw [if_neg (by omega),if_pos (by omega)]
 have u:=Go.Proofs.Ytpcfajiiijndiaa.zs_up 0 (by omega)
 rw [dK] at u;have p:(0:Rat)<(Y:Rat):=Rat.intCast_lt_intCast.2 h.1;have m:=Rat.mul_pos p (show 0<zs (0+1) by grind)
 have e:((0:Int):Rat)=0:=rfl;rw [e];have e1:zs 1=zs (0+1):=rfl;rw [e1];grind
