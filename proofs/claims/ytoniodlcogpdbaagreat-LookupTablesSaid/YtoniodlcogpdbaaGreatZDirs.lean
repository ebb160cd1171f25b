/- Plain numbers: no point of small coordinates lies near the ray of an angle. -/
import Derived.Test.YtoniodlcogpdbaaGreatZCfB1
import Derived.Test.YtoniodlcogpdbaaGreatZCfB3
import Derived.Test.YtoniodlcogpdbaaGreatZTrigs
import Derived.Test.YtoniodlcogpdbaaGreatZArcHi
import Derived.Test.YtoniodlcogpdbaaGreatZArc8
set_option linter.unusedVariables false
set_option linter.unusedSimpArgs false
namespace Alm
def bE:Rat:=1/((2^160:Int):Rat)
theorem ZX:(jl:Rat)*bE=1:=by unfold jl bE;decide +kernel
theorem kv:0<bE:=by unfold bE;decide +kernel
theorem pR:bE<=1/1000000000000000000:=by unfold bE;decide +kernel
theorem xY:-bE<=(qc1:Rat)*bE-c1/\(qc1:Rat)*bE-c1<=bE:=by
 unfold bE c1 qc1 c1n dd tp;constructor<;>decide +kernel
theorem xW:-bE<=(qs1:Rat)*bE-s1/\(qs1:Rat)*bE-s1<=bE:=by
 unfold bE s1 qs1 s1n dd tp;constructor<;>decide +kernel
theorem Ky:0<s1/\s1<=3/10000000:=by unfold s1 s1n dd tp;constructor<;>decide +kernel
theorem Gq:99/100<=c1:=by unfold c1 c1n dd tp;decide +kernel
def zA (c s:Nat) (n:Nat) (e:Rat):Prop :=
 (-e<=(c:Rat)*bE-zc n/\(c:Rat)*bE-zc n<=e)/\(-e<=(s:Rat)*bE-zs n/\(s:Rat)*bE-zs n<=e)
theorem wW (X:Nat):((X/jl:Nat):Rat)*bE<=X*(bE*bE)/\X*(bE*bE)<=((X/jl:Nat):Rat)*bE+bE:=by
 have hF:0<jl:=by decide +kernel
 have h1:=Nat.div_mul_le_self X jl;have h2:=Nat.lt_div_mul_add (a:=X) hF;have g1:=bT _ _ h1;have g2:=bT _ _ (Nat.le_of_lt h2);rw [Rat.natCast_mul] at g1;rw [Rat.natCast_add,Rat.natCast_mul] at g2;have he:=ZX;have hp:=kv;have hpp:0<=bE*bE:=bG _;generalize ((X/jl:Nat):Rat)=q at *
 generalize (jl:Rat)=F at *
 have k1:=Rat.mul_le_mul_of_nonneg_right g1 hpp;have k2:=Rat.mul_le_mul_of_nonneg_right g2 hpp;have e1:q*F*(bE*bE)=q*bE*(F*bE):=by grind
 have e2:(q*F+F)*(bE*bE)=(q*bE+bE)*(F*bE):=by grind
 rw [e1,he] at k1;rw [e2,he] at k2
 constructor<;>grind
theorem Sd (a b c d:Nat) (A B C D:Rat) (h1:(a:Rat)*bE<=A) (h2:(b:Rat)*bE<=B) (h3:C<=(c:Rat)*bE) (h4:D<=(d:Rat)*bE) (hC:0<=C) (hD:0<=D) (h:A*B<=C*D):a*b<=c*d:=by
 have hp:=kv;have ha:=aD a;have hb:=aD b;have pa:0<=(a:Rat)*bE:=Rat.mul_nonneg ha (Rat.le_of_lt hp);have pb:0<=(b:Rat)*bE:=Rat.mul_nonneg hb (Rat.le_of_lt hp);have k1:=Rat.mul_le_mul_of_nonneg_right h1 pb;have k2:=Rat.mul_le_mul_of_nonneg_left h2 (show 0<=A by grind)
 have k3:=Rat.mul_le_mul_of_nonneg_right h3 hD;have k4:=Rat.mul_le_mul_of_nonneg_left h4 (show 0<=(c:Rat)*bE by grind)
 have hle:((a*b:Nat):Rat)<=((c*d:Nat):Rat):=by
  rw [Rat.natCast_mul,Rat.natCast_mul];have hpp:(0:Rat)<bE*bE:=Rat.mul_pos hp hp;apply Rat.le_of_mul_le_mul_right (c:=bE*bE) _ hpp;generalize (a:Rat)=a at *
  generalize (b:Rat)=b at *
  generalize (c:Rat)=c at *
  generalize (d:Rat)=d at *
  generalize bE=e at *
  have e1:a*b*(e*e)=a*e*(b*e):=by grind
  have e2:c*d*(e*e)=c*e*(d*e):=by grind
  grind
 exact_mod_cast hle
theorem adU (cp sp:Nat) (n:Nat) (e:Rat) (he0:0<=e) (he:e<=1/100) (h:zA cp sp n e) (hsub:sp*qs1<=cp*qc1) :
 zA ((cp*qc1-sp*qs1)/jl) ((sp*qc1+cp*qs1)/jl) (n+1) (e*(1+s1)+6*bE):=by
 obtain ⟨⟨a1,a2⟩,⟨b1,b2⟩⟩:=h;have d1:=wW (cp*qc1-sp*qs1);have d2:=wW (sp*qc1+cp*qs1);rw [jY _ _ hsub,Rat.natCast_mul,Rat.natCast_mul] at d1;rw [Rat.natCast_add,Rat.natCast_mul,Rat.natCast_mul] at d2;have za1:=fV n;have za2:=fT n;have hC:=xY;have hS:=xW;have hep:=kv;have hes:=pR;have st:=Ky;have zr:=Qi;have zr2:=Gq;have zn:=qL n;have zn2:=lL n;unfold zA;rw [za1,za2];generalize (((cp*qc1-sp*qs1)/jl:Nat):Rat)=P1 at *
 generalize (((sp*qc1+cp*qs1)/jl:Nat):Rat)=P2 at *
 generalize (cp:Rat)=x at *
 generalize (sp:Rat)=y at *
 generalize (qc1:Rat)=c at *
 generalize (qs1:Rat)=s at *
 generalize zc n=u at *
 generalize zs n=v at *
 generalize c1=k at *
 generalize s1=l at *
 generalize bE=d at *
 have f1:(x*c-y*s)*(d*d)=(x*d)*(c*d)-(y*d)*(s*d):=by grind
 have f2:(y*c+x*s)*(d*d)=(y*d)*(c*d)+(x*d)*(s*d):=by grind
 rw [f1] at d1;rw [f2] at d2;obtain ⟨A,hA⟩:∃ A,A=x*d-u:=⟨_,rfl⟩;obtain ⟨B,hB⟩:∃ B,B=y*d-v:=⟨_,rfl⟩;obtain ⟨G,hG⟩:∃ G,G=c*d-k:=⟨_,rfl⟩;obtain ⟨H,hH⟩:∃ H,H=s*d-l:=⟨_,rfl⟩;rw [<-hA] at a1 a2;rw [<-hB] at b1 b2;rw [<-hG] at hC;rw [<-hH] at hS;have ex:x*d=u+A:=by grind
 have ey:y*d=v+B:=by grind
 have ec:c*d=k+G:=by grind
 have es:s*d=l+H:=by grind
 rw [ex,ey,ec,es] at d1 d2;clear hA hB hG hH ex ey ec es f1 f2;have t1:=aB A k e 1 a1 a2 (by grind) (by grind)
 have t2:=aB B l e l b1 b2 (by grind) (by grind)
 have t3:=aB (u+A) G (101/100) d (by grind) (by grind) hC.1 hC.2
 have t4:=aB (v+B) H (101/100) d (by grind) (by grind) hS.1 hS.2
 have t5:=aB B k e 1 b1 b2 (by grind) (by grind)
 have t6:=aB A l e l a1 a2 (by grind) (by grind)
 have t7:=aB (v+B) G (101/100) d (by grind) (by grind) hC.1 hC.2
 have t8:=aB (u+A) H (101/100) d (by grind) (by grind) hS.1 hS.2
 refine ⟨⟨?_,?_⟩,⟨?_,?_⟩⟩<;>grind
def uL (t n:Nat):Prop:=zA (t%dF) (t/dF) n (11*n*bE)
theorem LJ (t:Nat):stp t%dF=((t%dF)*qc1-(t/dF)*qs1)/jl/\stp t/dF=((t/dF)*qc1+(t%dF)*qs1)/jl:=by
 have h:((t%dF)*qc1-(t/dF)*qs1)/jl<dF:=by
  have h1:t%dF<dF:=Nat.mod_lt _ (by decide +kernel)
  have h2:(t%dF)*qc1<=(t%dF)*jl:=Nat.mul_le_mul_left _ (by decide +kernel)
  have h3:((t%dF)*qc1-(t/dF)*qs1)/jl<=t%dF:=by
   apply Nat.div_le_of_le_mul;rw [Nat.mul_comm jl];omega
  omega
 have hW:0<dF:=by decide +kernel
 unfold stp;generalize ((t%dF)*qc1-(t/dF)*qs1)/jl=x at *
 generalize ((t/dF)*qc1+(t%dF)*qs1)/jl=y at *
 generalize dF=W at *
 exact ⟨by rw [Nat.add_mul_mod_self_left,Nat.mod_eq_of_lt h],by rw [Nat.add_mul_div_left _ _ hW,Nat.div_eq_of_lt h,Nat.zero_add]⟩
theorem O6 (t n:Nat) (hn:n<=1360000) (h:uL t n):uL (stp t) (n+1):=by
 have hp:=kv;have hs:=pR;have hc:=xY;have hs1:=xW;have b1:=Ky;have b2:=Gq;have zcn:=eT n (by omega)
 have zsn:=lL n;have hnn:(n:Rat)<=1360000:=by exact_mod_cast hn
 have hn0:=aD n;have he0:0<=11*(n:Rat)*bE:=Rat.mul_nonneg (by grind) (by grind)
 have he1:11*(n:Rat)*bE<=14960000*bE:=Rat.mul_le_mul_of_nonneg_right (by grind) (by grind)
 have hh:=h;unfold uL at h
 have g:=adU (t%dF) (t/dF) n (11*n*bE) he0 (by grind) h
  (by
   obtain ⟨⟨a1,a2⟩,⟨a3,a4⟩⟩:=h;apply Sd (t/dF) qs1 (t%dF) qc1 2 (1/100) (1/10) (9/10)<;>grind)
 have hle:11*(n:Rat)*bE*(1+s1)+6*bE<=11*(n+1:Nat)*bE:=by
  have e1:((n+1:Nat):Rat)=(n:Rat)+1:=by norm_cast
  rw [e1];have m:=Rat.mul_le_mul_of_nonneg_left b1.2 he0;grind
 obtain ⟨p1,p2⟩:=LJ t;unfold uL;rw [p1,p2];generalize 11*(n:Rat)*bE*(1+s1)+6*bE=E at *
 unfold zA at *
 obtain ⟨⟨a1,a2⟩,⟨a3,a4⟩⟩:=g;refine ⟨⟨?_,?_⟩,⟨?_,?_⟩⟩<;>grind
def T1:Nat:=2668606815930616794422295251795238276401961381301642649179619132477219630421654918950972168987929389
theorem UZ:uL T1 1:=by
 have a:T1%dF=qc1:=by decide +kernel
 have b:T1/dF=qs1:=by decide +kernel
 unfold uL zA;rw [a,b,Qw,Bb];have hc:=xY;have hs1:=xW;have hp:=kv;have e:((1:Nat):Rat)=1:=rfl;rw [e];refine ⟨⟨?_,?_⟩,⟨?_,?_⟩⟩<;>grind
theorem Fh:∀ j:Nat,j<=1359999->uL (Gn j T1) (1+j)
 | 0,_=>UZ
 | j+1,h=>by
  rw [Nl];have h2:=O6 (Gn j T1) (1+j) (by omega) (Fh j (by omega))
  rw [show 1+(j+1)=1+j+1 by omega]
  exact h2
theorem NP:Walk 1351680 T1 3514879727201953102891235138955415353210249926988623055823917715107581327316116319700368899033249232865815:=jo (by decide +kernel) (ah (ah (ah abA ac7) aau) abZ)
theorem U5:ak*1351680<=2/5:=by unfold ak;decide +kernel
theorem Vo (m j:Nat) (y:Rat):hr (m+1) j y=1-y/(((j+1)*(j+2):Nat):Rat)*hr m (j+2) y:=by rw [hr]
theorem Xw (n:Nat) (h:n<=1351680):3/4<=zc n:=by
 obtain ⟨_,h2⟩:=near n (by omega)
 obtain ⟨_,y0,y1,_,_⟩:=nk n (by omega)
 have hb:=ou 33 2 _ y0 y1;have e:=zV n;have ht:=gL.1;have hn:(n:Rat)<=1351680:=by exact_mod_cast h
 have hx2:=Rat.mul_le_mul_of_nonneg_right hn (Rat.le_of_lt ht);have hx3:=U5;have hx:0<=(n:Rat)*ak:=Rat.mul_nonneg (aD n) (Rat.le_of_lt ht);have k:=tZ;have q:=iB _ ((0+1)*(0+2)) (by omega) y0 y1
 rw [Vo 33 0] at e;have e2:(((0+1)*(0+2):Nat):Rat)=2:=rfl;rw [e2] at q e
 have hsq:((n*ak)*(n*ak))<=4/25:=by
  have:=aB ((n:Rat)*ak) ((n:Rat)*ak) (2/5) (2/5) (by grind) (by grind) (by grind) (by grind)
  grind
 clear hx2 hx3 hx hn;generalize (n:Rat)*ak*((n:Rat)*ak)=y at *
 generalize hr 33 2 y=H at *
 generalize y/2=z at *
 have m:=aB z H (2/25) 1 (by grind) (by grind) (by grind) (by grind)
 grind
def e61:Rat:=1/((2^61:Int):Rat)
theorem adk:(1267650600228229401496703205376:Rat)*bE=2*e61:=by unfold e61 bE;decide +kernel
theorem e137:8589934592*(14960000*bE)<=e61:=by unfold e61 bE;decide +kernel
theorem Pg (n:Nat) (h0:1<=n) (h1:n<=1351680) (X Y:Int) (hn:¬ (X=0/\Y=0)) (hX:-4294967296<=X/\X<=4294967296) (hY:-4294967296<=Y/\Y<=4294967296) :
 e61<=(X:Rat)*zs n-Y*zc n∨(X:Rat)*zs n-Y*zc n<=-e61:=by
 obtain ⟨j,rfl⟩:∃ j,n=1+j:=⟨n-1,by omega⟩
 obtain ⟨g1,g2,g3⟩:=Lp NP j (by omega)
 have hN:=Fh j (by omega)
 unfold uL at hN;generalize Gn j T1%dF=c at *
 generalize Gn j T1/dF=s at *
 obtain ⟨⟨a1,a2⟩,⟨b1,b2⟩⟩:=hN;have hp:=kv;have hes:=pR;have zcn:=eT (1+j) (by omega)
 have hjj:((1+j:Nat):Rat)<=1360000:=by exact_mod_cast (show 1+j<=1360000 by omega)
 have hE:11*((1+j:Nat):Rat)*bE<=14960000*bE:=Rat.mul_le_mul_of_nonneg_right (by grind) (by grind)
 have zc22:3/4<=zc (1+j):=Xw (1+j) (by omega)
 have hc:730750818665451459101842416358141509827966271488<=c:=by
  have q:(730750818665451459101842416358141509827966271488:Rat)*bE=1/2:=by unfold bE;decide +kernel
  have:((730750818665451459101842416358141509827966271488:Nat):Rat)<=(c:Rat):=by
   apply Rat.le_of_mul_le_mul_right (c:=bE) _ hp;have e:((730750818665451459101842416358141509827966271488:Nat):Rat)=730750818665451459101842416358141509827966271488:=rfl;rw [e,q];grind
  exact_mod_cast this
 have hr:=Ps 200 (c-1) (s-1) (by omega) g3
 rw [show c-1+1=c by omega,show s-1+1=s by omega] at hr
 have hf:=NR c s hr hc X Y hn hX;have hXr:-(4294967296:Rat)<=(X:Rat)/\(X:Rat)<=4294967296:=⟨Rat.intCast_le_intCast.2 hX.1,Rat.intCast_le_intCast.2 hX.2⟩;have hYr:-(4294967296:Rat)<=(Y:Rat)/\(Y:Rat)<=4294967296:=⟨Rat.intCast_le_intCast.2 hY.1,Rat.intCast_le_intCast.2 hY.2⟩;have q1:=adk;have q2:=e137;have m1:=aB (X:Rat) ((s:Rat)*bE-zs (1+j)) 4294967296 (14960000*bE) hXr.1 hXr.2 (by grind) (by grind)
 have m2:=aB (Y:Rat) ((c:Rat)*bE-zc (1+j)) 4294967296 (14960000*bE) hYr.1 hYr.2 (by grind) (by grind)
 have hf':(1267650600228229401496703205376:Rat)<=(X:Rat)*s-Y*c∨(X:Rat)*s-Y*c<=-1267650600228229401496703205376:=by
  rcases hf with hf|hf
  . left
    have:((1267650600228229401496703205376:Int):Rat)<=((X*s-Y*c:Int):Rat):=Rat.intCast_le_intCast.2 hf;rw [Rat.intCast_sub,Rat.intCast_mul,Rat.intCast_mul,Rat.intCast_natCast,Rat.intCast_natCast] at this;exact this
  . right
    have:((X*s-Y*c:Int):Rat)<=((-1267650600228229401496703205376:Int):Rat):=Rat.intCast_le_intCast.2 hf;rw [Rat.intCast_sub,Rat.intCast_mul,Rat.intCast_mul,Rat.intCast_natCast,Rat.intCast_natCast] at this;exact this
 clear hr hc g1 g2 g3 hf hX hY hn a1 a2 b1 b2 zc22 zcn hE hjj h0 h1;generalize zs (1+j)=u at *
 generalize zc (1+j)=v at *
 generalize (c:Rat)=c at *
 generalize (s:Rat)=s at *
 generalize (X:Rat)=X at *
 generalize (Y:Rat)=Y at *
 have ex:(X*s-Y*c)*bE=X*(s*bE-u)-Y*(c*bE-v)+(X*u-Y*v):=by grind
 rcases hf' with hf|hf
 . left
   have k:=Rat.mul_le_mul_of_nonneg_right hf (Rat.le_of_lt hp);rw [ex,q1] at k;grind
 . right
   have k:=Rat.mul_le_mul_of_nonneg_right hf (Rat.le_of_lt hp);rw [ex] at k;grind
theorem rq:-(4*bQ)<=zs 2700000-zc 2700000/\zs 2700000-zc 2700000<=4*bQ:=by
 have h:=near 2700000 (by omega)
 have m:=Md
 have hs:=xV (ps 2700000-pc 2700000) (ev sP M0-ev cP M0) L0 Bz (by
  have a:=kR 2700000;have b:=mM 2700000;have e:((2700000:Nat):Int)=M0:=rfl;rw [e] at a b;rw [Rat.intCast_sub];grind) m
 have k:aO<=bQ:=by unfold bQ aO;decide +kernel
 generalize ps 2700000=a at *
 generalize pc 2700000=b at *
 generalize zs 2700000=c at *
 generalize zc 2700000=d at *
 generalize bQ=e at *
 generalize aO=f at *
 grind
theorem Z7:e61=2*e62:=by unfold e61 e62;decide +kernel
theorem YX:8589934592*(4*bQ)<=1/1000000000*e62:=by unfold bQ aO e62;decide +kernel
theorem Ho:7/10<=zc 2700000:=by
 have f2:FlR (zc 2700000) 759250124:=Bc;unfold FlR at f2;have m:0<mg:=by unfold mg;decide +kernel
 have u:u30=1/1073741824:=by unfold u30;decide +kernel
 rw [u] at f2;generalize zc 2700000=x at *
 grind
theorem RG (n:Nat) (h0:0<n) (h1:n<2700000) (X Y:Int) (hn:¬ (X=0/\Y=0)) (hX:-2147483648<=X/\X<=2147483648) (hY:-2147483648<=Y/\Y<=2147483648) :
 e62<=(X:Rat)*zs n-Y*zc n∨(X:Rat)*zs n-Y*zc n<=-e62:=by
 have ep:0<e62:=by unfold e62;decide +kernel
 have e1:=Z7
 by_cases hs:n<=1351680
 . have h:=Pg n (by omega) hs X Y hn (by omega) (by omega)
   rw [e1] at h;clear hX hY hn hs h0 h1;rcases h with h|h
   . left;grind
   . right;grind
 . obtain ⟨j,hj⟩:∃ j,j+n=2700000:=⟨2700000-n,by omega⟩
   have h:=Pg j (by omega) (by omega) (X+Y) (X-Y) (by omega) (by omega) (by omega)
   have hu:=ER j;obtain ⟨a1,a2⟩:=Yr j n;rw [hj] at a1 a2;have m:=rq;have zm:=Ho;have q1:=YX;have hXr:-(2147483648:Rat)<=(X:Rat)/\(X:Rat)<=2147483648:=⟨Rat.intCast_le_intCast.2 hX.1,Rat.intCast_le_intCast.2 hX.2⟩;have hYr:-(2147483648:Rat)<=(Y:Rat)/\(Y:Rat)<=2147483648:=⟨Rat.intCast_le_intCast.2 hY.1,Rat.intCast_le_intCast.2 hY.2⟩;have zl1:=lL j;have zl2:=qL j;have dp:0<bQ:=by unfold bQ aO;decide +kernel
   rw [Rat.intCast_add,Rat.intCast_sub,e1] at h;clear hX hY hn hs h0 h1 hj e1;generalize zs 2700000=sM at *
   generalize zc 2700000=cM at *
   generalize zs n=u at *
   generalize zc n=v at *
   generalize zs j=s at *
   generalize zc j=c at *
   generalize (X:Rat)=x at *
   generalize (Y:Rat)=y at *
   have k1:u=sM*c-cM*s:=by rw [a1,a2];grind
   have k2:v=cM*c+sM*s:=by rw [a1,a2];grind
   have k3:x*u-y*v=-cM*((x+y)*s-(x-y)*c)+(sM-cM)*(x*c-y*s):=by rw [k1,k2];grind
   have b1:=aB x c 2147483648 1 hXr.1 hXr.2 zl2.1 zl2.2;have b2:=aB y s 2147483648 1 hYr.1 hYr.2 zl1.1 zl1.2;have b3:=aB (sM-cM) (x*c-y*s) (4*bQ) 4294967296 m.1 m.2 (by grind) (by grind)
   rw [k3];generalize (x+y)*s-(x-y)*c=F at *
   generalize (sM-cM)*(x*c-y*s)=E at *
   clear k1 k2 k3 a1 a2 b1 b2 hu hXr hYr zl1 zl2;generalize bQ=D at *
   generalize e62=e at *
   rcases h with h|h
   . right
     have t:=Rat.mul_nonneg (show 0<=F-2*e by grind) (show 0<=cM-7/10 by grind)
     have t2:=Rat.mul_nonneg (show 0<=e by grind) (show 0<=cM-7/10 by grind)
     grind
   . left
     have t:=Rat.mul_nonneg (show 0<=-(2*e)-F by grind) (show 0<=cM-7/10 by grind)
     have t2:=Rat.mul_nonneg (show 0<=e by grind) (show 0<=cM-7/10 by grind)
     grind
end Alm
namespace Go.Proofs.YtoniodlcogpdbaaGreat
open Alm
theorem s1_low:29/100000000<=s1:=by unfold s1 s1n dd tp;decide +kernel
theorem Jg:s1<=3/10000000:=by unfold s1 s1n dd tp;decide +kernel
theorem G7:4/100000000000000<=1-c1/\1-c1<=1/10000000000000:=by unfold c1 c1n dd tp;constructor<;>decide +kernel
theorem zs_up (n:Nat) (h:n<=2700000):zs n+1/10000000<=zs (n+1):=by
 rw [fT];have a:=eT n h;have b:=lL n;have c:=G7;have s:=s1_low;have e1:0<=(zc n-49/100)*(s1-29/100000000):=Rat.mul_nonneg (by grind) (by grind)
 have e2:0<=(1-zs n)*(1-c1):=Rat.mul_nonneg (by grind) (by grind)
 grind
theorem V7 (n:Nat) (h:n<=2700000):zc (n+1)<zc n:=by
 rw [fV];have a:=eT n h;have b:=rV n h;have c:=G7;have s:=Jg;have s':=s1_low;have e1:0<=(zc n-49/100)*(1-c1-4/100000000000000):=Rat.mul_nonneg (by grind) (by grind)
 have e2:0<=(zs n+1/1000000000)*s1:=Rat.mul_nonneg (by grind) (by grind)
 grind
theorem aaj:((ev sP 1800000*2-L0).natAbs:Int)*2^60<=L0*2:=by decide +kernel
theorem fu:u30=1/1073741824:=by unfold u30;decide +kernel
theorem N9:0<mg:=by unfold mg;decide +kernel
theorem RF (n:Nat) (hn:n+1=2700000):zs (n+1)<zc n:=by
 have f1:FlR (zs (n+1)) 759250124:=by rw [hn];exact Il
 have f2:FlR (zc (n+1)) 759250124:=by rw [hn];exact Bc
 unfold FlR at f1 f2;rw [fu] at f1 f2;have m:=N9;have e:=fV n;have e':=fT n;have b:=rV n (by omega)
 have a:=eT n (by omega)
 have b2:=lL n;have a2:=qL n;have c:=G7;have s:=s1_low;have s2:=Jg;clear hn;generalize zs (n+1)=x' at *
 generalize zc (n+1)=y' at *
 generalize zs n=x at *
 generalize zc n=y at *
 have e1:0<=(1-y)*s1:=Rat.mul_nonneg (by grind) (by grind)
 have e2:0<=(x+1/1000000000)*(1-c1):=Rat.mul_nonneg (by grind) (by grind)
 have k:69/100<=x:=by grind
 have e3:0<=(x-69/100)*(s1-29/100000000):=Rat.mul_nonneg (by grind) (by grind)
 have e4:0<=(y-49/100)*(1-c1):=Rat.mul_nonneg (by grind) (by grind)
 grind
theorem WG (n:Nat) (hn:n=1800000):-(2/1000000000)<=zs n-1/2/\zs n-1/2<=2/1000000000:=by
 have h:=(near n (by omega)).1
 have d:=tZ
 have p:-(1/1000000000000)<=ps n-1/2/\ps n-1/2<=1/1000000000000:=by
  have m:=kR n;have q:=aaj;have l:=qg;rw [<-show ((n:Nat):Int)=1800000 by omega] at q
  generalize ev sP (n:Int)=E at *
  have q1:((E*2-L0)*2^60<=L0*2)/\(-(L0*2)<=(E*2-L0)*2^60):=by omega
  have r1:(((E*2-L0)*2^60:Int):Rat)<=((L0*2:Int):Rat):=by exact_mod_cast q1.1
  have r2:((-(L0*2):Int):Rat)<=(((E*2-L0)*2^60:Int):Rat):=by exact_mod_cast q1.2
  clear q q1 h d hn;generalize L0=L at *
  simp only [Rat.intCast_mul,Rat.intCast_sub,Rat.intCast_neg] at r1 r2;generalize (L:Rat)=l0 at *
  generalize ps n=x at *
  have hx:(E:Rat)=x*l0:=m.symm;rw [hx] at r1 r2;have k:(((2^60:Int)):Rat)=1152921504606846976:=by decide +kernel
  have k2:((2:Int):Rat)=2:=by decide +kernel
  rw [k,k2] at r1 r2;refine ⟨?_,?_⟩
  . refine Rat.not_lt.1 fun hh=>?_
    have:0<(1/2-1/1000000000000-x)*l0:=Rat.mul_pos (by grind) l
    grind
  . refine Rat.not_lt.1 fun hh=>?_
    have:0<(x-1/2-1/1000000000000)*l0:=Rat.mul_pos (by grind) l
    grind
 grind
def sS (n:Nat):Rat:=if n=1800000 then 1/2 else if 2*n<=5400000 then zs n else zc (5400000-n)
theorem aan (n:Nat) (h:n<5400000):sS n<sS (n+1):=by
 unfold sS
 by_cases h1:n=1800000
 . have a:=WG n h1;have b:=zs_up n (by omega)
   rw [if_pos h1,if_neg (by omega),if_pos (by omega)]
   clear h1 h;grind
 . rw [if_neg h1]
   by_cases h2:n+1=1800000
   . have a:=WG (n+1) h2;have b:=zs_up n (by omega)
     rw [if_pos h2,if_pos (by omega)]
     clear h1 h h2;grind
   . rw [if_neg h2]
     by_cases h3:2*(n+1)<=5400000
     . rw [if_pos h3,if_pos (by omega)]
       have b:=zs_up n (by omega)
       clear h1 h h2 h3;grind
     . rw [if_neg h3]
       by_cases h4:2*n<=5400000
       . rw [if_pos h4];have:=RF (5400000-(n+1)) (by omega)
         rw [show 5400000-(n+1)+1=n by omega] at this
         exact this
       . rw [if_neg h4];have:=V7 (5400000-(n+1)) (by omega)
         rw [show 5400000-(n+1)+1=5400000-n by omega] at this
         exact this
theorem nG (m:Nat):∀ n:Nat,m<n->n<=5400000->sS m<sS n
 | 0,h,_=>by omega
 | n+1,h,h2=>by
  have up:=aan n (by omega)
  by_cases e:m=n
  . subst e;exact up
  . have:=nG m n (by omega) (by omega)
    clear h h2 e;grind
theorem vD:sS 0=0:=by unfold sS;rw [if_neg (by omega),if_pos (by omega)];exact gM
theorem Ii (n:Nat) (h:n=5400000):sS n=1:=by
 unfold sS;rw [if_neg (by omega),if_neg (by omega),show 5400000-n=0 by omega]
 exact jb
theorem zJ {s:Rat} {q:Nat} (h:FlR s q):((q:Int):Rat)*u30<=s/\s<=(((q:Int)+1:Int):Rat)*u30:=by
 have m:=N9;unfold FlR at h;rw [fu] at *
 rw [Rat.intCast_add];have:((1:Int):Rat)=1:=rfl;rw [this];grind
theorem nJ (n:Nat) (h:n<=5400000):(cz (n:Int):Rat)*u30<=sS n/\sS n<=((cz (n:Int)+(if dK (n:Int) then 0 else 1):Int):Rat)*u30:=by
 by_cases h0:n=0
 . subst h0;rw [vD];have a:cz ((0:Nat):Int)=0:=by decide
   have b:dK ((0:Nat):Int)=true:=by decide
   rw [a,b,if_pos rfl];have:((0:Int):Rat)=0:=rfl;rw [Int.add_zero,this];grind
 by_cases h1:n=1800000
 . have a:cz (n:Int)=536870912:=by rw [h1];decide
   have b:dK (n:Int)=true:=by rw [h1];decide
   have c:sS n=1/2:=by unfold sS;rw [if_pos h1]
   rw [a,b,c,if_pos rfl,fu,Int.add_zero];have:((536870912:Int):Rat)=536870912:=rfl;rw [this];clear a b c h h0 h1;grind
 by_cases h2:n=5400000
 . have a:cz (n:Int)=1073741824:=by rw [h2];decide
   have b:dK (n:Int)=true:=by rw [h2];decide
   rw [a,b,Ii n h2,if_pos rfl,fu,Int.add_zero];have:((1073741824:Int):Rat)=1073741824:=rfl;rw [this];clear a b h h0 h1 h2;grind
 have e:dK (n:Int)=false:=by
  unfold dK;simp only [Bool.or_eq_false_iff,beq_eq_false_iff_ne];refine ⟨⟨?_,?_⟩,?_⟩<;>omega
 have v:cz (n:Int)=(lG n:Int):=by
  unfold cz;rw [if_neg (by omega),if_neg (by omega),if_neg (by omega),Int.toNat_natCast]
 rw [e,v,if_neg (by simp)]
 unfold sS lG;rw [if_neg h1]
 by_cases h3:2*n<=5400000
 . rw [if_pos h3,if_pos h3];obtain ⟨q,hq⟩:=N8 n (by omega) h0 h1
   rw [Cn n (by omega) q hq]
   exact zJ hq
 . rw [if_neg h3,if_neg h3];obtain ⟨q,hq⟩:=RA (5400000-n) (by omega) (by omega)
   rw [AX (5400000-n) (by omega) q hq]
   exact zJ hq
def sR (n:Int):Rat:=if 0<=n then sS n.toNat else -sS (-n).toNat
theorem ML (n:Int) (h0:0<=n) (h1:n<=5400000):aI n=n/\dm n=false:=by
 unfold aI dm au;simp only [];refine ⟨by split<;>split<;>omega,by simp;omega⟩
theorem Np (n:Int) (h0:-5400000<=n) (h1:n<0):aI n=-n/\dm n=true:=by
 unfold aI dm au;simp only [];refine ⟨by split<;>split<;>omega,by simp;omega⟩
theorem yR (n:Int) (h0:-5400000<=n) (h1:n<=5400000):(bLo n:Rat)*u30<=sR n/\sR n<=(bHi n:Rat)*u30:=by
 unfold sR bLo bHi
 by_cases h:0<=n
 . obtain ⟨a,b⟩:=ML n h h1;rw [a,b,if_pos h,if_neg (by simp),if_neg (by simp)]
   have:=nJ n.toNat (by omega)
   rw [Int.toNat_of_nonneg h] at this;exact this
 . obtain ⟨a,b⟩:=Np n h0 (by omega)
   rw [a,b,if_neg h,if_pos rfl,if_pos rfl];have:=nJ (-n).toNat (by omega)
   rw [Int.toNat_of_nonneg (show (0:Int)<=-n by omega)] at this
   rw [Rat.intCast_neg,Rat.intCast_neg];generalize (((cz (-n)+if dK (-n)=true then 0 else 1:Int)):Rat)=x at *
   generalize ((cz (-n):Int):Rat)=y at *
   clear a b h h0 h1;grind
theorem We (m n:Int) (h0:-5400000<=m) (h:m<n) (h1:n<=5400000):sR m<sR n:=by
 unfold sR
 by_cases hm:0<=m
 . rw [if_pos hm,if_pos (by omega)]
   exact nG _ _ (by omega) (by omega)
 . rw [if_neg hm];have a:=nG 0 (-m).toNat (by omega) (by omega)
   rw [vD] at a
   by_cases hn:0<=n
   . rw [if_pos hn]
     have b:0<=sS n.toNat:=by
      by_cases z:n.toNat=0
      . rw [z,vD];exact Rat.le_refl
      . have:=nG 0 n.toNat (by omega) (by omega)
        rw [vD] at this;exact Rat.le_of_lt this
     clear h0 h h1 hm hn;grind
   . rw [if_neg hn];have:=nG (-n).toNat (-m).toNat (by omega) (by omega)
     clear h0 h h1 hm hn;grind
theorem GA (m n:Int) (h0:-5400000<=m) (h:m<n) (h1:n<=5400000):bLo m<bHi n:=by
 have a:=(yR m h0 (by omega)).1
 have b:=(yR n (by omega) h1).2
 have c:=We m n h0 h h1;rw [fu] at a b
 have k:(bLo m:Rat)<(bHi n:Rat):=by
  clear h0 h h1;grind
 exact_mod_cast k
end Go.Proofs.YtoniodlcogpdbaaGreat
namespace Alm
def frm (x y:Int) (k:Nat):Rat:=if k<=2700000 then (x:Rat)*zs k-y*zc k else (x:Rat)*zc (5400000-k)-y*zs (5400000-k)
def past (x y:Int) (k:Nat):Prop:=if k=2700000 then y<x else 0<frm x y k
theorem pz (n:Nat) (h:n<=2700000):0<=zs n:=by
 induction n with
 | zero=>rw [gM];exact Rat.le_refl
 | succ n ih =>
  have a:=ih (by omega)
  have b:=Go.Proofs.YtoniodlcogpdbaaGreat.zs_up n (by omega)
  clear ih h;grind
theorem mO {x:Int} (h:0<=x) (h2:x<=2147483648):(0:Rat)<=(x:Rat)/\(x:Rat)<=2147483648:=⟨Rat.intCast_le_intCast.2 h,Rat.intCast_le_intCast.2 h2⟩
theorem Jo (x y:Int) (k:Nat) (h0:0<k) (h1:k<5400000) (h2:k≠2700000) (hn:¬ (x=0/\y=0)) (hx:0<=x/\x<=2147483648) (hy:0<=y/\y<=2147483648) :
 e62<=frm x y k∨frm x y k<=-e62:=by
 unfold frm
 by_cases h:k<=2700000
 . rw [if_pos h];exact RG k h0 (by omega) x y hn (by omega) (by omega)
 . rw [if_neg h];have f:=RG (5400000-k) (by omega) (by omega) y x (by omega) (by omega) (by omega)
   clear hx hy hn h0 h1 h2 h;generalize zs (5400000-k)=u at *
   generalize zc (5400000-k)=v at *
   rcases f with f|f
   . right;grind
   . left;grind
theorem abB:4294967296*(220*aS)<=1/2*e62:=by unfold aS e62;decide +kernel
theorem Pv:0<e62:=by unfold e62;decide +kernel
theorem Uw (k:Nat) (hk:k<=5400000):-(220*aS)<=(sN k:Rat)*aS-(if k<=2700000 then zs k else zc (5400000-k))/\(sN k:Rat)*aS-(if k<=2700000 then zs k else zc (5400000-k))<=220*aS:=by
 unfold sN
 by_cases h:k<=2700000
 . rw [if_pos h,if_pos h];have a:=Qj k h;rw [<-(vE k h).1,Rat.intCast_natCast] at a;exact a
 . rw [if_neg h,if_neg h];have a:=OP (5400000-k) (by omega)
   rw [<-(vK (5400000-k) (by omega)).1,Rat.intCast_natCast] at a
   exact a
theorem Wq (k:Nat) (hk:k<=5400000):-(220*aS)<=(cN k:Rat)*aS-(if k<=2700000 then zc k else zs (5400000-k))/\(cN k:Rat)*aS-(if k<=2700000 then zc k else zs (5400000-k))<=220*aS:=by
 unfold cN
 by_cases h:k<=2700000
 . rw [if_pos h,if_pos h];have a:=OP k h;rw [<-(vK k h).1,Rat.intCast_natCast] at a;exact a
 . rw [if_neg h,if_neg h];have a:=Qj (5400000-k) (by omega)
   rw [<-(vE (5400000-k) (by omega)).1,Rat.intCast_natCast] at a
   exact a
theorem Hf (x y:Int) (k:Nat) (h0:0<k) (h1:k<5400000) (hn:¬ (x=0/\y=0)) (hx:0<=x/\x<=2147483648) (hy:0<=y/\y<=2147483648) :
 jS x y k=true↔¬ past x y k:=by
 unfold jS past;rw [decide_eq_false (show ¬ k=0 by omega),Bool.false_or]
 by_cases hm:k=2700000
 . rw [if_pos hm,if_pos hm,decide_eq_true_iff];omega
 . rw [if_neg hm,if_neg hm,decide_eq_true_iff];have gap:=Jo x y k h0 h1 hm hn hx hy;have a:=Uw k (by omega)
   have b:=Wq k (by omega)
   have bx:=mO hx.1 hx.2;have by':=mO hy.1 hy.2
   have nz:=abB;have dp:=fM;have ep:=Pv
   have ef:frm x y k=(x:Rat)*(if k<=2700000 then zs k else zc (5400000-k))-y*(if k<=2700000 then zc k else zs (5400000-k)):=by
    unfold frm;split<;>rfl
   have cx:((x.toNat:Nat):Rat)=(x:Rat):=by
    have:((x.toNat:Nat):Int)=x:=Int.toNat_of_nonneg hx.1;rw [<-Rat.intCast_natCast,this]
   have cy:((y.toNat:Nat):Rat)=(y:Rat):=by
    have:((y.toNat:Nat):Int)=y:=Int.toNat_of_nonneg hy.1;rw [<-Rat.intCast_natCast,this]
   have key:(sN k*x.toNat<=cN k*y.toNat)↔((sN k:Rat)*x<=(cN k:Rat)*y):=by
    rw [<-cx,<-cy,<-Rat.natCast_mul,<-Rat.natCast_mul];exact Rat.natCast_le_natCast.symm
   rw [key,ef];rw [ef] at gap;clear key cx cy ef hx hy hn h0 h1 hm;generalize (if k<=2700000 then zs k else zc (5400000-k))=s at *
   generalize (if k<=2700000 then zc k else zs (5400000-k))=c at *
   generalize (sN k:Rat)=S at *
   generalize (cN k:Rat)=C at *
   generalize (x:Rat)=x at *
   generalize (y:Rat)=y at *
   have m1:=aB x (S*aS-s) 2147483648 (220*aS) (by grind) bx.2 a.1 a.2
   have m2:=aB y (C*aS-c) 2147483648 (220*aS) (by grind) by'.2 b.1 b.2
   have e1:(S*x-C*y)*aS=x*(S*aS-s)-y*(C*aS-c)+(x*s-y*c):=by grind
   generalize x*(S*aS-s)=p at *
   generalize y*(C*aS-c)=q at *
   generalize x*s-y*c=f at *
   generalize S*x=A at *
   generalize C*y=B at *
   clear a b bx by'
   constructor
   . intro h hf;have:0<=(B-A)*aS:=Rat.mul_nonneg (by grind) (Rat.le_of_lt dp)
     rcases gap with g|g
     . grind
     . grind
   . intro h;refine Rat.not_lt.1 fun hh=>?_
     have:0<(A-B)*aS:=Rat.mul_pos (by grind) dp
     rcases gap with g|g
     . grind
     . grind
theorem sU (x y:Int) (hy:0<=y):¬ past x y 0:=by
 unfold past frm;rw [if_neg (by omega),if_pos (by omega),gM,jb]
 have:(0:Rat)<=(y:Rat):=Rat.intCast_le_intCast.2 hy;grind
theorem wJ (x y:Int) (hx:0<x):past x y 5400000:=by
 unfold past frm;rw [if_neg (by omega),if_neg (by omega),Nat.sub_self,gM,jb]
 have:(0:Rat)<(x:Rat):=Rat.intCast_lt_intCast.2 hx;grind
theorem aaZ:2147483648*(4*bQ)<=1/1000000000:=by unfold bQ aO;decide +kernel
theorem Zg:4*bQ<=1/1000000000:=by unfold bQ aO;decide +kernel
theorem ZN:99/100<=c1/\c1<=1:=⟨Gq,Qi.2⟩
theorem NI (x y:Int) (k:Nat) (h1:k<5400000) (hx:0<x/\x<=2147483648) (hy:0<=y/\y<=2147483648) (h:past x y k):past x y (k+1):=by
 have bx:=mO (Int.le_of_lt hx.1) hx.2;have by':=mO hy.1 hy.2
 have x1:(1:Rat)<=(x:Rat):=Rat.intCast_le_intCast.2 hx.1;have sl:=Go.Proofs.YtoniodlcogpdbaaGreat.s1_low;have cl:=ZN;unfold past at *
 by_cases ha:k+1<2700000
 . rw [if_neg (by omega)] at h ⊢
   unfold frm at *
   rw [if_pos (by omega)] at h ⊢
   rw [fT,fV];have a:=eT k (by omega)
   have b:=pz k (by omega)
   clear hx hy h1 ha;generalize zs k=s at *
   generalize zc k=c at *
   generalize (x:Rat)=x at *
   generalize (y:Rat)=y at *
   generalize c1=p at *
   generalize s1=q at *
   have m1:0<(x*s-y*c)*p:=Rat.mul_pos h (by grind)
   have m2:0<=(x*c)*q:=Rat.mul_nonneg (Rat.mul_nonneg (by grind) (by grind)) (by grind)
   have m3:0<=(y*s)*q:=Rat.mul_nonneg (Rat.mul_nonneg (by grind) (by grind)) (by grind)
   grind
 by_cases hb:k+1=2700000
 . rw [if_pos hb];rw [if_neg (by omega)] at h
   unfold frm at h;rw [if_pos (by omega)] at h
   have a:=eT k (by omega)
   have b:=pz k (by omega)
   have e1:=fT k;have e2:=fV k;rw [hb] at e1 e2;have m:=rq;have md:=Zg;have zm:=Ho;rcases Int.lt_or_le y x with hh|hh
   . exact hh
   . exfalso;have xy:(x:Rat)<=(y:Rat):=Rat.intCast_le_intCast.2 hh;clear hx hy h1 ha hb hh;generalize zs 2700000=sM at *
     generalize zc 2700000=cM at *
     generalize zs k=s at *
     generalize zc k=c at *
     generalize (x:Rat)=x at *
     generalize (y:Rat)=y at *
     generalize c1=p at *
     generalize s1=q at *
     generalize bQ=D at *
     have m1:0<(x*s-y*c)*p:=Rat.mul_pos h (by grind)
     have m2:0<=x*(c-49/100):=Rat.mul_nonneg (by grind) (by grind)
     have m2':0<=(x*c)*(q-29/100000000):=Rat.mul_nonneg (Rat.mul_nonneg (by grind) (by grind)) (by grind)
     have m3:0<=(y*s)*q:=Rat.mul_nonneg (Rat.mul_nonneg (by grind) (by grind)) (by grind)
     have m4:0<=(y-x)*cM:=Rat.mul_nonneg (by grind) (by grind)
     have m5:0<=x*(1/1000000000-(sM-cM)):=Rat.mul_nonneg (by grind) (by grind)
     have k:x*sM-y*cM=(x*s-y*c)*p+(x*c)*q+(y*s)*q:=by rw [e1,e2];grind
     clear e1 e2 h;grind
 by_cases hc:k=2700000
 . rw [if_neg (by omega)]
   rw [if_pos hc] at h;unfold frm;rw [if_neg (by omega)]
   have e1:=fT (5400000-(k+1));have e2:=fV (5400000-(k+1));rw [show 5400000-(k+1)+1=2700000 by omega] at e1 e2
   have a:=eT (5400000-(k+1)) (by omega)
   have b:=pz (5400000-(k+1)) (by omega)
   have m:=rq;have md:=aaZ;have zm:=Ho
   have xy:(y:Rat)+1<=(x:Rat):=by
    have:((y+1:Int):Rat)<=(x:Rat):=Rat.intCast_le_intCast.2 (by omega)
    rw [Rat.intCast_add] at this;exact this
   have dp:0<bQ:=by unfold bQ aO;decide +kernel
   clear hx hy h1 ha hb hc h;generalize zs 2700000=sM at *
   generalize zc 2700000=cM at *
   generalize zs (5400000-(k+1))=s at *
   generalize zc (5400000-(k+1))=c at *
   generalize (x:Rat)=x at *
   generalize (y:Rat)=y at *
   generalize c1=p at *
   generalize s1=q at *
   generalize bQ=D at *
   have m1:=aB y (sM-cM) 2147483648 (4*D) (by grind) by'.2 m.1 m.2
   have m4:0<=(x-y-1)*cM:=Rat.mul_nonneg (by grind) (by grind)
   have g:0<x*cM-y*sM:=by grind
   have m2:0<=(x*s)*q:=Rat.mul_nonneg (Rat.mul_nonneg (by grind) (by grind)) (by grind)
   have m3:0<=(y*c)*q:=Rat.mul_nonneg (Rat.mul_nonneg (by grind) (by grind)) (by grind)
   have kk:x*cM-y*sM=(x*c-y*s)*p-(x*s)*q-(y*c)*q:=by rw [e1,e2];grind
   clear e1 e2;have g2:0<(x*c-y*s)*p:=by grind
   refine Rat.not_le.1 fun hh=>?_
   have:0<=(-(x*c-y*s))*p:=Rat.mul_nonneg (by grind) (by grind)
   grind
 . rw [if_neg (by omega)] at h ⊢
   unfold frm at *
   rw [if_neg (by omega)] at h ⊢
   have e1:=fT (5400000-(k+1));have e2:=fV (5400000-(k+1));rw [show 5400000-(k+1)+1=5400000-k by omega] at e1 e2
   rw [e1,e2] at h;have a:=eT (5400000-(k+1)) (by omega)
   have b:=pz (5400000-(k+1)) (by omega)
   clear hx hy h1 ha hb hc e1 e2;generalize zs (5400000-(k+1))=s at *
   generalize zc (5400000-(k+1))=c at *
   generalize (x:Rat)=x at *
   generalize (y:Rat)=y at *
   generalize c1=p at *
   generalize s1=q at *
   have m2:0<=(x*s)*q:=Rat.mul_nonneg (Rat.mul_nonneg (by grind) (by grind)) (by grind)
   have m3:0<=(y*c)*q:=Rat.mul_nonneg (Rat.mul_nonneg (by grind) (by grind)) (by grind)
   have g2:0<(x*c-y*s)*p:=by grind
   refine Rat.not_le.1 fun hh=>?_
   have:0<=(-(x*c-y*s))*p:=Rat.mul_nonneg (by grind) (by grind)
   grind
theorem BG (x y:Int) (k m:Nat) (hkm:k<=m) (h1:m<=5400000) (hx:0<x/\x<=2147483648) (hy:0<=y/\y<=2147483648) (h:past x y k):past x y m:=by
 obtain ⟨d,rfl⟩:∃ d,m=k+d:=⟨m-k,by omega⟩
 clear hkm
 induction d with
 | zero=>exact h
 | succ d ih=>exact NI x y (k+d) (by omega) hx hy (ih (by omega))
def uo (x y:Int) (L:Nat):Prop:=L<5400000/\¬ past x y L/\past x y (L+1)
theorem Al {x y:Int} {L M:Nat} (hx:0<x/\x<=2147483648) (hy:0<=y/\y<=2147483648) (h:uo x y L) (k:uo x y M):L=M:=by
 obtain ⟨a,b,c⟩:=h;obtain ⟨a',b',c'⟩:=k;rcases Nat.lt_trichotomy L M with q|q|q
 . exact absurd (BG x y (L+1) M (by omega) (by omega) hx hy c) b'
 . exact q
 . exact absurd (BG x y (M+1) L (by omega) (by omega) hx hy c') b
theorem Az (x y:Int) (hx:0<x/\x<=2147483648) (hy:0<=y/\y<=2147483648):∀ (f lo hi:Nat),lo<hi->hi<=5400000->hi-lo<=2^f->¬ past x y lo->past x y hi->uo x y (oq x y f lo hi)
 | 0,lo,hi,h1,h2,h3,h4,h5=>by
  have:hi=lo+1:=by simp at h3;omega
  subst this;exact ⟨by show lo<_;omega,h4,h5⟩
 | f+1,lo,hi,h1,h2,h3,h4,h5=>by
  rw [yP];rw [Nat.pow_succ] at h3
  by_cases hl:lo+1<hi
  . rw [if_pos hl];have r:=Hf x y ((lo+hi)/2) (by omega) (by omega) (by omega) ⟨by omega,hx.2⟩ hy
    by_cases hr:jS x y ((lo+hi)/2)=true
    . rw [if_pos hr];exact Az x y hx hy f _ _ (by omega) h2 (by omega) (r.1 hr) h5
    . rw [if_neg hr];exact Az x y hx hy f _ _ (by omega) (by omega) (by omega) h4 (Classical.not_not.1 fun q=>hr (r.2 q))
  . rw [if_neg hl];have:hi=lo+1:=by omega
    subst this;exact ⟨by omega,h4,h5⟩
theorem rM (x y:Int) (h0:¬ (x=0/\y=0)) (hx:-2147483648<=x/\x<=2147483648) (hy:-2147483648<=y/\y<=2147483648):uo (qX x y) (qY x y) (iH x y):=by
 obtain ⟨a,b,c,d⟩:=q_bd x y 2147483648 h0 hx hy;exact Az _ _ ⟨a,b⟩ ⟨c,d⟩ 23 0 5400000 (by omega) (by omega) (by omega) (sU _ _ c) (wJ _ _ a)
theorem Ob {x y x' y':Int} {k:Nat} (hk:k<=5400000) (hx:0<x/\x<=2147483648) (hy:0<=y) (hx':0<x'/\x'<=2147483648) (hy':0<=y') (hc:x'*y<=x*y') (h:past x' y' k):past x y k:=by
 unfold past at *
 by_cases hm:k=2700000
 . rw [if_pos hm] at h ⊢
   refine Int.not_le.1 fun hh=>?_
   have m1:x*(y'+1)<=x*x':=Int.mul_le_mul_of_nonneg_left (by omega) (by omega)
   have m2:x'*x<=x'*y:=Int.mul_le_mul_of_nonneg_left hh (by omega)
   have e:x*(y'+1)=x*y'+x:=by grind
   have e2:x'*x=x*x':=by grind
   omega
 . rw [if_neg hm] at h ⊢
   have px:(0:Rat)<(x:Rat):=Rat.intCast_lt_intCast.2 hx.1;have px':(0:Rat)<(x':Rat):=Rat.intCast_lt_intCast.2 hx'.1
   have pc:(x':Rat)*y<=(x:Rat)*y':=by
    have:((x'*y:Int):Rat)<=((x*y':Int):Rat):=Rat.intCast_le_intCast.2 hc
    rwa [Rat.intCast_mul,Rat.intCast_mul] at this
   unfold frm at *
   have core:∀ s c:Rat,0<=c->0<(x':Rat)*s-y'*c->0<(x:Rat)*s-y*c:=by
    intro s c hc0 hh;clear hx hy hx' hy' hc h hm;generalize (x:Rat)=x at *
    generalize (y:Rat)=y at *
    generalize (x':Rat)=x' at *
    generalize (y':Rat)=y' at *
    refine Rat.not_le.1 fun hq=>?_
    have m1:0<(x'*s-y'*c)*x:=Rat.mul_pos hh px;have m2:0<=(-(x*s-y*c))*x':=Rat.mul_nonneg (by grind) (Rat.le_of_lt px')
    have m3:0<=(x*y'-x'*y)*c:=Rat.mul_nonneg (by grind) hc0
    grind
   by_cases hb:k<=2700000
   . rw [if_pos hb] at h ⊢
     have a:=eT k hb;exact core _ _ (by clear h px px' pc core hc hx hy hx' hy';grind) h
   . rw [if_neg hb] at h ⊢
     exact core _ _ (pz _ (by omega)) h
theorem Ig {x y x' y':Int} {L M:Nat} (hx:0<x/\x<=2147483648) (hy:0<=y/\y<=2147483648) (hx':0<x'/\x'<=2147483648) (hy':0<=y'/\y'<=2147483648) (hc:x'*y<=x*y') (h:uo x y L) (k:uo x' y' M):L<=M:=by
 rcases Nat.lt_or_ge M L with q|q
 . exact absurd (BG x y (M+1) L (by omega) (by have:=h.1;omega) hx hy (Ob (by have:=k.1;omega) hx hy.1 hx' hy'.1 hc k.2.2)) h.2.1
 . exact q
end Alm
namespace Alm
def crs (px py qx qy:Int):Int:=px*qy-py*qx
theorem Q5 (u v px py qx qy rx ry:Int):crs px py rx ry*(u*qx+v*qy)=crs px py qx qy*(u*rx+v*ry)+crs qx qy rx ry*(u*px+v*py):=by
 unfold crs;grind
theorem jX {u v px py qx qy rx ry:Int} (hp:0<u*px+v*py) (hq:0<u*qx+v*qy) (hr:0<u*rx+v*ry) (h1:0<=crs px py qx qy) (h2:0<=crs qx qy rx ry):0<=crs px py rx ry:=by
 have e:=Q5 u v px py qx qy rx ry;have a:=Int.mul_nonneg h1 (Int.le_of_lt hr);have b:=Int.mul_nonneg h2 (Int.le_of_lt hp);rcases Int.lt_or_le (crs px py rx ry) 0 with h|h
 . have:=Int.mul_neg_of_neg_of_pos h hq;omega
 . exact h
theorem pV (px py qx qy:Int):crs qx qy px py=-crs px py qx qy:=by unfold crs;grind
theorem mE (px py:Int):crs px py px py=0:=by unfold crs;grind
theorem AV (px py qx qy:Int):pI px py qx qy=decide (0<=crs px py qx qy):=by
 unfold pI crs;exact decide_eq_decide.2 ⟨fun h=>by omega,fun h=>by omega⟩
theorem vQ {a b h k:Int} (hh:0<h) (hk:0<k) (e:a*k=b*h):(0<a↔0<b)/\(0<=a↔0<=b)/\(a<0↔b<0):=by
 have key:∀ x y s t:Int,0<s->0<t->x*t=y*s->0<x->0<y:=by
  intro x y s t hs ht he hx;rcases Int.lt_or_le 0 y with q|q
  . exact q
  . have a1:=Int.mul_pos hx ht;have a2:=Int.mul_nonneg (show 0<=-y by omega) (Int.le_of_lt hs)
    have a3:-y*s=-(y*s):=Int.neg_mul y s;omega
 have key2:∀ x y s t:Int,0<s->0<t->x*t=y*s->x<0->y<0:=by
  intro x y s t hs ht he hx;have:=key (-x) (-y) s t hs ht (by rw [Int.neg_mul,Int.neg_mul,he]) (by omega)
  omega
 have p1:0<a↔0<b:=⟨key a b h k hh hk e,key b a k h hk hh e.symm⟩;have p2:a<0↔b<0:=⟨key2 a b h k hh hk e,key2 b a k h hk hh e.symm⟩;exact ⟨p1,by omega,p2⟩
theorem Df {u v px py qx qy:Int} (hp:0<u*px+v*py) (hq:0<u*qx+v*qy) (hc:crs px py qx qy=0) (hpx:-2147483648<=px/\px<=2147483648) (hpy:-2147483648<=py/\py<=2147483648) (hqx:-2147483648<=qx/\qx<=2147483648) (hqy:-2147483648<=qy/\qy<=2147483648) :
 fF px py=fF qx qy/\gY px py=gY qx qy:=by
 have ex:px*(u*qx+v*qy)=qx*(u*px+v*py):=by
  have:px*(u*qx+v*qy)-qx*(u*px+v*py)=v*crs px py qx qy:=by unfold crs;grind
  rw [hc] at this;omega
 have ey:py*(u*qx+v*qy)=qy*(u*px+v*py):=by
  have:py*(u*qx+v*qy)-qy*(u*px+v*py)=-(u*crs px py qx qy):=by unfold crs;grind
  rw [hc] at this;omega
 obtain ⟨x1,x2,x3⟩:=vQ hp hq ex;obtain ⟨y1,y2,y3⟩:=vQ hp hq ey;have np:¬ (px=0/\py=0):=by rintro ⟨rfl,rfl⟩;simp at hp
 have nq:¬ (qx=0/\qy=0):=by rintro ⟨rfl,rfl⟩;simp at hq
 have dp:=rM px py np hpx hpy;have dq:=rM qx qy nq hqx hqy;have bp:=q_bd px py 2147483648 np hpx hpy;have bq:=q_bd qx qy 2147483648 nq hqx hqy
 have hcr:qX qx qy*qY px py=qX px py*qY qx qy:=by
  unfold crs at hc;unfold qX qY
  by_cases c1:0<px/\0<=py
  . rw [if_pos c1,if_pos c1,if_pos (by omega),if_pos (by omega)];grind
  . rw [if_neg c1,if_neg c1,if_neg (show ¬ (0<qx/\0<=qy) by omega),if_neg (show ¬ (0<qx/\0<=qy) by omega)]
    by_cases c2:0<py
    . rw [if_pos c2,if_pos c2,if_pos (by omega),if_pos (by omega)];grind
    . rw [if_neg c2,if_neg c2,if_neg (show ¬ 0<qy by omega),if_neg (show ¬ 0<qy by omega)]
      by_cases c3:px<0
      . rw [if_pos c3,if_pos c3,if_pos (by omega),if_pos (by omega)];grind
      . rw [if_neg c3,if_neg c3,if_neg (show ¬ qx<0 by omega),if_neg (show ¬ qx<0 by omega)];grind
 have hT:qT px py=qT qx qy:=by
  unfold qT
  by_cases c1:0<px/\0<=py
  . rw [if_pos c1,if_pos (by omega)]
  . rw [if_neg c1,if_neg (show ¬ (0<qx/\0<=qy) by omega)]
    by_cases c2:0<py
    . rw [if_pos c2,if_pos (by omega)]
    . rw [if_neg c2,if_neg (show ¬ 0<qy by omega)]
      by_cases c3:px<0
      . rw [if_pos c3,if_pos (by omega)]
      . rw [if_neg c3,if_neg (show ¬ qx<0 by omega)]
 have hL:iH px py=iH qx qy:=by
  have a:=Ig ⟨bp.1,bp.2.1⟩ ⟨bp.2.2.1,bp.2.2.2⟩ ⟨bq.1,bq.2.1⟩ ⟨bq.2.2.1,bq.2.2.2⟩ (by omega) dp dq
  have b:=Ig ⟨bq.1,bq.2.1⟩ ⟨bq.2.2.1,bq.2.2.2⟩ ⟨bp.1,bp.2.1⟩ ⟨bp.2.2.1,bp.2.2.2⟩ (by omega) dq dp
  omega
 refine ⟨by unfold fF;rw [hT,hL],?_⟩
 unfold gY;rw [hL]
 have e0:decide (qY px py=0)=decide (qY qx qy=0):=by
  have:=vQ bp.1 bq.1 (show qY px py*qX qx qy=qY qx qy*qX px py by grind)
  exact decide_eq_decide.2 (by omega)
 have e1:decide (qX px py=qY px py)=decide (qX qx qy=qY qx qy):=by
  have:=vQ bp.1 bq.1 (show (qX px py-qY px py)*qX qx qy=(qX qx qy-qY qx qy)*qX px py by grind)
  exact decide_eq_decide.2 (by omega)
 rw [e0,e1]
theorem acQ (x y:Int) (h:¬ (x=0/\y=0)):(qT x y=0/\x=qX x y/\y=qY x y)∨(qT x y=5400000/\x=-qY x y/\y=qX x y)∨(qT x y=10800000/\x=-qX x y/\y=-qY x y)∨(qT x y=16200000/\x=qY x y/\y=-qX x y):=by
 unfold qT qX qY
 by_cases c1:0<x/\0<=y
 . rw [if_pos c1,if_pos c1,if_pos c1];left;omega
 . rw [if_neg c1,if_neg c1,if_neg c1]
   by_cases c2:0<y
   . rw [if_pos c2,if_pos c2,if_pos c2];right;left;omega
   . rw [if_neg c2,if_neg c2,if_neg c2]
     by_cases c3:x<0
     . rw [if_pos c3,if_pos c3,if_pos c3];right;right;left;omega
     . rw [if_neg c3,if_neg c3,if_neg c3];right;right;right;omega
theorem UJ {px py qx qy:Int} (np:¬ (px=0/\py=0)) (nq:¬ (qx=0/\qy=0)) (hc:0<=crs px py qx qy) (hpx:-2147483648<=px/\px<=2147483648) (hpy:-2147483648<=py/\py<=2147483648) (hqx:-2147483648<=qx/\qx<=2147483648) (hqy:-2147483648<=qy/\qy<=2147483648) :
 fF qx qy+1≠fF px py:=by
 have dp:=rM px py np hpx hpy;have dq:=rM qx qy nq hqx hqy;have bp:=q_bd px py 2147483648 np hpx hpy;have bq:=q_bd qx qy 2147483648 nq hqx hqy;have lp:=dp.1;have lq:=dq.1;intro he;unfold fF at he
 have same:crs px py qx qy=qX px py*qY qx qy-qY px py*qX qx qy->iH px py<=iH qx qy:=fun e =>
  Ig ⟨bp.1,bp.2.1⟩ ⟨bp.2.2.1,bp.2.2.2⟩ ⟨bq.1,bq.2.1⟩ ⟨bq.2.2.1,bq.2.2.2⟩ (by
   have:qX qx qy*qY px py=qY px py*qX qx qy:=Int.mul_comm _ _;omega) dp dq
 have turn:crs px py qx qy=-(qX px py*qX qx qy+qY px py*qY qx qy)->False:=fun e=>by
  have a:=Int.mul_pos bp.1 bq.1;have b:=Int.mul_nonneg bp.2.2.1 bq.2.2.1;omega
 have hp:=acQ px py np;have hq:=acQ qx qy nq;unfold crs at same turn;generalize qX px py=X at *
 generalize qY px py=Y at *
 generalize qX qx qy=U at *
 generalize qY qx qy=V at *
 generalize qT px py=s at *
 generalize qT qx qy=t at *
 clear dp dq hc hpx hpy hqx hqy np nq
 rcases hp with ⟨rfl,rfl,rfl⟩|⟨rfl,rfl,rfl⟩|⟨rfl,rfl,rfl⟩|⟨rfl,rfl,rfl⟩<;>rcases hq with ⟨rfl,rfl,rfl⟩|⟨rfl,rfl,rfl⟩|⟨rfl,rfl,rfl⟩|⟨rfl,rfl,rfl⟩ <;>
  first
  | omega
  | (have:=same (by grind);omega)
  | exact turn (by grind)
end Alm
namespace Alm
def tV (px py qx qy:Int):Bool:=decide (py*qx<px*qy)
theorem Dr (px py qx qy:Int):tV px py qx qy=decide (0<crs px py qx qy):=by
 unfold tV crs;exact decide_eq_decide.2 ⟨fun h=>by omega,fun h=>by omega⟩
def bP (xl xh yl yh:Int):Nat->Int × Int
 | 0=>(xl,yl)
 | k+1=>if tV (cX xl xh (k+1)) (cY yl yh (k+1)) (bP xl xh yl yh k).1 (bP xl xh yl yh k).2 then (cX xl xh (k+1),cY yl yh (k+1)) else bP xl xh yl yh k
def dI (xl xh yl yh:Int):Nat->Int × Int
 | 0=>(xl,yl)
 | k+1=>if tV (dI xl xh yl yh k).1 (dI xl xh yl yh k).2 (cX xl xh (k+1)) (cY yl yh (k+1)) then (cX xl xh (k+1),cY yl yh (k+1)) else dI xl xh yl yh k
theorem kr (xl xh yl yh:Int) (k:Nat):((bP xl xh yl yh k).1=xl∨(bP xl xh yl yh k).1=xh)/\((bP xl xh yl yh k).2=yl∨(bP xl xh yl yh k).2=yh):=by
 induction k with
 | zero=>simp [bP]
 | succ k ih =>
  simp only [bP];split
  . simp only [cX,cY];constructor<;>split<;>simp
  . exact ih
theorem mI (xl xh yl yh:Int) (k:Nat):((dI xl xh yl yh k).1=xl∨(dI xl xh yl yh k).1=xh)/\((dI xl xh yl yh k).2=yl∨(dI xl xh yl yh k).2=yh):=by
 induction k with
 | zero=>simp [dI]
 | succ k ih =>
  simp only [dI];split
  . simp only [cX,cY];constructor<;>split<;>simp
  . exact ih
theorem Dj {yl yh xl xh:Int} (hy:yl<=yh) (hx:xl<=xh) (ho:¬ (xl<=0/\0<=xh/\yl<=0/\0<=yh)) :
 ∃ u v:Int,∀ px py:Int,(px=xl∨px=xh)->(py=yl∨py=yh)->0<u*px+v*py:=by
 by_cases h1:0<xl
 . exact ⟨1,0,fun px py h k=>by omega⟩
 . by_cases h2:xh<0
   . exact ⟨-1,0,fun px py h k=>by omega⟩
   . by_cases h3:0<yl
     . exact ⟨0,1,fun px py h k=>by omega⟩
     . exact ⟨0,-1,fun px py h k=>by omega⟩
theorem Sa (xl xh yl yh:Int) (k:Nat):(cX xl xh k=xl∨cX xl xh k=xh)/\(cY yl yh k=yl∨cY yl yh k=yh):=by
 simp only [cX,cY];constructor<;>split<;>simp
theorem GJ {yl yh xl xh u v:Int} (H:∀ px py:Int,(px=xl∨px=xh)->(py=yl∨py=yh)->0<u*px+v*py) (k:Nat) :
 crs (aG xl xh yl yh (k+1)).1 (aG xl xh yl yh (k+1)).2 (bP xl xh yl yh k).1 (bP xl xh yl yh k).2=0:=by
 induction k with
 | zero =>
  have:aG xl xh yl yh 1=(xl,yl):=by simp [aG,cX,cY]
  rw [this];exact mE _ _
 | succ k ih =>
  have pi:=mr xl xh yl yh (k+1);have ri:=kr xl xh yl yh k;have ci:=Sa xl xh yl yh (k+1)
  rw [show aG xl xh yl yh (k+1+1)=if pI (cX xl xh (k+1)) (cY yl yh (k+1)) (aG xl xh yl yh (k+1)).1 (aG xl xh yl yh (k+1)).2 then (cX xl xh (k+1),cY yl yh (k+1)) else aG xl xh yl yh (k+1) from rfl,
   show bP xl xh yl yh (k+1)=if tV (cX xl xh (k+1)) (cY yl yh (k+1)) (bP xl xh yl yh k).1 (bP xl xh yl yh k).2 then (cX xl xh (k+1),cY yl yh (k+1)) else bP xl xh yl yh k from rfl]
  generalize aG xl xh yl yh (k+1)=p at *
  generalize bP xl xh yl yh k=r at *
  generalize cX xl xh (k+1)=a at *
  generalize cY yl yh (k+1)=b at *
  obtain ⟨p1,p2⟩:=p;obtain ⟨r1,r2⟩:=r;simp only [] at *
  have hp:=H p1 p2 pi.1 pi.2;have hr:=H r1 r2 ri.1 ri.2;have hc:=H a b ci.1 ci.2;rw [AV,Dr];have t1:0<=crs a b p1 p2->0<=crs a b r1 r2:=fun h=>jX hc hp hr h (by omega)
  have e:=pV p1 p2 r1 r2;have t2:0<=crs a b r1 r2->0<=crs a b p1 p2:=fun h=>jX hc hr hp h (by omega)
  by_cases h1:0<=crs a b p1 p2
  . rw [if_pos (by simpa using h1)]
    by_cases h2:0<crs a b r1 r2
    . rw [if_pos (by simpa using h2)];exact mE a b
    . rw [if_neg (by simpa using h2)]
      have:=t1 h1;show crs a b r1 r2=0;omega
  . rw [if_neg (by simpa using h1),if_neg (by simp;omega)]
    exact ih
theorem LZ {yl yh xl xh u v:Int} (H:∀ px py:Int,(px=xl∨px=xh)->(py=yl∨py=yh)->0<u*px+v*py) (k:Nat) :
 crs (aT xl xh yl yh (k+1)).1 (aT xl xh yl yh (k+1)).2 (dI xl xh yl yh k).1 (dI xl xh yl yh k).2=0:=by
 induction k with
 | zero =>
  have:aT xl xh yl yh 1=(xl,yl):=by simp [aT,cX,cY]
  rw [this];exact mE _ _
 | succ k ih =>
  have pi:=vJ xl xh yl yh (k+1);have ri:=mI xl xh yl yh k;have ci:=Sa xl xh yl yh (k+1)
  rw [show aT xl xh yl yh (k+1+1)=if pI (aT xl xh yl yh (k+1)).1 (aT xl xh yl yh (k+1)).2 (cX xl xh (k+1)) (cY yl yh (k+1)) then (cX xl xh (k+1),cY yl yh (k+1)) else aT xl xh yl yh (k+1) from rfl,
   show dI xl xh yl yh (k+1)=if tV (dI xl xh yl yh k).1 (dI xl xh yl yh k).2 (cX xl xh (k+1)) (cY yl yh (k+1)) then (cX xl xh (k+1),cY yl yh (k+1)) else dI xl xh yl yh k from rfl]
  generalize aT xl xh yl yh (k+1)=p at *
  generalize dI xl xh yl yh k=r at *
  generalize cX xl xh (k+1)=a at *
  generalize cY yl yh (k+1)=b at *
  obtain ⟨p1,p2⟩:=p;obtain ⟨r1,r2⟩:=r;simp only [] at *
  have hp:=H p1 p2 pi.1 pi.2;have hr:=H r1 r2 ri.1 ri.2;have hc:=H a b ci.1 ci.2;rw [AV,Dr];have e:=pV p1 p2 r1 r2;have t1:0<=crs p1 p2 a b->0<=crs r1 r2 a b:=fun h=>jX hr hp hc (by omega) h
  have t2:0<=crs r1 r2 a b->0<=crs p1 p2 a b:=fun h=>jX hp hr hc (by omega) h
  have e2:=pV r1 r2 a b
  by_cases h1:0<=crs p1 p2 a b
  . rw [if_pos (by simpa using h1)]
    by_cases h2:0<crs r1 r2 a b
    . rw [if_pos (by simpa using h2)];exact mE a b
    . rw [if_neg (by simpa using h2)]
      have:=t1 h1;show crs a b r1 r2=0;omega
  . rw [if_neg (by simpa using h1),if_neg (by simp;omega)]
    exact ih
theorem Dp {yl yh xl xh u v:Int} (H:∀ px py:Int,(px=xl∨px=xh)->(py=yl∨py=yh)->0<u*px+v*py) (k j:Nat) (hj:j<k) :
 0<=crs (aG xl xh yl yh k).1 (aG xl xh yl yh k).2 (cX xl xh j) (cY yl yh j):=by
 induction k with
 | zero=>omega
 | succ k ih =>
  have pi:=mr xl xh yl yh k;have ci:=Sa xl xh yl yh k;have cj:=Sa xl xh yl yh j;rw [show aG xl xh yl yh (k+1)=if pI (cX xl xh k) (cY yl yh k) (aG xl xh yl yh k).1 (aG xl xh yl yh k).2 then (cX xl xh k,cY yl yh k) else aG xl xh yl yh k from rfl]
  have hp:=H _ _ pi.1 pi.2;have hc:=H _ _ ci.1 ci.2;have hj':=H _ _ cj.1 cj.2;rw [AV]
  by_cases h1:0<=crs (cX xl xh k) (cY yl yh k) (aG xl xh yl yh k).1 (aG xl xh yl yh k).2
  . rw [if_pos (by simpa using h1)]
    by_cases e:j=k
    . subst e;have:=mE (cX xl xh j) (cY yl yh j);simp only [];omega
    . exact jX hc hp hj' h1 (ih (by omega))
  . rw [if_neg (by simpa using h1)]
    by_cases e:j=k
    . subst e;have:=pV (aG xl xh yl yh j).1 (aG xl xh yl yh j).2 (cX xl xh j) (cY yl yh j);omega
    . exact ih (by omega)
theorem Tm (xl xh yl yh:Int) (k:Nat):∃ j,j<=k/\aT xl xh yl yh (k+1)=(cX xl xh j,cY yl yh j):=by
 induction k with
 | zero=>exact ⟨0,by omega,by simp [aT,cX,cY]⟩
 | succ k ih =>
  obtain ⟨j,hj,e⟩:=ih;rw [show aT xl xh yl yh (k+1+1)=if pI (aT xl xh yl yh (k+1)).1 (aT xl xh yl yh (k+1)).2 (cX xl xh (k+1)) (cY yl yh (k+1)) then (cX xl xh (k+1),cY yl yh (k+1)) else aT xl xh yl yh (k+1) from rfl]
  split
  . exact ⟨k+1,by omega,rfl⟩
  . exact ⟨j,by omega,e⟩
def upR (lo hi:Int) (e:Bool):Int:=if (if e then hi else hi+1)<lo then (if e then hi else hi+1)+21600000 else (if e then hi else hi+1)
theorem abb {lo hi:Int} {e:Bool} (h:hi+1≠lo):upR lo hi e=upE lo hi e:=by
 unfold upR upE;cases e
 . simp only [Bool.false_eq_true,if_false]
   by_cases h1:hi<lo
   . rw [if_pos (show hi+1<lo by omega),if_pos h1];omega
   . rw [if_neg (show ¬ hi+1<lo by omega),if_neg h1]
 . simp only [if_true]
   by_cases h1:hi<lo
   . rw [if_pos h1];omega
   . rw [if_neg h1];omega
theorem LV {yl yh xl xh:Int} (hy:yl<=yh) (hx:xl<=xh) (hy2:-2147483648<=yl/\yh<=2147483648) (hx2:-2147483648<=xl/\xh<=2147483648) (ho:¬ (xl<=0/\0<=xh/\yl<=0/\0<=yh)) :
 dJ yl yh xl xh=fF (bP xl xh yl yh 3).1 (bP xl xh yl yh 3).2 /\
 eZ yl yh xl xh=upR (fF (bP xl xh yl yh 3).1 (bP xl xh yl yh 3).2) (fF (dI xl xh yl yh 3).1 (dI xl xh yl yh 3).2) (gY (dI xl xh yl yh 3).1 (dI xl xh yl yh 3).2):=by
 obtain ⟨u,v,H⟩:=Dj hy hx ho;have f0:=GJ H 3;have l0:=LZ H 3;obtain ⟨j,hj,lj⟩:=Tm xl xh yl yh 3;have fl:=Dp H 4 j (by omega)
 have fi:=mr xl xh yl yh 4;have li:=vJ xl xh yl yh 4;have fr:=kr xl xh yl yh 3;have lr:=mI xl xh yl yh 3;have eo:iK yl yh xl xh=false:=by unfold iK;simp only [decide_eq_false_iff_not];exact ho
 have bnd:∀ p:Int,(p=xl∨p=xh)->-2147483648<=p/\p<=2147483648:=fun p h=>by omega
 have bnd2:∀ p:Int,(p=yl∨p=yh)->-2147483648<=p/\p<=2147483648:=fun p h=>by omega
 have nz:∀ px py:Int,(px=xl∨px=xh)->(py=yl∨py=yh)->¬ (px=0/\py=0):=by
  rintro px py h k ⟨rfl,rfl⟩;have:=H 0 0 h k;omega
 have a1:=Df (H _ _ fi.1 fi.2) (H _ _ fr.1 fr.2) f0 (bnd _ fi.1) (bnd2 _ fi.2) (bnd _ fr.1) (bnd2 _ fr.2);have a2:=Df (H _ _ li.1 li.2) (H _ _ lr.1 lr.2) l0 (bnd _ li.1) (bnd2 _ li.2) (bnd _ lr.1) (bnd2 _ lr.2);have g:=UJ (nz _ _ fi.1 fi.2) (nz _ _ li.1 li.2) (by rw [lj];exact fl) (bnd _ fi.1) (bnd2 _ fi.2) (bnd _ li.1) (bnd2 _ li.2)
 have eL:dJ yl yh xl xh=fF (aG xl xh yl yh 4).1 (aG xl xh yl yh 4).2:=by unfold dJ;rw [eo];rfl
 refine ⟨by rw [eL];exact a1.1,?_⟩
 have eH:eZ yl yh xl xh=upE (dJ yl yh xl xh) (fF (aT xl xh yl yh 4).1 (aT xl xh yl yh 4).2) (gY (aT xl xh yl yh 4).1 (aT xl xh yl yh 4).2):=by unfold eZ;rw [eo];rfl
 rw [eH,eL,<-abb g,a1.1,a2.1,a2.2]
end Alm
namespace Alm
theorem SA (yl yh xl xh:Int):0<=dJ yl yh xl xh/\dJ yl yh xl xh<=21599999/\dJ yl yh xl xh<=eZ yl yh xl xh/\eZ yl yh xl xh<=dJ yl yh xl xh+21600000:=by
 have a:=nK (aG xl xh yl yh 4).1 (aG xl xh yl yh 4).2;have b:=nK (aT xl xh yl yh 4).1 (aT xl xh yl yh 4).2;unfold eZ dJ upE;cases iK yl yh xl xh
 . simp only [Bool.false_eq_true,if_false];generalize fF (aG xl xh yl yh 4).1 (aG xl xh yl yh 4).2=f at *
   generalize fF (aT xl xh yl yh 4).1 (aT xl xh yl yh 4).2=l at *
   generalize gY (aT xl xh yl yh 4).1 (aT xl xh yl yh 4).2=e at *
   cases e<;>simp<;>split<;>omega
 . simp
