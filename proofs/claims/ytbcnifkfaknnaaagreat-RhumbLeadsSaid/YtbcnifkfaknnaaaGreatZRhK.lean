/- Plain numbers: meridional parts of two latitudes against their cosines. -/
import Derived.Test.YtbcnifkfaknnaaaGreatZRhP
set_option linter.unusedVariables false
set_option linter.unusedSimpArgs false
namespace Alm
theorem uA (n:Nat) (h:n+1<=5340000):zc (n+1)<=zc n:=by
 have b:=sc_bd n (by omega)
 have u:=Aw;rw [bX];have m1:=Rat.mul_nonneg b.2.2.1 (show 0<=s1 by grind)
 have m2:=Rat.mul_nonneg (show 0<=zc n by grind) (show 0<=1-c1 by grind)
 generalize zs n=s at *
 generalize zc n=c at *
 clear b u;grind
theorem Pm (m:Nat):∀ n,n+m<=5340000->zc (n+m)<=zc n:=by
 induction m with
 | zero=>intro n _;rw [Nat.add_zero];exact Rat.le_refl
 | succ m ih =>
  intro n h;have a:=ih n (by omega)
  have b:=uA (n+m) (by omega)
  rw [show n+(m+1)=n+m+1 by omega]
  exact Rat.le_trans b a
theorem XN (y0 y1 y2 m t q c0 c1' x:Rat) (h1:m*(t+q)<=(y1-y0)*c0) (h2:t+q<=x*c1') (hx:0<=x) (hc:c1'<=c0) (e:x=y2-y1):(m+1)*(t+q)<=(y2-y0)*c0:=by
 have:=Rat.mul_nonneg hx (show 0<=c0-c1' by grind)
 subst e;grind
theorem UK (y0 y1 y2 m t q c1' c2 x:Rat) (h1:(y1-y0)*c1'<=m*(t-q)) (h2:x*c2<=t-q) (hy:0<=y1-y0) (hc:c2<=c1') (e:x=y2-y1):(y2-y0)*c2<=(m+1)*(t-q):=by
 have:=Rat.mul_nonneg hy (show 0<=c1'-c2 by grind)
 subst e;grind
theorem UO (m:Nat):∀ n,n+m<=5340000->(m:Rat)*(au+pp*pp*pp)<=((gN (n+m):Rat)*ak-(gN n:Rat)*ak)*zc n/\0<=(gN (n+m):Rat)*ak-(gN n:Rat)*ak/\((gN (n+m):Rat)*ak-(gN n:Rat)*ak)*zc (n+m)<=(m:Rat)*(au-pp*pp*pp):=by
 induction m with
 | zero =>
  intro n _;rw [Nat.add_zero];have e:((0:Nat):Rat)=0:=rfl;rw [e];generalize (gN n:Rat)*ak=y;generalize zc n=c;refine ⟨?_,?_,?_⟩<;>grind
 | succ m ih =>
  intro n h;obtain ⟨i1,i2,i3⟩:=ih n (by omega)
  have s:=Cr (n+m) (by omega)
  have z:=Pm m n (by omega)
  have zd:=uA (n+m) (by omega)
  have e:((m+1:Nat):Rat)=(m:Rat)+1:=by norm_cast
  rw [e,show n+(m+1)=n+m+1 by omega]
  have ex:xN (n+m)=(gN (n+m+1):Rat)*ak-(gN (n+m):Rat)*ak:=by unfold xN;grind
  refine ⟨XN _ _ _ _ _ _ _ _ _ i1 s.1 s.2.2 z ex,?_,UK _ _ _ _ _ _ _ _ _ i3 s.2.1 i2 zd ex⟩;have:=s.2.2;rw [ex] at this;clear s z zd ex i1 i3 ih;generalize (gN (n+m+1):Rat)*ak=a at *
  generalize (gN (n+m):Rat)*ak=b at *
  generalize (gN n:Rat)*ak=c at *
  grind
def gm:Rat:=1/1000000000000000
theorem vI:2*ak+10800000*au*gm<=10800000*(pp*pp*pp)/\0<gm/\gm<=1/1000000000:=by unfold ak au gm pp;refine ⟨?_,?_,?_⟩<;>decide +kernel
theorem Tt (m y c P d t q g:Rat) (m0:0<=m) (h:m*(t+q)<=y*c) (hp:P*d-t*10800000<=d) (hd:0<=d) (g0:0<=g) (g1:g<=1) (p3:2*d+10800000*t*g<=10800000*q):m*(P*d)*(1+g)<=y*10800000*c:=by
 have k:=Rat.mul_nonneg (show 0<=t*10800000+d-P*d by grind) (show 0<=1+g by grind)
 have k2:=Rat.mul_nonneg hd (show 0<=1-g by grind)
 have:=Rat.mul_nonneg m0 (show 0<=10800000*(t+q)-P*d*(1+g) by grind)
 grind
theorem QW (m y c P d t q g:Rat) (m0:0<=m) (h:y*c<=m*(t-q)) (hp:-d<=P*d-t*10800000) (hd:0<=d) (g0:0<=g) (g1:g<=1) (p3:2*d+10800000*t*g<=10800000*q):y*10800000*c<=m*(P*d)*(1-g):=by
 have k:=Rat.mul_nonneg (show 0<=P*d-(t*10800000-d) by grind) (show 0<=1-g by grind)
 have k2:=Rat.mul_nonneg hd g0;have:=Rat.mul_nonneg m0 (show 0<=P*d*(1-g)-10800000*(t-q) by grind)
 grind
theorem SB (a b:Nat) (h:a<=b) (hb:b<=5340000):((b:Rat)-a)*PiA*(1+gm)<=((gN b:Rat)-gN a)*10800000*zc a/\((gN b:Rat)-gN a)*10800000*zc b<=((b:Rat)-a)*PiA*(1-gm)/\0<=(gN b:Rat)-gN a:=by
 have s:=UO (b-a) a (by omega)
 rw [show a+(b-a)=b by omega] at s
 have hd:=bn;have m0:=aF (b-a);have gn:=vI;have d0:0<=ak:=by clear s gn m0;grind
 have g0:0<=gm:=by clear s m0;grind
 have g1:gm<=1:=by clear s m0;grind
 have p1:=Tt _ _ _ _ _ _ _ gm m0 s.1 jB.2 d0 g0 g1 gn.1;have p2:=QW _ _ _ _ _ _ _ gm m0 s.2.2 jB.1 d0 g0 g1 gn.1;have s2:=s.2.1;rw [gZ b a h] at p1 p2;clear s m0 gn;generalize (gN b:Rat)=y at *
 generalize (gN a:Rat)=x at *
 generalize (b:Rat)=B at *
 generalize (a:Rat)=A at *
 generalize (PiA:Rat)=P at *
 generalize zc a=c at *
 generalize zc b=c' at *
 generalize ak=d at *
 generalize gm=g at *
 refine ⟨?_,?_,?_⟩
 . apply Rat.le_of_mul_le_mul_right (c:=d) _ hd;grind
 . apply Rat.le_of_mul_le_mul_right (c:=d) _ hd;grind
 . apply Rat.le_of_mul_le_mul_right (c:=d) _ hd;grind
theorem Ih:gN 0=0:=by decide +kernel
def amN (n:Int):Rat:=if n<0 then -((gN n.natAbs:Rat)*10800000) else (gN n.natAbs:Rat)*10800000
def zcI (n:Int):Rat:=zc n.natAbs
theorem fD (n:Int):amN (-n)=-amN n/\zcI (-n)=zcI n:=by
 refine ⟨?_,by unfold zcI;rw [Int.natAbs_neg]⟩
 unfold amN;rw [Int.natAbs_neg]
 by_cases z:n=0
 . subst z;rw [show Int.natAbs 0=0 from rfl,Ih];decide +kernel
 . by_cases p:n<0
   . rw [if_pos p,if_neg (by omega)];grind
   . rw [if_neg p,if_pos (by omega)]
theorem CY (n:Int) (h:0<=n):((n.natAbs:Nat):Rat)=(n:Rat):=by
 have e:((n.natAbs:Nat):Int)=n:=by omega
 calc ((n.natAbs:Nat):Rat)=(((n.natAbs:Nat):Int):Rat):=(Rat.intCast_natCast _).symm
  _=(n:Rat):=by rw [e]
theorem lM (a b:Int) (h0:0<=a) (h:a<=b) (hb:b<=5340000):((b:Rat)-a)*PiA*(1+gm)<=(amN b-amN a)*zcI a/\(amN b-amN a)*zcI b<=((b:Rat)-a)*PiA*(1-gm)/\0<=amN b-amN a:=by
 have t:=SB a.natAbs b.natAbs (by omega) (by omega)
 rw [CY a h0,CY b (by omega)] at t
 have ea:amN a=(gN a.natAbs:Rat)*10800000:=if_neg (by omega)
 have eb:amN b=(gN b.natAbs:Rat)*10800000:=if_neg (by omega)
 rw [ea,eb];unfold zcI;generalize zc a.natAbs=c at *
 generalize zc b.natAbs=c' at *
 generalize (gN a.natAbs:Rat)=x at *
 generalize (gN b.natAbs:Rat)=y at *
 clear ea eb;refine ⟨?_,?_,?_⟩<;>grind
theorem X5 (b:Rat) (n P:Nat) (h:b=((n*10800000/P:Nat):Rat)) (hP:0<P):b*P<=(n:Rat)*10800000/\(n:Rat)*10800000<=(b+1)*P:=by
 have q:=fU (n*10800000) P hP;rw [Rat.natCast_mul] at q;have e:((10800000:Nat):Rat)=10800000:=rfl;rw [e] at q;subst h
 constructor
 . exact q.1
 . have:=q.2;grind
theorem AU:0<PiA:=by unfold PiA;decide +kernel
theorem xY (n:Int) (h:-5340000<=n/\n<=5340000):(prL n:Rat)*PiA<=amN n/\amN n<=(prH n:Rat)*PiA:=by
 have k:=(lY n.natAbs (by omega)).2.2.1
 have f:=X5 ((wpN n.natAbs:Nat):Rat) (gN n.natAbs) PiA (by rw [k]) AU
 have P0:(0:Rat)<=(PiA:Rat):=aF _
 by_cases z:n=0
 . subst z;have e1:prL 0=0:=rfl;have e2:prH 0=0:=rfl;have e3:amN 0=0:=by unfold amN;rw [show Int.natAbs 0=0 from rfl,Ih];decide +kernel
   rw [e1,e2,e3];have e4:((0:Int):Rat)=0:=rfl;rw [e4]
   constructor<;>grind
 . by_cases p:n<0
   . have e1:prL n=-((wpN n.natAbs:Nat):Int)-1:=by unfold prL;rw [if_neg z,if_pos p]
     have e2:prH n=-((wpN n.natAbs:Nat):Int):=by unfold prH;rw [if_neg z,if_pos p]
     have e3:amN n=-((gN n.natAbs:Rat)*10800000):=if_pos p;rw [e1,e2,e3,Rat.intCast_sub,Rat.intCast_neg,Rat.intCast_natCast];have e5:((1:Int):Rat)=1:=rfl;rw [e5];generalize ((wpN n.natAbs:Nat):Rat)=w at *
     generalize (gN n.natAbs:Rat)=g at *
     generalize (PiA:Rat)=P at *
     clear k
     constructor<;>grind
   . have e1:prL n=((wpN n.natAbs:Nat):Int):=by unfold prL;rw [if_neg z,if_neg p]
     have e2:prH n=((wpN n.natAbs:Nat):Int)+1:=by unfold prH;rw [if_neg z,if_neg p]
     have e3:amN n=(gN n.natAbs:Rat)*10800000:=if_neg p;rw [e1,e2,e3,Rat.intCast_add,Rat.intCast_natCast];have e5:((1:Int):Rat)=1:=rfl;rw [e5];generalize ((wpN n.natAbs:Nat):Rat)=w at *
     generalize (gN n.natAbs:Rat)=g at *
     generalize (PiA:Rat)=P at *
     clear k
     constructor<;>grind
end Alm
namespace Alm
theorem KO:zcI 0=1:=rfl
theorem M7 (a b:Int) (h0:-5340000<=a) (h:a<=b) (hb:b<=5340000) (C:Rat) (hC:∀ x:Int,a<=x->x<=b->zcI x<=C):((b:Rat)-a)*PiA*(1+gm)<=(amN b-amN a)*C:=by
 have e0:amN 0=0:=by have:=(fD 0).1;rw [show -(0:Int)=0 from rfl] at this;grind
 have c0:((0:Int):Rat)=0:=rfl
 by_cases p:0<=a
 . have t:=lM a b p h hb;have k:=hC a (Int.le_refl a) h;have:=Rat.mul_nonneg t.2.2 (show 0<=C-zcI a by grind)
   grind
 . by_cases q:b<=0
   . have t:=lM (-b) (-a) (by omega) (by omega) (by omega)
     rw [(fD a).1,(fD b).1,(fD b).2,Rat.intCast_neg,Rat.intCast_neg] at t;have k:=hC b h (Int.le_refl b);have:=Rat.mul_nonneg t.2.2 (show 0<=C-zcI b by grind)
     grind
   . have t1:=lM 0 b (by omega) (by omega) hb
     have t2:=lM 0 (-a) (by omega) (by omega) (by omega)
     rw [(fD a).1,Rat.intCast_neg] at t2;have k:=hC 0 (by omega) (by omega)
     rw [e0,c0] at t1 t2;rw [KO] at k t1 t2;have m1:=Rat.mul_nonneg t1.2.2 (show 0<=C-1 by grind)
     have m2:=Rat.mul_nonneg t2.2.2 (show 0<=C-1 by grind)
     grind
theorem KP (a b:Int) (h0:-5340000<=a) (h:a<=b) (hb:b<=5340000) (C:Rat) (ha:C<=zcI a) (hbC:C<=zcI b):(amN b-amN a)*C<=((b:Rat)-a)*PiA*(1-gm)/\0<=amN b-amN a:=by
 have e0:amN 0=0:=by have:=(fD 0).1;rw [show -(0:Int)=0 from rfl] at this;grind
 have c0:((0:Int):Rat)=0:=rfl
 by_cases p:0<=a
 . have t:=lM a b p h hb;have:=Rat.mul_nonneg t.2.2 (show 0<=zcI b-C by grind)
   exact ⟨by grind,t.2.2⟩
 . by_cases q:b<=0
   . have t:=lM (-b) (-a) (by omega) (by omega) (by omega)
     rw [(fD a).1,(fD b).1,(fD b).2,(fD a).2,Rat.intCast_neg,Rat.intCast_neg] at t;have:=Rat.mul_nonneg t.2.2 (show 0<=zcI a-C by grind)
     exact ⟨by grind,by grind⟩
   . have t1:=lM 0 b (by omega) (by omega) hb
     have t2:=lM 0 (-a) (by omega) (by omega) (by omega)
     rw [(fD a).1,(fD a).2,Rat.intCast_neg] at t2;rw [e0,c0] at t1 t2;have m1:=Rat.mul_nonneg t1.2.2 (show 0<=zcI b-C by grind)
     have m2:=Rat.mul_nonneg t2.2.2 (show 0<=zcI a-C by grind)
     exact ⟨by grind,by grind⟩
theorem Cc (lo mh n R C P De g tol qH:Rat) (h1:lo*mh<=n*R) (h2:De<=mh*P) (h3:n*P*(1+g)<=De*C) (lo0:0<=lo) (De0:0<De) (P0:0<P) (n0:0<=n) (g0:0<=g) (gt:tol<=R*C*g*(1/2)) (g1:g<=1) (C0:0<=C) (R0:0<=R) (hq:R*C<=qH+tol):lo<=qH:=by
 have a1:=Rat.mul_nonneg (Rat.mul_nonneg lo0 (show 0<=mh*P-De by grind)) (show 0<=1+g by grind)
 have a2:=Rat.mul_nonneg (show 0<=n*R-lo*mh by grind) (Rat.mul_nonneg (show 0<=P by grind) (show 0<=1+g by grind))
 have a3:=Rat.mul_nonneg (show 0<=De*C-n*P*(1+g) by grind) R0
 have k:De*(lo*(1+g))<=De*(R*C):=by grind
 have k2:=Rat.le_of_mul_le_mul_left k De0;have RC:=Rat.mul_nonneg R0 C0;have b4:=Rat.mul_nonneg (Rat.mul_nonneg RC g0) (show 0<=1-g by grind)
 have k3:lo*(1+g)<=(R*C*(1-g*(1/2)))*(1+g):=by
  generalize R*C=z at *
  clear a1 a2 a3 k h1 h2 h3;grind
 have k4:=Rat.le_of_mul_le_mul_right k3 (show 0<1+g by grind)
 generalize R*C=z at *
 clear a1 a2 a3 k h1 h2 h3 k2 k3;grind
theorem Bu (hi ml n R C P De g tol qL:Rat) (h1:n*R<=hi*ml) (h2:ml*P<=De) (h3:De*C<=n*P*(1-g)) (De0:0<De) (P0:0<P) (ml0:0<ml) (g0:0<=g) (gt:tol<=R*C*g) (C0:0<=C) (R0:0<=R) (q0:0<=qL) (hq:qL<=R*C+tol) (n0:0<=n) (g1:g<=1):qL<=hi:=by
 have a1:=Rat.mul_nonneg q0 (show 0<=De-ml*P by grind)
 have a2:=Rat.mul_nonneg (show 0<=R*C*(1+g)-qL by grind) (show 0<=De by grind)
 have a3:=Rat.mul_nonneg (Rat.mul_nonneg R0 (show 0<=n*P*(1-g)-De*C by grind)) (show 0<=1+g by grind)
 have a4:=Rat.mul_nonneg (Rat.mul_nonneg R0 (Rat.mul_nonneg n0 (show 0<=P by grind))) (aH g)
 have k:P*(ml*qL)<=P*(ml*hi):=by
  have b:=Rat.mul_nonneg (show 0<=hi*ml-n*R by grind) (show 0<=P by grind)
  grind
 exact Rat.le_of_mul_le_mul_left (Rat.le_of_mul_le_mul_left k P0) ml0
theorem aJ {a b:Int} (h:a<=b):(a:Rat)<=(b:Rat):=by exact_mod_cast h
theorem JJ (a b:Int) (h0:-5340000<=a) (h:a<b) (hb:b<=5340000) (qL qH lo hi:Int) (tol:Rat) (t0:0<=tol) (t1:tol<=1/1000000000000)
 (hq:∀ x:Int,a<=x->x<=b->(qL:Rat)<=1073741824*zcI x+tol/\1073741824*zcI x<=(qH:Rat)+tol) (q0:0<=qL)
 (ml:0<prL b-prH a) (hlo:lo*(prH b-prL a)<=(b-a)*1073741824) (hlo0:0<=lo) (hhi:(b-a)*1073741824<=hi*(prL b-prH a)):lo<=qH/\qL<=hi:=by
 have pa:=xY a (by omega)
 have pb:=xY b (by omega)
 have P0:(0:Rat)<(PiA:Rat):=by exact_mod_cast AU
 have ca:=(sc_bd a.natAbs (by omega)).1
 have cb:=(sc_bd b.natAbs (by omega)).1
 have gn:=vI
 have n0:(0:Rat)<(b:Rat)-a:=by
  have:((a:Int):Rat)<((b:Int):Rat):=by exact_mod_cast h
  grind
 have g0:0<=gm:=by clear pa pb ca cb;grind
 have g1:gm<=1:=by clear pa pb ca cb;grind
 have mlr:(0:Rat)<(prL b:Rat)-prH a:=by
  have:((0:Int):Rat)<((prL b-prH a:Int):Rat):=by exact_mod_cast ml
  rw [Rat.intCast_sub] at this;exact this
 have r1:((lo*(prH b-prL a):Int):Rat)<=(((b-a)*1073741824:Int):Rat):=aJ hlo;have r2:(((b-a)*1073741824:Int):Rat)<=((hi*(prL b-prH a):Int):Rat):=aJ hhi;have eR:((1073741824:Int):Rat)=1073741824:=rfl;rw [Rat.intCast_mul,Rat.intCast_mul,Rat.intCast_sub,Rat.intCast_sub,eR] at r1 r2;have l0:(0:Rat)<=(lo:Rat):=by exact_mod_cast hlo0
 have q0':(0:Rat)<=(qL:Rat):=by exact_mod_cast q0
 have De0:0<amN b-amN a:=by
  have:=Rat.mul_pos mlr P0;clear r1 r2 ca cb gn hq;grind
 have hqa:=hq a (Int.le_refl a) (Int.le_of_lt h);have hqb:=hq b (Int.le_of_lt h) (Int.le_refl b)
 have ga:tol<=1073741824*(5/1000)*gm*(1/2):=by
  have:(1:Rat)/1000000000000<=1073741824*(5/1000)*gm*(1/2):=by unfold gm;decide +kernel
  exact Rat.le_trans t1 this
 have R0:(0:Rat)<=1073741824:=by decide
 have ca':5/1000<=zcI a:=ca;have cb':5/1000<=zcI b:=cb;clear ca cb
 constructor
 . have eC:1073741824*(((qH:Rat)+tol)/1073741824)=(qH:Rat)+tol:=by
    rw [Rat.mul_comm];exact Rat.div_mul_cancel (by decide)
   generalize ((qH:Rat)+tol)/1073741824=C at eC
   have up:=M7 a b h0 (Int.le_of_lt h) hb C (fun x x0 x1=>by
    have k:=(hq x x0 x1).2;exact Rat.le_of_mul_le_mul_left (c:=1073741824) (by rw [eC];exact k) (by decide))
   have C1:5/1000<=C:=by
    have k:=hqa.2;rw [<-eC] at k;exact Rat.le_trans ca' (Rat.le_of_mul_le_mul_left k (by decide))
   have gt:tol<=1073741824*C*gm*(1/2):=by
    have:=Rat.mul_nonneg (show 0<=C-5/1000 by grind) g0
    clear up r1 r2 hq hqa hqb pa pb;grind
   have De2:amN b-amN a<=((prH b:Rat)-prL a)*PiA:=by clear up r1 r2 hq hqa hqb gt;grind
   have fin:=Cc (lo:Rat) ((prH b:Rat)-prL a) ((b:Rat)-a) 1073741824 C (PiA:Rat) (amN b-amN a) gm tol (qH:Rat) r1 De2 up l0 De0 P0 (by grind) g0 gt g1 (by grind) R0 (by rw [eC];exact Rat.le_refl)
   exact_mod_cast fin
 . have De1:((prL b:Rat)-prH a)*PiA<=amN b-amN a:=by clear r1 r2 hq hqa hqb;grind
   have main:∀ C:Rat,C<=zcI a->C<=zcI b->5/1000<=C->(qL:Rat)<=1073741824*C+tol->qL<=hi:=by
    intro C c1' c2' c3' c4'
    have lo':=KP a b h0 (Int.le_of_lt h) hb C c1' c2'
    have gt:tol<=1073741824*C*gm:=by
     have:=Rat.mul_nonneg (show 0<=C-5/1000 by grind) g0
     clear lo' r1 r2 hq hqa hqb pa pb De1;grind
    have fin:=Bu (hi:Rat) ((prL b:Rat)-prH a) ((b:Rat)-a) 1073741824 C (PiA:Rat) (amN b-amN a) gm tol (qL:Rat) r2 De1 lo'.1 De0 P0 mlr g0 gt (by grind) R0 q0' c4' (by grind) g1
    exact_mod_cast fin
   rcases Rat.le_total (a:=zcI a) (b:=zcI b) with w|w
   . exact main (zcI a) Rat.le_refl w ca' hqa.1
   . exact main (zcI b) w Rat.le_refl cb' hqb.1
