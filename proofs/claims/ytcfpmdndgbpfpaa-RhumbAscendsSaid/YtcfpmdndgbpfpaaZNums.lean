/- Plain numbers: powers of a rational point of the unit circle, and the Taylor polynomials that are near them. -/

set_option linter.unusedVariables false
set_option linter.unusedSimpArgs false
namespace Alm
def tp:Int:=296274873071786043043638596174445290133440682168229591076874812683228118407787832338
def th:Int:=621333442612237862514429719835185485259647600872884162104361705958491964691833831490694480
def c1n:Int:=2^600-tp*tp
def s1n:Int:=2^301*tp
def dd:Int:=2^600+tp*tp
theorem Df:c1n*c1n+s1n*s1n=dd*dd:=by decide +kernel
theorem lX:0<dd:=by decide +kernel
def ev:List Int->Int->Int
 | [],_=>0
 | a::l,n=>a+n*ev l n
def nY:List Int->List Int->List Int
 | [],m=>m
 | a::l,[]=>a::l
 | a::l,b::m=>(a+b)::nY l m
theorem jf (l m:List Int) (n:Int):ev (nY l m) n=ev l n+ev m n:=by
 induction l generalizing m with
 | nil=>simp [nY,ev]
 | cons a l ih =>
  cases m with
  | nil=>simp [nY,ev]
  | cons b m=>simp only [nY,ev,ih];grind
def fV (c:Int):List Int->List Int
 | []=>[]
 | a::l=>c*a::fV c l
theorem gM (c:Int) (l:List Int) (n:Int):ev (fV c l) n=c*ev l n:=by
 induction l with
 | nil=>simp [fV,ev]
 | cons a l ih=>simp only [fV,ev,ih];grind
def kC:List Int->List Int
 | []=>[]
 | a::l=>let r:=kC l;nY (a::r) r
theorem iw (l:List Int) (n:Int):ev (kC l) n=ev l (n+1):=by
 induction l with
 | nil=>simp [kC,ev]
 | cons a l ih=>simp only [kC,jf,ev,ih];grind
def sQ:List Int->Int->Int
 | [],_=>0
 | a::l,m=>(a.natAbs:Int)+m*sQ l m
theorem nZ (n m x y:Int) (h0:0<=n) (h:n<=m) (hxy:(x.natAbs:Int)<=y):((n*x).natAbs:Int)<=m*y:=by
 rw [Int.natAbs_mul,Int.natCast_mul];have h1:(n.natAbs:Int)=n:=by omega
 rw [h1];have a1:=Int.mul_le_mul_of_nonneg_right h (show (0:Int)<=(x.natAbs:Int) by omega)
 have a2:=Int.mul_le_mul_of_nonneg_left hxy (show 0<=m by omega)
 omega
theorem xR (l:List Int) (n m:Int) (h0:0<=n) (h:n<=m):((ev l n).natAbs:Int)<=sQ l m:=by
 induction l with
 | nil=>simp [ev,sQ]
 | cons a l ih =>
  have:=nZ n m _ _ h0 h ih;simp only [ev,sQ];omega
def fZ:Int:=2^320
def eH:Nat->Nat->Int->List Int
 | 0,_,_=>[]
 | m+1,k,a=>a::eH m (k+1) (a*th/(fZ*((k+1:Nat):Int)))
def fact:Nat->Nat
 | 0=>1
 | n+1=>(n+1)*fact n
def L0:Int:=2^(320*69)*(fact 69:Nat)
def A0:List Int:=eH 70 0 L0
def uG:List Int->List Int
 | []=>[]
 | [a]=>[a]
 | a::_::l=>a::0::fV (-1) (uG l)
def alt:List Int->Int->Int
 | [],_=>0
 | [a],_=>a
 | a::_::l,y=>a-y*alt l y
theorem yg (l:List Int) (n:Int):ev (uG l) n=alt l (n*n):=by
 induction l using uG.induct with
 | case1=>simp [uG,alt,ev]
 | case2 a=>simp [uG,alt,ev]
 | case3 a b l ih=>simp only [uG,alt,ev,gM,ih];grind
def sP:List Int:=0::uG A0.tail
def cP:List Int:=uG A0
def dS:List Int:=nY (fV dd (kC sP)) (fV (-1) (nY (fV c1n sP) (fV s1n cP)))
def dC:List Int:=nY (fV dd (kC cP)) (nY (fV (-c1n) cP) (fV s1n sP))
def M0:Int:=2700000
theorem Dh:sQ dS M0*2^256<=dd*L0:=by decide +kernel
theorem Bj:sQ dC M0*2^256<=dd*L0:=by decide +kernel
theorem Ap:((ev sP M0-ev cP M0).natAbs:Int)*2^256<=L0:=by decide +kernel
theorem start:ev sP 0=0/\ev cP 0=L0:=by decide +kernel
theorem kz:0<L0:=by decide +kernel
attribute [irreducible] fZ L0 A0 tp th c1n s1n dd sP cP
end Alm
namespace Alm
def c1:Rat:=(c1n:Rat)/(dd:Rat)
def s1:Rat:=(s1n:Rat)/(dd:Rat)
theorem Er:(0:Rat)<(dd:Rat):=by exact_mod_cast lX
theorem vE:(dd:Rat)≠0:=by have:=Er;grind
theorem nM:c1*(dd:Rat)=(c1n:Rat):=Rat.div_mul_cancel vE
theorem nu:s1*(dd:Rat)=(s1n:Rat):=Rat.div_mul_cancel vE
theorem sO:c1*c1+s1*s1=1:=by
 have h:((c1n*c1n+s1n*s1n:Int):Rat)=((dd*dd:Int):Rat):=by rw [Df]
 simp only [Rat.intCast_add,Rat.intCast_mul] at h;rw [<-nM,<-nu] at h;have h2:(c1*c1+s1*s1-1)*((dd:Rat)*dd)=0:=by grind
 rcases Rat.mul_eq_zero.1 h2 with h3|h3
 . grind
 . rcases Rat.mul_eq_zero.1 h3 with h4|h4<;>exact absurd h4 vE
def zz:Nat->Rat × Rat
 | 0=>(1,0)
 | n+1=>((zz n).1*c1-(zz n).2*s1,(zz n).2*c1+(zz n).1*s1)
def zc (n:Nat):Rat:=(zz n).1
def zs (n:Nat):Rat:=(zz n).2
theorem iC:zc 0=1:=rfl
theorem fK:zs 0=0:=rfl
theorem eG (n:Nat):zc (n+1)=zc n*c1-zs n*s1:=rfl
theorem dE (n:Nat):zs (n+1)=zs n*c1+zc n*s1:=rfl
theorem mU (n:Nat):zc n*zc n+zs n*zs n=1:=by
 induction n with
 | zero=>simp [iC,fK];grind
 | succ n ih=>rw [eG,dE];have:=sO;grind
theorem Ht (m n:Nat):zc (m+n)=zc m*zc n-zs m*zs n/\zs (m+n)=zs m*zc n+zc m*zs n:=by
 induction n with
 | zero=>simp [iC,fK];grind
 | succ n ih=>rw [<-Nat.add_assoc,eG,dE,eG,dE,ih.1,ih.2];grind
theorem aj (x:Rat):0<=x*x:=by
 rcases Rat.le_total (a:=0) (b:=x) with h|h
 . exact Rat.mul_nonneg h h
 . have:0<=(-x)*(-x):=Rat.mul_nonneg (by grind) (by grind)
   grind
theorem fu (x b:Rat) (hb:0<=b) (h:x*x<=b*b):-b<=x/\x<=b:=by
 constructor
 . rcases Rat.le_total (a:=-b) (b:=x) with h1|h1
   . exact h1
   . have h2:0<=(-b-x)*(-b-x):=aj _;rcases Rat.le_iff_lt_or_eq.1 h1 with h3|h3
     . have:0<(-b-x)*((-x)+b):=Rat.mul_pos (by grind) (by grind)
       grind
     . grind
 . rcases Rat.le_total (a:=x) (b:=b) with h1|h1
   . exact h1
   . rcases Rat.le_iff_lt_or_eq.1 h1 with h3|h3
     . have:0<(x-b)*(x+b):=Rat.mul_pos (by grind) (by grind)
       grind
     . grind
theorem bT (x b:Rat) (h1:-b<=x) (h2:x<=b):x*x<=b*b:=by
 have:0<=(b-x)*(b+x):=Rat.mul_nonneg (by grind) (by grind)
 grind
theorem dI (n:Nat):-1<=zs n/\zs n<=1:=by
 apply fu _ 1 (by decide);have:=mU n;have:=aj (zc n);grind
theorem ll (n:Nat):-1<=zc n/\zc n<=1:=by
 apply fu _ 1 (by decide);have:=mU n;have:=aj (zs n);grind
def ps (n:Nat):Rat:=(ev sP n:Rat)/(L0:Rat)
def pc (n:Nat):Rat:=(ev cP n:Rat)/(L0:Rat)
theorem Ea:(0:Rat)<(L0:Rat):=by exact_mod_cast kz
theorem mW:(L0:Rat)≠0:=by have:=Ea;grind
theorem gZ (n:Nat):ps n*(L0:Rat)=(ev sP n:Rat):=Rat.div_mul_cancel mW
theorem gK (n:Nat):pc n*(L0:Rat)=(ev cP n:Rat):=Rat.div_mul_cancel mW
def aL:Rat:=1/(2^256:Int)
theorem sW:aL*((2^256:Int):Rat)=1:=by
 unfold aL;apply Rat.div_mul_cancel;decide
theorem dm:0<aL:=by
 unfold aL;decide +kernel
theorem gF (x:Rat) (D P:Int) (hP:0<P) (hx:x*(P:Rat)=(D:Rat)) (h:(D.natAbs:Int)*2^256<=P):-aL<=x/\x<=aL:=by
 have hp:(0:Rat)<(P:Rat):=by exact_mod_cast hP
 have k1:D*2^256<=P:=by omega
 have k2:-P<=D*2^256:=by omega
 have e1:((D*2^256:Int):Rat)<=((P:Int):Rat):=by exact_mod_cast k1
 have e2:((-P:Int):Rat)<=((D*2^256:Int):Rat):=by exact_mod_cast k2
 rw [Rat.intCast_mul,<-hx] at e1 e2;rw [Rat.intCast_neg] at e2;have hq:=sW;have hd:=dm;generalize ((2^256:Int):Rat)=T at *
 generalize (P:Rat)=Q at *
 have e3:=Rat.mul_le_mul_of_nonneg_right e1 (show 0<=aL by grind)
 have e4:=Rat.mul_le_mul_of_nonneg_right e2 (show 0<=aL by grind)
 have e5:x*Q*T*aL=x*Q:=by grind
 rw [e5] at e3 e4
 constructor
 . apply Rat.le_of_mul_le_mul_right (c:=Q) _ hp;grind
 . apply Rat.le_of_mul_le_mul_right (c:=Q) _ hp;grind
theorem DN (n:Nat) (h:n<2700000):-aL<=ps (n+1)-(ps n*c1+pc n*s1)/\ps (n+1)-(ps n*c1+pc n*s1)<=aL:=by
 apply gF _ (ev dS n) (dd*L0) (Int.mul_pos lX kz)
 . have e:ev dS n=dd*ev sP (n+1)-(c1n*ev sP n+s1n*ev cP n):=by
    simp only [dS,jf,gM,iw];grind
   rw [e];simp only [Rat.intCast_sub,Rat.intCast_add,Rat.intCast_mul];rw [<-gZ n,<-gK n,<-nM,<-nu];have e2:((ev sP ((n:Int)+1):Int):Rat)=ps (n+1)*(L0:Rat):=by rw [gZ];norm_cast
   rw [e2];grind
 . have h1:=xR dS n M0 (by omega) (by unfold M0;omega)
   have h2:=Dh;omega
theorem EJ (n:Nat) (h:n<2700000):-aL<=pc (n+1)-(pc n*c1-ps n*s1)/\pc (n+1)-(pc n*c1-ps n*s1)<=aL:=by
 apply gF _ (ev dC n) (dd*L0) (Int.mul_pos lX kz)
 . have e:ev dC n=dd*ev cP (n+1)-(c1n*ev cP n-s1n*ev sP n):=by
    simp only [dC,jf,gM,iw];grind
   rw [e];simp only [Rat.intCast_sub,Rat.intCast_mul];rw [<-gZ n,<-gK n,<-nM,<-nu];have e2:((ev cP ((n:Int)+1):Int):Rat)=pc (n+1)*(L0:Rat):=by rw [gK];norm_cast
   rw [e2];grind
 . have h1:=xR dC n M0 (by omega) (by unfold M0;omega)
   have h2:=Bj;omega
theorem grow (N es ec ds dc a b d:Rat) (hN:0<=N) (hu:a*a+b*b=1) (hd:ds*ds+dc*dc<=d*d)
 (h:es*es+ec*ec<=N*N*(d*d)) :
 (es*a+ec*b+ds)*(es*a+ec*b+ds)+(ec*a-es*b+dc)*(ec*a-es*b+dc)<=(N+1)*(N+1)*(d*d):=by
 rcases Rat.le_iff_lt_or_eq.1 hN with h0|h0
 ·
  have q1:=aj (es*a+ec*b-N*ds);have q2:=aj (ec*a-es*b-N*dc);have hu2:(es*a+ec*b)*(es*a+ec*b)+(ec*a-es*b)*(ec*a-es*b)=es*es+ec*ec:=by
   have:(es*a+ec*b)*(es*a+ec*b)+(ec*a-es*b)*(ec*a-es*b)=(es*es+ec*ec)*(a*a+b*b):=by grind
   rw [this,hu];grind
  apply Rat.le_of_mul_le_mul_left (c:=N) _ h0;rw [<-hu2] at h;generalize es*a+ec*b=u at *
  generalize ec*a-es*b=v at *
  clear hu2 hu;have m1:=Rat.mul_le_mul_of_nonneg_left h (show 0<=N+1 by grind)
  have m2:=Rat.mul_le_mul_of_nonneg_left hd (show 0<=N*(N+1) by exact Rat.mul_nonneg hN (by grind))
  grind
 . subst h0;have:es*es+ec*ec<=0:=by grind
   have h1:=aj es;have h2:=aj ec;have e1:es*es=0:=by grind
   have e2:ec*ec=0:=by grind
   have e3:es=0:=by rcases Rat.mul_eq_zero.1 e1 with h|h<;>exact h
   have e4:ec=0:=by rcases Rat.mul_eq_zero.1 e2 with h|h<;>exact h
   subst e3 e4;grind
def dO:Rat:=2*aL
theorem IA (x y:Rat) (hx:-aL<=x/\x<=aL) (hy:-aL<=y/\y<=aL):x*x+y*y<=dO*dO:=by
 have h1:=bT x _ hx.1 hx.2;have h2:=bT y _ hy.1 hy.2;have h3:=aj aL;unfold dO;grind
theorem yC (n:Nat) (h:n<=2700000):(ps n-zs n)*(ps n-zs n)+(pc n-zc n)*(pc n-zc n)<=((n:Rat)*(n:Rat))*(dO*dO):=by
 induction n with
 | zero =>
  have e1:ps 0=0:=by unfold ps;rw [show ((0:Nat):Int)=0 from rfl,start.1];simp;grind
  have e2:pc 0=1:=by
   unfold pc;rw [show ((0:Nat):Int)=0 from rfl,start.2]
   have:=mW;rw [Rat.div_def,Rat.mul_inv_cancel _ this]
  rw [e1,e2,fK,iC];grind
 | succ n ih =>
  have ih:=ih (by omega)
  have hs:=DN n (by omega)
  have hc:=EJ n (by omega)
  have g:=grow (n:Rat) (ps n-zs n) (pc n-zc n) (ps (n+1)-(ps n*c1+pc n*s1)) (pc (n+1)-(pc n*c1-ps n*s1)) c1 s1 dO (by exact_mod_cast Nat.zero_le n) sO (IA _ _ hs hc) ih
  have e1:(ps n-zs n)*c1+(pc n-zc n)*s1+(ps (n+1)-(ps n*c1+pc n*s1))=ps (n+1)-zs (n+1):=by rw [dE];grind
  have e2:(pc n-zc n)*c1-(ps n-zs n)*s1+(pc (n+1)-(pc n*c1-ps n*s1))=pc (n+1)-zc (n+1):=by rw [eG];grind
  rw [e1,e2] at g;have e3:((n+1:Nat):Rat)=(n:Rat)+1:=by norm_cast
  rw [e3];exact g
def bH:Rat:=((2^26:Int):Rat)*aL
theorem near (n:Nat) (h:n<=2700000):(-bH<=ps n-zs n/\ps n-zs n<=bH)/\(-bH<=pc n-zc n/\pc n-zc n<=bH):=by
 have g:=yC n h;have hn:(n:Rat)<=((2^25:Int):Rat):=by
  have:(n:Int)<=2^25:=by omega
  exact_mod_cast this
 have hn0:(0:Rat)<=(n:Rat):=by exact_mod_cast Nat.zero_le n
 have hd:=dm;have hb:0<=bH:=by unfold bH;exact Rat.mul_nonneg (by decide) (by grind)
 have hle:(n:Rat)*(n:Rat)*(dO*dO)<=bH*bH:=by
  have:=bT ((n:Rat)*dO) bH (by
   have:=Rat.mul_nonneg hn0 (show 0<=dO by unfold dO;grind)
   grind) (by
   have:=Rat.mul_le_mul_of_nonneg_right hn (show 0<=dO by unfold dO;grind)
   unfold bH;unfold dO at *
   have e:((2^26:Int):Rat)=((2^25:Int):Rat)*2:=by decide +kernel
   rw [e];grind)
  grind
 have q1:=aj (ps n-zs n);have q2:=aj (pc n-zc n);exact ⟨fu _ _ hb (by grind),fu _ _ hb (by grind)⟩
end Alm
namespace Alm
theorem ax (a b A B:Rat) (h1:-A<=a) (h2:a<=A) (h3:-B<=b) (h4:b<=B):-(A*B)<=a*b/\a*b<=A*B:=by
 have k1:0<=(A-a)*(B+b):=Rat.mul_nonneg (by grind) (by grind)
 have k2:0<=(A+a)*(B-b):=Rat.mul_nonneg (by grind) (by grind)
 have k3:0<=(A-a)*(B-b):=Rat.mul_nonneg (by grind) (by grind)
 have k4:0<=(A+a)*(B+b):=Rat.mul_nonneg (by grind) (by grind)
 constructor<;>grind
def hr:Nat->Nat->Rat->Rat
 | 0,_,_=>1
 | m+1,j,y=>1-y/(((j+1)*(j+2):Nat):Rat)*hr m (j+2) y
theorem rQ (n:Nat) (h:0<n):(0:Rat)<(n:Rat):=by exact_mod_cast h
theorem ay (n:Nat):(0:Rat)<=(n:Rat):=by exact_mod_cast Nat.zero_le n
theorem bF (m n:Nat) (h:m<=n):(m:Rat)<=(n:Rat):=by exact_mod_cast h
theorem Fa (y:Rat) (D:Nat) (hD:2<=D) (h0:0<=y) (h1:y<=1):0<=y/(D:Rat)/\y/(D:Rat)<=1/2/\y/(D:Rat)*(D:Rat)=y:=by
 have hd:(2:Rat)<=(D:Rat):=by exact_mod_cast hD
 have hm:y/(D:Rat)*(D:Rat)=y:=Rat.div_mul_cancel (by grind)
 generalize y/(D:Rat)=z at *
 have hz:0<=z:=by
  rcases Rat.le_total (a:=0) (b:=z) with h|h
  . exact h
  . have:=Rat.mul_nonneg (show 0<=-z by grind) (show 0<=(D:Rat)-1 by grind)
    grind
 have h2:=Rat.mul_nonneg hz (show 0<=(D:Rat)-2 by grind)
 refine ⟨hz,by grind,hm⟩
theorem F8 (m j:Nat) (y:Rat) (h0:0<=y) (h1:y<=1):1/2<=hr m j y/\hr m j y<=1:=by
 induction m generalizing j with
 | zero=>simp only [hr];grind
 | succ m ih =>
  have i:=ih (j+2);have q:=Fa y ((j+1)*(j+2)) (by have:=Nat.mul_le_mul (show 1<=j+1 by omega) (show 2<=j+2 by omega);omega) h0 h1
  simp only [hr];generalize y/(((j+1)*(j+2):Nat):Rat)=z at *
  have:=ax z (hr m (j+2) y) (1/2) 1 (by grind) (by grind) (by grind) (by grind)
  have:=Rat.mul_nonneg q.1 (show 0<=hr m (j+2) y by grind)
  grind
def ag:Rat:=(th:Rat)/(fZ:Rat)
def mX:Nat->Nat->Int->Bool
 | 0,_,_=>true
 | m+1,k,a=>(a*th%(fZ*((k+1:Nat):Int))==0)&&mX m (k+1) (a*th/(fZ*((k+1:Nat):Int)))
theorem iZ (a d:Int) (h:a*th%d=0):(a*th/d)*d=a*th:=by
 have:=Int.emod_add_mul_ediv (a*th) d;have h2:d*(a*th/d)=a*th:=by omega
 rw [Int.mul_comm];exact h2
theorem pQ:ag*(fZ:Rat)=(th:Rat):=Rat.div_mul_cancel (by decide +kernel)
theorem oP (m:Nat) (k:Nat) (a n:Int) (h:mX (2*m) k a=true) :
 ((alt (eH (2*m+1) k a) (n*n):Int):Rat)=(a:Rat)*hr m k ((n*ag)*(n*ag)) /\
 ((alt (eH (2*m+2) k a) (n*n):Int):Rat)=(a:Rat)*hr m k ((n*ag)*(n*ag)):=by
 induction m generalizing k a with
 | zero=>constructor<;>(simp [eH,alt,hr];try grind)
 | succ m ih =>
  have e0:2*(m+1)=2*m+1+1:=by omega
  rw [e0] at h ⊢
  simp only [mX,Bool.and_eq_true,beq_iff_eq] at h;obtain ⟨h1,h2,h3⟩:=h;have i:=ih (k+1+1) _ h3;have s1:=iZ _ _ h1;have s2:=iZ _ _ h2;generalize ha1:a*th/(fZ*((k+1:Nat):Int))=a1 at *
  generalize ha2:a1*th/(fZ*((k+1+1:Nat):Int))=a2 at *
  have r1:((a1*(fZ*((k+1:Nat):Int)):Int):Rat)=((a*th:Int):Rat):=by rw [s1]
  have r2:((a2*(fZ*((k+1+1:Nat):Int)):Int):Rat)=((a1*th:Int):Rat):=by rw [s2]
  simp only [Rat.intCast_mul,Rat.intCast_natCast] at r1 r2;rw [<-pQ] at r1 r2;have ht:(fZ:Rat)≠0:=by decide +kernel
  have hk1R:((k+1:Nat):Rat)≠0:=by have:=rQ (k+1) (by omega);grind
  have hk2R:((k+1+1:Nat):Rat)≠0:=by have:=rQ (k+1+1) (by omega);grind
  have key:(n:Rat)*n*(a2:Rat)=(a:Rat)*((n*ag)*(n*ag)/(((k+1)*(k+2):Nat):Rat)):=by
   have hD:(((k+1)*(k+2):Nat):Rat)=((k+1:Nat):Rat)*((k+1+1:Nat):Rat):=by
    rw [Rat.natCast_mul]
   rw [hD];generalize (fZ:Rat)=T at *
   generalize ((k+1:Nat):Rat)=u at *
   generalize ((k+1+1:Nat):Rat)=v at *
   have c1:(a1:Rat)*u=a*ag:=by
    have:((a1:Rat)*u-a*ag)*T=0:=by grind
    rcases Rat.mul_eq_zero.1 this with h|h
    . grind
    . exact absurd h ht
   have c2:(a2:Rat)*v=a1*ag:=by
    have:((a2:Rat)*v-a1*ag)*T=0:=by grind
    rcases Rat.mul_eq_zero.1 this with h|h
    . grind
    . exact absurd h ht
   have huv:u*v≠0:=by
    intro h;rcases Rat.mul_eq_zero.1 h with h|h
    . exact hk1R h
    . exact hk2R h
   have hq:=Rat.div_mul_cancel (a:=(n*ag)*(n*ag)) (b:=u*v) huv;generalize (n*ag)*(n*ag)/(u*v)=q at *
   have:((n:Rat)*n*(a2:Rat)-a*q)*(u*v)=0:=by
    have e1:((n:Rat)*n*(a2:Rat)-a*q)*(u*v)=n*n*(a2*v)*u-a*(q*(u*v)):=by grind
    rw [e1,hq,c2];have e2:(n:Rat)*n*(a1*ag)*u=n*n*ag*(a1*u):=by grind
    rw [e2,c1];grind
   rcases Rat.mul_eq_zero.1 this with h|h
   . grind
   . exact absurd h huv
  have fin:∀ X:Int,(X:Rat)=(a2:Rat)*hr m (k+2) ((n*ag)*(n*ag)) ->
   ((a-n*n*X:Int):Rat)=(a:Rat)*hr (m+1) k ((n*ag)*(n*ag)):=by
   intro X hX;simp only [Rat.intCast_sub,Rat.intCast_mul,hX,hr];have:(n:Rat)*n*(a2*hr m (k+2) ((n*ag)*(n*ag)))=(n*n*a2)*hr m (k+2) ((n*ag)*(n*ag)):=by grind
   rw [this,key];grind
  constructor
  . have e:eH (2*m+1+1+1) k a=a::a1::eH (2*m+1) (k+1+1) a2:=by
     simp only [eH,ha1,ha2]
    rw [e];simp only [alt];exact fin _ i.1
  . have e:eH (2*m+1+1+2) k a=a::a1::eH (2*m+2) (k+1+1) a2:=by
     simp only [eH,ha1,ha2]
    rw [e];simp only [alt];exact fin _ i.2
theorem Ew:mX 68 0 L0=true:=by decide +kernel
theorem Ee:(L0*th%(fZ*((0+1:Nat):Int))==0&&mX 68 1 (L0*th/(fZ*((0+1:Nat):Int))))=true:=by decide +kernel
theorem IG (n:Nat):pc n=hr 34 0 ((n*ag)*(n*ag)):=by
 have h:=(oP 34 0 L0 n Ew).2;have e:((ev cP n:Int):Rat)=(L0:Rat)*hr 34 0 ((n*ag)*(n*ag)):=by
  have:ev cP n=alt (eH (2*34+2) 0 L0) (n*n):=by
   unfold cP;rw [yg];unfold A0;rfl
  rw [this,h];rfl
 rw [<-gK] at e;have:(pc n-hr 34 0 ((n*ag)*(n*ag)))*(L0:Rat)=0:=by grind
 rcases Rat.mul_eq_zero.1 this with h|h
 . grind
 . exact absurd h mW
theorem FC (n:Nat):ps n=n*ag*hr 34 1 ((n*ag)*(n*ag)):=by
 have hx:=Ee;simp only [Bool.and_eq_true,beq_iff_eq] at hx;have h:=(oP 34 1 _ n hx.2).1;have s1:=iZ _ _ hx.1;generalize ha1:L0*th/(fZ*((0+1:Nat):Int))=a1 at *
 have r1:((a1*(fZ*((0+1:Nat):Int)):Int):Rat)=((L0*th:Int):Rat):=by rw [s1]
 have hl:(((0+1:Nat):Int):Rat)=1:=rfl;rw [Rat.intCast_mul,Rat.intCast_mul,Rat.intCast_mul,hl,Rat.mul_one,<-pQ] at r1;have ht:(fZ:Rat)≠0:=by decide +kernel
 have c1:(a1:Rat)=L0*ag:=by
  generalize (fZ:Rat)=T at *
  have:((a1:Rat)-L0*ag)*T=0:=by grind
  rcases Rat.mul_eq_zero.1 this with h|h
  . grind
  . exact absurd h ht
 have e:((ev sP n:Int):Rat)=(L0:Rat)*(n*ag*hr 34 1 ((n*ag)*(n*ag))):=by
  have:ev sP n=n*alt (eH (2*34+1) 1 a1) (n*n):=by
   unfold sP;simp only [ev];rw [yg];unfold A0;simp only [eH,List.tail,ha1];grind
  rw [this,Rat.intCast_mul,h,c1];simp only [Rat.intCast_natCast];grind
 rw [<-gZ] at e;have:(ps n-n*ag*hr 34 1 ((n*ag)*(n*ag)))*(L0:Rat)=0:=by grind
 rcases Rat.mul_eq_zero.1 this with h|h
 . grind
 . exact absurd h mW
attribute [irreducible] hr ag
end Alm
namespace Alm
theorem uE (a b:Nat) (h:b<=a):((a-b:Nat):Rat)=(a:Rat)-(b:Rat):=by
 have e:((a-b+b:Nat):Rat)=(a:Rat):=by rw [Nat.sub_add_cancel h]
 rw [Rat.natCast_add] at e;grind
def W:Nat:=2^256
theorem rU:0<W:=by decide +kernel
def mulN (A B:Nat):Nat :=
 (A*B-(2^64*((A/2^64%2^64)*(B%2^64)+(A%2^64)*(B/2^64%2^64))+(A%2^64)*(B%2^64)))/W
theorem xV (a b c d:Nat) (ha:a<2^64) (hb:b<2^64) (hc:c<2^64) (hd:d<2^64) :
 2^64*(a*d+b*c)+b*d<W:=by
 have h1:a*d<=2^64*2^64:=Nat.mul_le_mul (by omega) (by omega)
 have h2:b*c<=2^64*2^64:=Nat.mul_le_mul (by omega) (by omega)
 have h3:b*d<=2^64*2^64:=Nat.mul_le_mul (by omega) (by omega)
 unfold W;omega
theorem yF (A B:Nat):mulN A B*W<=A*B/\A*B<(mulN A B+2)*W:=by
 have hr:=xV (A/2^64%2^64) (A%2^64) (B/2^64%2^64) (B%2^64) (Nat.mod_lt _ (by decide)) (Nat.mod_lt _ (by decide)) (Nat.mod_lt _ (by decide)) (Nat.mod_lt _ (by decide))
 unfold mulN;generalize 2^64*((A/2^64%2^64)*(B%2^64)+(A%2^64)*(B/2^64%2^64))+(A%2^64)*(B%2^64)=R at *
 generalize A*B=P;have hW:=rU;generalize W=V at *
 have h1:=Nat.div_mul_le_self (P-R) V;have h2:=Nat.lt_div_mul_add (a:=P-R) hW
 constructor
 . omega
 . have:((P-R)/V+2)*V=(P-R)/V*V+V+V:=by grind
   omega
theorem fD (A B:Nat) (hA:A<W) (hB:B<=W):mulN A B<=A:=by
 have h:=(yF A B).1;have h2:A*B<=A*W:=Nat.mul_le_mul_left A hB;exact Nat.le_of_mul_le_mul_right (Nat.le_trans h h2) rU
def aX:Nat->Nat->Nat->Nat
 | 0,_,_=>0
 | m+1,j,Y=>Y/((j+1)*(j+2))-mulN (Y/((j+1)*(j+2))) (aX m (j+2) Y)
theorem uS (m j Y:Nat) (hY:Y<W):aX m j Y<=Y:=by
 cases m with
 | zero=>simp [aX]
 | succ m=>simp only [aX];have:=Nat.div_le_self Y ((j+1)*(j+2));omega
theorem W_d:(W:Rat)*aL=1:=by
 have h:=sW;have e:(W:Rat)=((2^256:Int):Rat):=by unfold W;decide +kernel
 rw [e];grind
theorem Ch (A B:Nat):(mulN A B:Rat)*aL<=(A*aL)*(B*aL)/\(A*aL)*(B*aL)<=(mulN A B:Rat)*aL+2*aL:=by
 obtain ⟨h1,h2⟩:=yF A B;have g1:((mulN A B*W:Nat):Rat)<=((A*B:Nat):Rat):=bF _ _ h1;have g2:((A*B:Nat):Rat)<=(((mulN A B+2)*W:Nat):Rat):=bF _ _ (by omega)
 have e2:((mulN A B+2:Nat):Rat)=(mulN A B:Rat)+2:=by norm_cast
 rw [Rat.natCast_mul,Rat.natCast_mul] at g1 g2;rw [e2] at g2;generalize (mulN A B:Rat)=m at *
 have hw:=W_d;have hd:=dm;generalize (W:Rat)=w at *
 generalize aL=d at *
 have hdd:0<=d*d:=aj d;have k1:=Rat.mul_le_mul_of_nonneg_right g1 hdd;have k2:=Rat.mul_le_mul_of_nonneg_right g2 hdd;have e1:m*w*(d*d)=m*d*(w*d):=by grind
 have e3:(m+2)*w*(d*d)=(m+2)*d*(w*d):=by grind
 rw [e1,hw] at k1;rw [e3,hw] at k2
 constructor<;>grind
theorem Eh (Y D:Nat) (hD:0<D) (y:Rat):((Y/D:Nat):Rat)*D*aL<=Y*aL/\Y*aL<=((Y/D:Nat):Rat)*D*aL+D*aL:=by
 have h1:=Nat.div_mul_le_self Y D;have h2:=Nat.lt_div_mul_add (a:=Y) hD;have g1:((Y/D*D:Nat):Rat)<=(Y:Rat):=bF _ _ h1;have g2:(Y:Rat)<=((Y/D*D+D:Nat):Rat):=bF _ _ (by omega)
 rw [Rat.natCast_mul] at g1;rw [Rat.natCast_add,Rat.natCast_mul] at g2;have hd:=dm;have k1:=Rat.mul_le_mul_of_nonneg_right g1 (show 0<=aL by grind)
 have k2:=Rat.mul_le_mul_of_nonneg_right g2 (show 0<=aL by grind)
 exact ⟨by grind,by grind⟩
def PiN:Nat:=3*2^256+0x243F6A8885A308D313198A2E03707344A4093822299F31D0082EFA98EC4E6C89
def aM (n:Nat):Nat:=n*PiN/10800000
theorem nG:0<ag/\ag*2700000<=4/5:=by
 unfold ag;constructor<;>decide +kernel
theorem Da:-aL<=(PiN:Rat)*aL-ag*10800000/\(PiN:Rat)*aL-ag*10800000<=aL:=by
 unfold ag aL;constructor<;>decide +kernel
theorem zM (n:Nat) (h:n<=2700000):-(2*aL)<=(aM n:Rat)*aL-n*ag/\(aM n:Rat)*aL-n*ag<=2*aL:=by
 have q:=Eh (n*PiN) 10800000 (by omega) 0
 have hp:=Da;have hd:=dm;have hn:(n:Rat)<=2700000:=by exact_mod_cast h
 have hn0:=ay n;unfold aM;rw [Rat.natCast_mul] at q;have e:((10800000:Nat):Rat)=10800000:=rfl;rw [e] at q;generalize ((n*PiN/10800000:Nat):Rat)=r at *
 generalize (PiN:Rat)=P at *
 generalize aL=d at *
 have t:=ax (n:Rat) (P*d-ag*10800000) 2700000 d (by grind) hn hp.1 hp.2
 constructor<;>grind
theorem lN (n:Nat) (h:n<=2700000):aM n<W:=by
 have:n*PiN<=2700000*PiN:=Nat.mul_le_mul_right _ h;have h2:2700000*PiN<10800000*W:=by decide +kernel
 unfold aM;apply Nat.div_lt_of_lt_mul;omega
attribute [irreducible] mulN aX aM W PiN
def lH (n:Nat):Nat:=aM n-mulN (aM n) (aX 34 1 (mulN (aM n) (aM n)))
def lJ (n:Nat):Nat:=W-aX 34 0 (mulN (aM n) (aM n))
theorem yj (n:Nat) (h:n<=2700000):mulN (aM n) (aM n)<W/\0<=(n*ag)*(n*ag)/\(n*ag)*(n*ag)<=1 /\
 -(8*aL)<=(mulN (aM n) (aM n):Rat)*aL-(n*ag)*(n*ag)/\(mulN (aM n) (aM n):Rat)*aL-(n*ag)*(n*ag)<=8*aL:=by
 have hr:=zM n h;have hl:=lN n h;have hm:=Ch (aM n) (aM n);have hlt:=fD (aM n) (aM n) hl (by omega)
 have hd:=dm;have hn:(n:Rat)<=2700000:=by exact_mod_cast h
 have hn0:=ay n;have ht:=nG;have x1:(n:Rat)*ag<=4/5:=by
  have:=Rat.mul_le_mul_of_nonneg_right hn (show 0<=ag by grind);grind
 have x0:0<=(n:Rat)*ag:=Rat.mul_nonneg hn0 (by grind)
 have hd1:aL<=1/100:=by unfold aL;decide +kernel
 generalize (mulN (aM n) (aM n):Rat)=M at *
 generalize (aM n:Rat)=X at *
 generalize (n:Rat)*ag=x at *
 have t:=ax (X*aL-x) (X*aL+x) (2*aL) 2 hr.1 hr.2 (by grind) (by grind)
 have t2:=ax x x (4/5) (4/5) (by grind) x1 (by grind) x1
 refine ⟨by omega,aj _,by grind,by grind,by grind⟩
attribute [irreducible] lH lJ
end Alm
namespace Alm
def SW:Nat:=2^224
def ones:Nat->Nat
 | 0=>0
 | k+1=>1+SW*ones k
def Ja:Nat:=2^140
def Ih:Nat:=2^162-2^141
def chk (O X:Nat):Bool:=(((X+Ja*O) &&& (Ih*O))+Ih*O) &&& (2^162*O)==2^162*O
end Alm
namespace Alm
def F96:Nat:=2^96
def rs1:Nat:=23046538269650701392778
def rc1:Nat:=79228162514260985610427347966
def rsT:Nat:=46093073939162458779889859
def rcT:Nat:=79228149106332249358948278227
def st1 (p:Nat × Nat):Nat × Nat:=((p.1*rc1-p.2*rs1)/F96,(p.2*rc1+p.1*rs1)/F96)
def stT (p:Nat × Nat):Nat × Nat:=((p.1*rcT-p.2*rsT)/F96,(p.2*rcT+p.1*rsT)/F96)
theorem GI (p:Nat × Nat):st1 p=((p.1*rc1-p.2*rs1)/F96,(p.2*rc1+p.1*rs1)/F96):=rfl
attribute [irreducible] st1 stT
def tab:Nat->Nat × Nat->List (Nat × Nat)
 | 0,_=>[]
 | k+1,p=>p::tab k (st1 p)
def look:Nat->Nat × Nat->Nat × Nat->Nat->Bool
 | 0,_,_,_=>true
 | q+1,p,t,O=>chk O (p.2*t.1+p.1*t.2)&&chk O (p.1*t.1-p.2*t.2)&&look q (stT p) t O
end Alm
namespace Alm
def e96:Rat:=1/((2^96:Int):Rat)
theorem Iy:(F96:Rat)*e96=1:=by unfold F96 e96;decide +kernel
theorem lM:0<e96:=by unfold e96;decide +kernel
theorem kM:e96<=1/1000000000:=by unfold e96;decide +kernel
theorem EE:-e96<=(rc1:Rat)*e96-c1/\(rc1:Rat)*e96-c1<=e96:=by
 unfold e96 c1 rc1 c1n dd tp;constructor<;>decide +kernel
theorem Ec:-e96<=(rs1:Rat)*e96-s1/\(rs1:Rat)*e96-s1<=e96:=by
 unfold e96 s1 rs1 s1n dd tp;constructor<;>decide +kernel
theorem Im:0<s1/\s1<=1/1000000:=by unfold s1 s1n dd tp;constructor<;>decide +kernel
theorem H9:0<c1/\c1<=1:=by unfold c1 c1n dd tp;constructor<;>decide +kernel
def lu (p:Nat × Nat) (n:Nat) (e:Rat):Prop :=
 (-e<=(p.1:Rat)*e96-zc n/\(p.1:Rat)*e96-zc n<=e)/\(-e<=(p.2:Rat)*e96-zs n/\(p.2:Rat)*e96-zs n<=e)
theorem tQ (X:Nat):((X/F96:Nat):Rat)*e96<=X*(e96*e96)/\X*(e96*e96)<=((X/F96:Nat):Rat)*e96+e96:=by
 have hF:0<F96:=by decide +kernel
 have h1:=Nat.div_mul_le_self X F96;have h2:=Nat.lt_div_mul_add (a:=X) hF;have g1:=bF _ _ h1;have g2:=bF _ _ (Nat.le_of_lt h2);rw [Rat.natCast_mul] at g1;rw [Rat.natCast_add,Rat.natCast_mul] at g2;have he:=Iy;have hp:=lM;have hpp:0<=e96*e96:=aj _;generalize ((X/F96:Nat):Rat)=q at *
 generalize (F96:Rat)=F at *
 have k1:=Rat.mul_le_mul_of_nonneg_right g1 hpp;have k2:=Rat.mul_le_mul_of_nonneg_right g2 hpp;have e1:q*F*(e96*e96)=q*e96*(F*e96):=by grind
 have e2:(q*F+F)*(e96*e96)=(q*e96+e96)*(F*e96):=by grind
 rw [e1,he] at k1;rw [e2,he] at k2
 constructor<;>grind
theorem BG (p:Nat × Nat) (n r C S:Nat) (e:Rat) (he0:0<=e) (he:e<=1/100) (h:lu p n e)
 (hC:-(2*e96)<=(C:Rat)*e96-zc r/\(C:Rat)*e96-zc r<=2*e96) (hS:-(2*e96)<=(S:Rat)*e96-zs r/\(S:Rat)*e96-zs r<=2*e96)
 (hs:0<=zs r) (hsub:p.2*S<=p.1*C) :
 lu ((p.1*C-p.2*S)/F96,(p.2*C+p.1*S)/F96) (n+r) (e*(1+zs r)+6*e96):=by
 obtain ⟨⟨a1,a2⟩,⟨b1,b2⟩⟩:=h;have d1:=tQ (p.1*C-p.2*S);have d2:=tQ (p.2*C+p.1*S);rw [uE _ _ hsub,Rat.natCast_mul,Rat.natCast_mul] at d1;rw [Rat.natCast_add,Rat.natCast_mul,Rat.natCast_mul] at d2;obtain ⟨za1,za2⟩:=Ht n r;have hep:=lM;have hes:=kM;have zr:=ll r;have zr2:=dI r;have zn:=ll n;have zn2:=dI n;unfold lu;simp only [];rw [za1,za2];generalize (((p.1*C-p.2*S)/F96:Nat):Rat)=P1 at *
 generalize (((p.2*C+p.1*S)/F96:Nat):Rat)=P2 at *
 generalize (p.1:Rat)=x at *
 generalize (p.2:Rat)=y at *
 generalize (C:Rat)=c at *
 generalize (S:Rat)=s at *
 generalize zc n=u at *
 generalize zs n=v at *
 generalize zc r=k at *
 generalize zs r=l at *
 generalize e96=d at *
 have q1:x*c*(d*d)=(x*d)*(c*d):=by grind
 have q2:y*s*(d*d)=(y*d)*(s*d):=by grind
 have q3:y*c*(d*d)=(y*d)*(c*d):=by grind
 have q4:x*s*(d*d)=(x*d)*(s*d):=by grind
 have f1:(x*c-y*s)*(d*d)=(x*d)*(c*d)-(y*d)*(s*d):=by grind
 have f2:(y*c+x*s)*(d*d)=(y*d)*(c*d)+(x*d)*(s*d):=by grind
 rw [f1] at d1;rw [f2] at d2;obtain ⟨A,hA⟩:∃ A,A=x*d-u:=⟨_,rfl⟩;obtain ⟨B,hB⟩:∃ B,B=y*d-v:=⟨_,rfl⟩;obtain ⟨G,hG⟩:∃ G,G=c*d-k:=⟨_,rfl⟩;obtain ⟨H,hH⟩:∃ H,H=s*d-l:=⟨_,rfl⟩;rw [<-hA] at a1 a2;rw [<-hB] at b1 b2;rw [<-hG] at hC;rw [<-hH] at hS;have ex:x*d=u+A:=by grind
 have ey:y*d=v+B:=by grind
 have ec:c*d=k+G:=by grind
 have es:s*d=l+H:=by grind
 rw [ex,ey,ec,es] at d1 d2;clear hA hB hG hH ex ey ec es f1 f2 q1 q2 q3 q4;have t1:=ax A k e 1 a1 a2 (by grind) (by grind)
 have t2:=ax B l e l b1 b2 (by grind) (by grind)
 have t3:=ax (u+A) G (101/100) (2*d) (by grind) (by grind) hC.1 hC.2
 have t4:=ax (v+B) H (101/100) (2*d) (by grind) (by grind) hS.1 hS.2
 have t5:=ax B k e 1 b1 b2 (by grind) (by grind)
 have t6:=ax A l e l a1 a2 (by grind) (by grind)
 have t7:=ax (v+B) G (101/100) (2*d) (by grind) (by grind) hC.1 hC.2
 have t8:=ax (u+A) H (101/100) (2*d) (by grind) (by grind) hS.1 hS.2
 refine ⟨⟨?_,?_⟩,⟨?_,?_⟩⟩<;>grind
end Alm
namespace Alm
theorem wJ:bH<=e96:=by unfold bH aL e96;decide +kernel
theorem qm (n:Nat) (h:n<=2700000):49/100<=zc n:=by
 obtain ⟨_,h2⟩:=near n h;obtain ⟨_,y0,y1,_,_⟩:=yj n h;have hh:=(F8 34 0 _ y0 y1).1;rw [<-IG n] at hh;have k1:=wJ;have k2:=kM;clear y0 y1;generalize pc n=a at *
 generalize zc n=b at *
 generalize bH=c at *
 generalize e96=d at *
 grind
end Alm
namespace Alm
theorem Gm:zc 1=c1:=by rw [show (1:Nat)=0+1 from rfl,eG,iC,fK];grind
theorem vL:zs 1=s1:=by rw [show (1:Nat)=0+1 from rfl,dE,iC,fK];grind
theorem uD:ag*2000<=59/100000:=by unfold ag;decide +kernel
theorem yP:bH<=1/1000000000:=by unfold bH aL;decide +kernel
theorem BO (n:Nat) (h:n<=2000):zs n<=6/10000:=by
 obtain ⟨h1,_⟩:=near n (by omega)
 obtain ⟨_,y0,y1,_,_⟩:=yj n (by omega)
 have hh:=(F8 34 1 _ y0 y1);have ht:=nG.1;have hx:0<=(n:Rat)*ag:=Rat.mul_nonneg (ay n) (Rat.le_of_lt ht);have hn:(n:Rat)<=2000:=by exact_mod_cast h
 have hx2:=Rat.mul_le_mul_of_nonneg_right hn (Rat.le_of_lt ht);have hx3:=uD;have hm:=Rat.mul_nonneg hx (show 0<=1-hr 34 1 ((n*ag)*(n*ag)) by have:=hh.2;grind)
 have e:=FC n;have k:=yP;clear y0 y1 hh;generalize hr 34 1 ((n*ag)*(n*ag))=H at *
 generalize ps n=a at *
 generalize zs n=b at *
 generalize (n:Rat)*ag=x at *
 grind
theorem GN (a b c d:Nat) (A B C D:Rat) (h1:(a:Rat)*e96<=A) (h2:(b:Rat)*e96<=B) (h3:C<=(c:Rat)*e96) (h4:D<=(d:Rat)*e96) (hC:0<=C) (hD:0<=D) (h:A*B<=C*D):a*b<=c*d:=by
 have hp:=lM;have ha:=ay a;have hb:=ay b;have pa:0<=(a:Rat)*e96:=Rat.mul_nonneg ha (Rat.le_of_lt hp);have pb:0<=(b:Rat)*e96:=Rat.mul_nonneg hb (Rat.le_of_lt hp);have k1:=Rat.mul_le_mul_of_nonneg_right h1 pb;have k2:=Rat.mul_le_mul_of_nonneg_left h2 (show 0<=A by grind)
 have k3:=Rat.mul_le_mul_of_nonneg_right h3 hD;have k4:=Rat.mul_le_mul_of_nonneg_left h4 (show 0<=(c:Rat)*e96 by grind)
 have hle:((a*b:Nat):Rat)<=((c*d:Nat):Rat):=by
  rw [Rat.natCast_mul,Rat.natCast_mul];have hpp:(0:Rat)<e96*e96:=Rat.mul_pos hp hp;apply Rat.le_of_mul_le_mul_right (c:=e96*e96) _ hpp;generalize (a:Rat)=a at *
  generalize (b:Rat)=b at *
  generalize (c:Rat)=c at *
  generalize (d:Rat)=d at *
  generalize e96=e at *
  have e1:a*b*(e*e)=a*e*(b*e):=by grind
  have e2:c*d*(e*e)=c*e*(d*e):=by grind
  grind
 exact_mod_cast hle
theorem CX (p:Nat × Nat) (n:Nat) (hn:n<2000) (h:lu p n (7*n*e96)):lu (st1 p) (n+1) (7*(n+1:Nat)*e96):=by
 have hp:=lM;have hs:=kM;have hc:=EE;have hs1:=Ec;have b1:=Im;have b2:=H9;have zsn:=BO n (by omega)
 have zcn:=qm n (by omega)
 have hnn:(n:Rat)<=2000:=by exact_mod_cast (show n<=2000 by omega)
 have hn0:=ay n;have he0:0<=7*(n:Rat)*e96:=Rat.mul_nonneg (by grind) (by grind)
 have he1:7*(n:Rat)*e96<=14000*e96:=Rat.mul_le_mul_of_nonneg_right (by grind) (by grind)
 have c1v:9/10<=c1:=by have:=sO;have:s1*s1<=1/1000000*(1/1000000):=bT s1 _ (by grind) (by grind);rcases Rat.le_total (a:=9/10) (b:=c1) with h|h;· exact h
                       . have:=bT c1 (9/10) (by grind) h;grind
 have g:=BG p n 1 rc1 rs1 (7*n*e96) he0 (by grind) h (by rw [Gm];constructor<;>grind) (by rw [vL];constructor<;>grind) (by rw [vL];grind)
  (by
   obtain ⟨⟨a1,a2⟩,⟨a3,a4⟩⟩:=h;apply GN p.2 rs1 p.1 rc1 (1/100) (1/100) (1/10) (1/10)<;>grind)
 rw [vL] at g;have hle:7*(n:Rat)*e96*(1+s1)+6*e96<=7*(n+1:Nat)*e96:=by
  have e1:((n+1:Nat):Rat)=(n:Rat)+1:=by norm_cast
  rw [e1];have m:=Rat.mul_le_mul_of_nonneg_left b1.2 he0;grind
 have e2:=GI p;rw [e2];generalize 7*(n:Rat)*e96*(1+s1)+6*e96=E at *
 unfold lu at *
 obtain ⟨⟨a1,a2⟩,⟨a3,a4⟩⟩:=g;refine ⟨⟨?_,?_⟩,⟨?_,?_⟩⟩<;>grind
theorem dW (k m:Nat) (p:Nat × Nat) (hk:m+k<=2000) (h:lu p m (7*m*e96)):∀ x∈tab k p,∃ j,m<=j/\j<2000/\lu x j (7*j*e96):=by
 induction k generalizing m p with
 | zero=>simp [tab]
 | succ k ih =>
  intro x hx;simp only [tab,List.mem_cons] at hx;rcases hx with rfl|hx
  . exact ⟨m,Nat.le_refl _,by omega,h⟩
  . obtain ⟨j,h1,h2,h3⟩:=ih (m+1) (st1 p) (by omega) (CX p m (by omega) h) x hx
    exact ⟨j,by omega,h2,h3⟩
end Alm
namespace Alm
end Alm
namespace Alm
end Alm
namespace Alm
def gV (a b:Nat):Nat:=(a/2147483648)*(b/2147483648)+(a/2147483648)*(b%2147483648)/2147483648+(a%2147483648)*(b/2147483648)/2147483648
theorem AU (a b:Nat):gV a b*2^62<=a*b/\a*b<(gV a b+3)*2^62:=by
 have ha:=Nat.div_add_mod a 2147483648;have hb:=Nat.div_add_mod b 2147483648;have la:=Nat.mod_lt a (show 2147483648>0 by decide)
 have lb:=Nat.mod_lt b (show 2147483648>0 by decide)
 unfold gV;generalize a/2147483648=a1 at *
 generalize a%2147483648=a0 at *
 generalize b/2147483648=b1 at *
 generalize b%2147483648=b0 at *
 subst ha hb;have h1:=Nat.div_add_mod (a1*b0) 2147483648;have h2:=Nat.div_add_mod (a0*b1) 2147483648;have l1:=Nat.mod_lt (a1*b0) (show 2147483648>0 by decide)
 have l2:=Nat.mod_lt (a0*b1) (show 2147483648>0 by decide)
 have h0:a0*b0<=2147483647*2147483647:=Nat.mul_le_mul (by omega) (by omega)
 have e:(2147483648*a1+a0)*(2147483648*b1+b0)=4611686018427387904*(a1*b1)+2147483648*(a1*b0)+2147483648*(a0*b1)+a0*b0:=by grind
 rw [e];generalize a1*b0/2147483648=q1 at *
 generalize a1*b0%2147483648=r1 at *
 generalize a0*b1/2147483648=q2 at *
 generalize a0*b1%2147483648=r2 at *
 generalize a1*b0=m1 at *
 generalize a0*b1=m2 at *
 generalize a1*b1=m3 at *
 generalize a0*b0=m4 at *
 constructor<;>omega
theorem su (a b:Nat) (h:b<=2^62):gV a b<=a:=by
 have h1:=(AU a b).1;have h2:a*b<=a*2^62:=Nat.mul_le_mul_left _ h;exact Nat.le_of_mul_le_mul_right (Nat.le_trans h1 h2) (by decide)
attribute [irreducible] gV
def xq (r:Nat):Nat:=r*2620088056*512+r*658911831/4194304
theorem Ay (r:Nat) (h:r<=2700000):xq r<=2^62:=by unfold xq;omega
def zm (r:Nat):Nat:=gV (xq r) (xq r)
theorem xS (r:Nat) (h:r<=2700000):zm r<=2^62:=by unfold zm;have:=su (xq r) (xq r) (Ay r h);have:=Ay r h;omega
def aN:Nat->Nat->Nat->Nat->Int
 | 0,T,_,_=>T
 | m+1,T,s,j=>T-aN m (gV T s/((j+1)*(j+2))) s (j+2)
theorem En (m T s j:Nat):aN (m+1) T s j=T-aN m (gV T s/((j+1)*(j+2))) s (j+2):=rfl
def GG (r:Nat):Int:=aN 34 (xq r) (zm r) 1
def GK (r:Nat):Int:=aN 34 (2^62) (zm r) 0
end Alm
namespace Alm
