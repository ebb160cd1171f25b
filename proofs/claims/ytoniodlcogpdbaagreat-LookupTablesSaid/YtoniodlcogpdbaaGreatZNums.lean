/- Plain numbers: powers of a rational point of the unit circle, and the Taylor polynomials that are near them. -/

set_option linter.unusedVariables false
set_option linter.unusedSimpArgs false
namespace Alm
def tp:Int:=296274873071786043043638596174445290133440682168229591076874812683228118407787832338
def th:Int:=621333442612237862514429719835185485259647600872884162104361705958491964691833831490694480
def c1n:Int:=2^600-tp*tp
def s1n:Int:=2^301*tp
def dd:Int:=2^600+tp*tp
theorem NM:c1n*c1n+s1n*s1n=dd*dd:=by decide +kernel
theorem H8:0<dd:=by decide +kernel
def ev:List Int->Int->Int
 | [],_=>0
 | a::l,n=>a+n*ev l n
def yF:List Int->List Int->List Int
 | [],m=>m
 | a::l,[]=>a::l
 | a::l,b::m=>(a+b)::yF l m
theorem Bn (l m:List Int) (n:Int):ev (yF l m) n=ev l n+ev m n:=by
 induction l generalizing m with
 | nil=>simp [yF,ev]
 | cons a l ih =>
  cases m with
  | nil=>simp [yF,ev]
  | cons b m=>simp only [yF,ev,ih];grind
def lm (c:Int):List Int->List Int
 | []=>[]
 | a::l=>c*a::lm c l
theorem yc (c:Int) (l:List Int) (n:Int):ev (lm c l) n=c*ev l n:=by
 induction l with
 | nil=>simp [lm,ev]
 | cons a l ih=>simp only [lm,ev,ih];grind
def tX:List Int->List Int
 | []=>[]
 | a::l=>let r:=tX l;yF (a::r) r
theorem yS (l:List Int) (n:Int):ev (tX l) n=ev l (n+1):=by
 induction l with
 | nil=>simp [tX,ev]
 | cons a l ih=>simp only [tX,Bn,ev,ih];grind
def MV:List Int->Int->Int
 | [],_=>0
 | a::l,m=>(a.natAbs:Int)+m*MV l m
theorem yJ (n m x y:Int) (h0:0<=n) (h:n<=m) (hxy:(x.natAbs:Int)<=y):((n*x).natAbs:Int)<=m*y:=by
 rw [Int.natAbs_mul,Int.natCast_mul];have h1:(n.natAbs:Int)=n:=by omega
 rw [h1];have a1:=Int.mul_le_mul_of_nonneg_right h (show (0:Int)<=(x.natAbs:Int) by omega)
 have a2:=Int.mul_le_mul_of_nonneg_left hxy (show 0<=m by omega)
 omega
theorem WI (l:List Int) (n m:Int) (h0:0<=n) (h:n<=m):((ev l n).natAbs:Int)<=MV l m:=by
 induction l with
 | nil=>simp [ev,MV]
 | cons a l ih =>
  have:=yJ n m _ _ h0 h ih;simp only [ev,MV];omega
def lN:Int:=2^320
def jK:Nat->Nat->Int->List Int
 | 0,_,_=>[]
 | m+1,k,a=>a::jK m (k+1) (a*th/(lN*((k+1:Nat):Int)))
def fact:Nat->Nat
 | 0=>1
 | n+1=>(n+1)*fact n
def L0:Int:=2^(320*69)*(fact 69:Nat)
def A0:List Int:=jK 70 0 L0
def Ed:List Int->List Int
 | []=>[]
 | [a]=>[a]
 | a::_::l=>a::0::lm (-1) (Ed l)
def alt:List Int->Int->Int
 | [],_=>0
 | [a],_=>a
 | a::_::l,y=>a-y*alt l y
theorem IM (l:List Int) (n:Int):ev (Ed l) n=alt l (n*n):=by
 induction l using Ed.induct with
 | case1=>simp [Ed,alt,ev]
 | case2 a=>simp [Ed,alt,ev]
 | case3 a b l ih=>simp only [Ed,alt,ev,yc,ih];grind
def sP:List Int:=0::Ed A0.tail
def cP:List Int:=Ed A0
def dS:List Int:=yF (lm dd (tX sP)) (lm (-1) (yF (lm c1n sP) (lm s1n cP)))
def dC:List Int:=yF (lm dd (tX cP)) (yF (lm (-c1n) cP) (lm s1n sP))
def M0:Int:=2700000
theorem Ru:MV dS M0*2^256<=dd*L0:=by decide +kernel
theorem PD:MV dC M0*2^256<=dd*L0:=by decide +kernel
theorem Md:((ev sP M0-ev cP M0).natAbs:Int)*2^256<=L0:=by decide +kernel
theorem start:ev sP 0=0/\ev cP 0=L0:=by decide +kernel
theorem Bz:0<L0:=by decide +kernel
attribute [irreducible] lN L0 A0 tp th c1n s1n dd sP cP
end Alm
namespace Alm
def c1:Rat:=(c1n:Rat)/(dd:Rat)
def s1:Rat:=(s1n:Rat)/(dd:Rat)
theorem U4:(0:Rat)<(dd:Rat):=by exact_mod_cast H8
theorem Hz:(dd:Rat)≠0:=by have:=U4;grind
theorem GZ:c1*(dd:Rat)=(c1n:Rat):=Rat.div_mul_cancel Hz
theorem Gy:s1*(dd:Rat)=(s1n:Rat):=Rat.div_mul_cancel Hz
theorem NL:c1*c1+s1*s1=1:=by
 have h:((c1n*c1n+s1n*s1n:Int):Rat)=((dd*dd:Int):Rat):=by rw [NM]
 simp only [Rat.intCast_add,Rat.intCast_mul] at h;rw [<-GZ,<-Gy] at h;have h2:(c1*c1+s1*s1-1)*((dd:Rat)*dd)=0:=by grind
 rcases Rat.mul_eq_zero.1 h2 with h3|h3
 . grind
 . rcases Rat.mul_eq_zero.1 h3 with h4|h4<;>exact absurd h4 Hz
def zz:Nat->Rat × Rat
 | 0=>(1,0)
 | n+1=>((zz n).1*c1-(zz n).2*s1,(zz n).2*c1+(zz n).1*s1)
def zc (n:Nat):Rat:=(zz n).1
def zs (n:Nat):Rat:=(zz n).2
theorem jb:zc 0=1:=rfl
theorem gM:zs 0=0:=rfl
theorem fV (n:Nat):zc (n+1)=zc n*c1-zs n*s1:=rfl
theorem fT (n:Nat):zs (n+1)=zs n*c1+zc n*s1:=rfl
theorem ER (n:Nat):zc n*zc n+zs n*zs n=1:=by
 induction n with
 | zero=>simp [jb,gM];grind
 | succ n ih=>rw [fV,fT];have:=NL;grind
theorem Yr (m n:Nat):zc (m+n)=zc m*zc n-zs m*zs n/\zs (m+n)=zs m*zc n+zc m*zs n:=by
 induction n with
 | zero=>simp [jb,gM];grind
 | succ n ih=>rw [<-Nat.add_assoc,fV,fT,fV,fT,ih.1,ih.2];grind
theorem bG (x:Rat):0<=x*x:=by
 rcases Rat.le_total (a:=0) (b:=x) with h|h
 . exact Rat.mul_nonneg h h
 . have:0<=(-x)*(-x):=Rat.mul_nonneg (by grind) (by grind)
   grind
theorem nA (x b:Rat) (hb:0<=b) (h:x*x<=b*b):-b<=x/\x<=b:=by
 constructor
 . rcases Rat.le_total (a:=-b) (b:=x) with h1|h1
   . exact h1
   . have h2:0<=(-b-x)*(-b-x):=bG _;rcases Rat.le_iff_lt_or_eq.1 h1 with h3|h3
     . have:0<(-b-x)*((-x)+b):=Rat.mul_pos (by grind) (by grind)
       grind
     . grind
 . rcases Rat.le_total (a:=x) (b:=b) with h1|h1
   . exact h1
   . rcases Rat.le_iff_lt_or_eq.1 h1 with h3|h3
     . have:0<(x-b)*(x+b):=Rat.mul_pos (by grind) (by grind)
       grind
     . grind
theorem gG (x b:Rat) (h1:-b<=x) (h2:x<=b):x*x<=b*b:=by
 have:0<=(b-x)*(b+x):=Rat.mul_nonneg (by grind) (by grind)
 grind
theorem lL (n:Nat):-1<=zs n/\zs n<=1:=by
 apply nA _ 1 (by decide);have:=ER n;have:=bG (zc n);grind
theorem qL (n:Nat):-1<=zc n/\zc n<=1:=by
 apply nA _ 1 (by decide);have:=ER n;have:=bG (zs n);grind
def ps (n:Nat):Rat:=(ev sP n:Rat)/(L0:Rat)
def pc (n:Nat):Rat:=(ev cP n:Rat)/(L0:Rat)
theorem qg:(0:Rat)<(L0:Rat):=by exact_mod_cast Bz
theorem yo:(L0:Rat)≠0:=by have:=qg;grind
theorem kR (n:Nat):ps n*(L0:Rat)=(ev sP n:Rat):=Rat.div_mul_cancel yo
theorem mM (n:Nat):pc n*(L0:Rat)=(ev cP n:Rat):=Rat.div_mul_cancel yo
def aO:Rat:=1/(2^256:Int)
theorem D6:aO*((2^256:Int):Rat)=1:=by
 unfold aO;apply Rat.div_mul_cancel;decide
theorem fG:0<aO:=by
 unfold aO;decide +kernel
theorem xV (x:Rat) (D P:Int) (hP:0<P) (hx:x*(P:Rat)=(D:Rat)) (h:(D.natAbs:Int)*2^256<=P):-aO<=x/\x<=aO:=by
 have hp:(0:Rat)<(P:Rat):=by exact_mod_cast hP
 have k1:D*2^256<=P:=by omega
 have k2:-P<=D*2^256:=by omega
 have e1:((D*2^256:Int):Rat)<=((P:Int):Rat):=by exact_mod_cast k1
 have e2:((-P:Int):Rat)<=((D*2^256:Int):Rat):=by exact_mod_cast k2
 rw [Rat.intCast_mul,<-hx] at e1 e2;rw [Rat.intCast_neg] at e2;have hq:=D6;have hd:=fG;generalize ((2^256:Int):Rat)=T at *
 generalize (P:Rat)=Q at *
 have e3:=Rat.mul_le_mul_of_nonneg_right e1 (show 0<=aO by grind)
 have e4:=Rat.mul_le_mul_of_nonneg_right e2 (show 0<=aO by grind)
 have e5:x*Q*T*aO=x*Q:=by grind
 rw [e5] at e3 e4
 constructor
 . apply Rat.le_of_mul_le_mul_right (c:=Q) _ hp;grind
 . apply Rat.le_of_mul_le_mul_right (c:=Q) _ hp;grind
theorem Tk (n:Nat) (h:n<2700000):-aO<=ps (n+1)-(ps n*c1+pc n*s1)/\ps (n+1)-(ps n*c1+pc n*s1)<=aO:=by
 apply xV _ (ev dS n) (dd*L0) (Int.mul_pos H8 Bz)
 . have e:ev dS n=dd*ev sP (n+1)-(c1n*ev sP n+s1n*ev cP n):=by
    simp only [dS,Bn,yc,yS];grind
   rw [e];simp only [Rat.intCast_sub,Rat.intCast_add,Rat.intCast_mul];rw [<-kR n,<-mM n,<-GZ,<-Gy];have e2:((ev sP ((n:Int)+1):Int):Rat)=ps (n+1)*(L0:Rat):=by rw [kR];norm_cast
   rw [e2];grind
 . have h1:=WI dS n M0 (by omega) (by unfold M0;omega)
   have h2:=Ru;omega
theorem Tz (n:Nat) (h:n<2700000):-aO<=pc (n+1)-(pc n*c1-ps n*s1)/\pc (n+1)-(pc n*c1-ps n*s1)<=aO:=by
 apply xV _ (ev dC n) (dd*L0) (Int.mul_pos H8 Bz)
 . have e:ev dC n=dd*ev cP (n+1)-(c1n*ev cP n-s1n*ev sP n):=by
    simp only [dC,Bn,yc,yS];grind
   rw [e];simp only [Rat.intCast_sub,Rat.intCast_mul];rw [<-kR n,<-mM n,<-GZ,<-Gy];have e2:((ev cP ((n:Int)+1):Int):Rat)=pc (n+1)*(L0:Rat):=by rw [mM];norm_cast
   rw [e2];grind
 . have h1:=WI dC n M0 (by omega) (by unfold M0;omega)
   have h2:=PD;omega
theorem grow (N es ec ds dc a b d:Rat) (hN:0<=N) (hu:a*a+b*b=1) (hd:ds*ds+dc*dc<=d*d)
 (h:es*es+ec*ec<=N*N*(d*d)) :
 (es*a+ec*b+ds)*(es*a+ec*b+ds)+(ec*a-es*b+dc)*(ec*a-es*b+dc)<=(N+1)*(N+1)*(d*d):=by
 rcases Rat.le_iff_lt_or_eq.1 hN with h0|h0
 ·
  have q1:=bG (es*a+ec*b-N*ds);have q2:=bG (ec*a-es*b-N*dc);have hu2:(es*a+ec*b)*(es*a+ec*b)+(ec*a-es*b)*(ec*a-es*b)=es*es+ec*ec:=by
   have:(es*a+ec*b)*(es*a+ec*b)+(ec*a-es*b)*(ec*a-es*b)=(es*es+ec*ec)*(a*a+b*b):=by grind
   rw [this,hu];grind
  apply Rat.le_of_mul_le_mul_left (c:=N) _ h0;rw [<-hu2] at h;generalize es*a+ec*b=u at *
  generalize ec*a-es*b=v at *
  clear hu2 hu;have m1:=Rat.mul_le_mul_of_nonneg_left h (show 0<=N+1 by grind)
  have m2:=Rat.mul_le_mul_of_nonneg_left hd (show 0<=N*(N+1) by exact Rat.mul_nonneg hN (by grind))
  grind
 . subst h0;have:es*es+ec*ec<=0:=by grind
   have h1:=bG es;have h2:=bG ec;have e1:es*es=0:=by grind
   have e2:ec*ec=0:=by grind
   have e3:es=0:=by rcases Rat.mul_eq_zero.1 e1 with h|h<;>exact h
   have e4:ec=0:=by rcases Rat.mul_eq_zero.1 e2 with h|h<;>exact h
   subst e3 e4;grind
def rF:Rat:=2*aO
theorem adp (x y:Rat) (hx:-aO<=x/\x<=aO) (hy:-aO<=y/\y<=aO):x*x+y*y<=rF*rF:=by
 have h1:=gG x _ hx.1 hx.2;have h2:=gG y _ hy.1 hy.2;have h3:=bG aO;unfold rF;grind
theorem Tw (n:Nat) (h:n<=2700000):(ps n-zs n)*(ps n-zs n)+(pc n-zc n)*(pc n-zc n)<=((n:Rat)*(n:Rat))*(rF*rF):=by
 induction n with
 | zero =>
  have e1:ps 0=0:=by unfold ps;rw [show ((0:Nat):Int)=0 from rfl,start.1];simp;grind
  have e2:pc 0=1:=by
   unfold pc;rw [show ((0:Nat):Int)=0 from rfl,start.2]
   have:=yo;rw [Rat.div_def,Rat.mul_inv_cancel _ this]
  rw [e1,e2,gM,jb];grind
 | succ n ih =>
  have ih:=ih (by omega)
  have hs:=Tk n (by omega)
  have hc:=Tz n (by omega)
  have g:=grow (n:Rat) (ps n-zs n) (pc n-zc n) (ps (n+1)-(ps n*c1+pc n*s1)) (pc (n+1)-(pc n*c1-ps n*s1)) c1 s1 rF (by exact_mod_cast Nat.zero_le n) NL (adp _ _ hs hc) ih
  have e1:(ps n-zs n)*c1+(pc n-zc n)*s1+(ps (n+1)-(ps n*c1+pc n*s1))=ps (n+1)-zs (n+1):=by rw [fT];grind
  have e2:(pc n-zc n)*c1-(ps n-zs n)*s1+(pc (n+1)-(pc n*c1-ps n*s1))=pc (n+1)-zc (n+1):=by rw [fV];grind
  rw [e1,e2] at g;have e3:((n+1:Nat):Rat)=(n:Rat)+1:=by norm_cast
  rw [e3];exact g
def bQ:Rat:=((2^26:Int):Rat)*aO
theorem near (n:Nat) (h:n<=2700000):(-bQ<=ps n-zs n/\ps n-zs n<=bQ)/\(-bQ<=pc n-zc n/\pc n-zc n<=bQ):=by
 have g:=Tw n h;have hn:(n:Rat)<=((2^25:Int):Rat):=by
  have:(n:Int)<=2^25:=by omega
  exact_mod_cast this
 have hn0:(0:Rat)<=(n:Rat):=by exact_mod_cast Nat.zero_le n
 have hd:=fG;have hb:0<=bQ:=by unfold bQ;exact Rat.mul_nonneg (by decide) (by grind)
 have hle:(n:Rat)*(n:Rat)*(rF*rF)<=bQ*bQ:=by
  have:=gG ((n:Rat)*rF) bQ (by
   have:=Rat.mul_nonneg hn0 (show 0<=rF by unfold rF;grind)
   grind) (by
   have:=Rat.mul_le_mul_of_nonneg_right hn (show 0<=rF by unfold rF;grind)
   unfold bQ;unfold rF at *
   have e:((2^26:Int):Rat)=((2^25:Int):Rat)*2:=by decide +kernel
   rw [e];grind)
  grind
 have q1:=bG (ps n-zs n);have q2:=bG (pc n-zc n);exact ⟨nA _ _ hb (by grind),nA _ _ hb (by grind)⟩
end Alm
namespace Alm
theorem aB (a b A B:Rat) (h1:-A<=a) (h2:a<=A) (h3:-B<=b) (h4:b<=B):-(A*B)<=a*b/\a*b<=A*B:=by
 have k1:0<=(A-a)*(B+b):=Rat.mul_nonneg (by grind) (by grind)
 have k2:0<=(A+a)*(B-b):=Rat.mul_nonneg (by grind) (by grind)
 have k3:0<=(A-a)*(B-b):=Rat.mul_nonneg (by grind) (by grind)
 have k4:0<=(A+a)*(B+b):=Rat.mul_nonneg (by grind) (by grind)
 constructor<;>grind
def hr:Nat->Nat->Rat->Rat
 | 0,_,_=>1
 | m+1,j,y=>1-y/(((j+1)*(j+2):Nat):Rat)*hr m (j+2) y
theorem Ep (n:Nat) (h:0<n):(0:Rat)<(n:Rat):=by exact_mod_cast h
theorem aD (n:Nat):(0:Rat)<=(n:Rat):=by exact_mod_cast Nat.zero_le n
theorem bT (m n:Nat) (h:m<=n):(m:Rat)<=(n:Rat):=by exact_mod_cast h
theorem iB (y:Rat) (D:Nat) (hD:2<=D) (h0:0<=y) (h1:y<=1):0<=y/(D:Rat)/\y/(D:Rat)<=1/2/\y/(D:Rat)*(D:Rat)=y:=by
 have hd:(2:Rat)<=(D:Rat):=by exact_mod_cast hD
 have hm:y/(D:Rat)*(D:Rat)=y:=Rat.div_mul_cancel (by grind)
 generalize y/(D:Rat)=z at *
 have hz:0<=z:=by
  rcases Rat.le_total (a:=0) (b:=z) with h|h
  . exact h
  . have:=Rat.mul_nonneg (show 0<=-z by grind) (show 0<=(D:Rat)-1 by grind)
    grind
 have h2:=Rat.mul_nonneg hz (show 0<=(D:Rat)-2 by grind)
 refine ⟨hz,by grind,hm⟩
theorem ou (m j:Nat) (y:Rat) (h0:0<=y) (h1:y<=1):1/2<=hr m j y/\hr m j y<=1:=by
 induction m generalizing j with
 | zero=>simp only [hr];grind
 | succ m ih =>
  have i:=ih (j+2);have q:=iB y ((j+1)*(j+2)) (by have:=Nat.mul_le_mul (show 1<=j+1 by omega) (show 2<=j+2 by omega);omega) h0 h1
  simp only [hr];generalize y/(((j+1)*(j+2):Nat):Rat)=z at *
  have:=aB z (hr m (j+2) y) (1/2) 1 (by grind) (by grind) (by grind) (by grind)
  have:=Rat.mul_nonneg q.1 (show 0<=hr m (j+2) y by grind)
  grind
def ak:Rat:=(th:Rat)/(lN:Rat)
def xc:Nat->Nat->Int->Bool
 | 0,_,_=>true
 | m+1,k,a=>(a*th%(lN*((k+1:Nat):Int))==0)&&xc m (k+1) (a*th/(lN*((k+1:Nat):Int)))
theorem oU (a d:Int) (h:a*th%d=0):(a*th/d)*d=a*th:=by
 have:=Int.emod_add_mul_ediv (a*th) d;have h2:d*(a*th/d)=a*th:=by omega
 rw [Int.mul_comm];exact h2
theorem zh:ak*(lN:Rat)=(th:Rat):=Rat.div_mul_cancel (by decide +kernel)
theorem Ac (m:Nat) (k:Nat) (a n:Int) (h:xc (2*m) k a=true) :
 ((alt (jK (2*m+1) k a) (n*n):Int):Rat)=(a:Rat)*hr m k ((n*ak)*(n*ak)) /\
 ((alt (jK (2*m+2) k a) (n*n):Int):Rat)=(a:Rat)*hr m k ((n*ak)*(n*ak)):=by
 induction m generalizing k a with
 | zero=>constructor<;>(simp [jK,alt,hr];try grind)
 | succ m ih =>
  have e0:2*(m+1)=2*m+1+1:=by omega
  rw [e0] at h ⊢
  simp only [xc,Bool.and_eq_true,beq_iff_eq] at h;obtain ⟨h1,h2,h3⟩:=h;have i:=ih (k+1+1) _ h3;have s1:=oU _ _ h1;have s2:=oU _ _ h2;generalize ha1:a*th/(lN*((k+1:Nat):Int))=a1 at *
  generalize ha2:a1*th/(lN*((k+1+1:Nat):Int))=a2 at *
  have r1:((a1*(lN*((k+1:Nat):Int)):Int):Rat)=((a*th:Int):Rat):=by rw [s1]
  have r2:((a2*(lN*((k+1+1:Nat):Int)):Int):Rat)=((a1*th:Int):Rat):=by rw [s2]
  simp only [Rat.intCast_mul,Rat.intCast_natCast] at r1 r2;rw [<-zh] at r1 r2;have ht:(lN:Rat)≠0:=by decide +kernel
  have hk1R:((k+1:Nat):Rat)≠0:=by have:=Ep (k+1) (by omega);grind
  have hk2R:((k+1+1:Nat):Rat)≠0:=by have:=Ep (k+1+1) (by omega);grind
  have key:(n:Rat)*n*(a2:Rat)=(a:Rat)*((n*ak)*(n*ak)/(((k+1)*(k+2):Nat):Rat)):=by
   have hD:(((k+1)*(k+2):Nat):Rat)=((k+1:Nat):Rat)*((k+1+1:Nat):Rat):=by
    rw [Rat.natCast_mul]
   rw [hD];generalize (lN:Rat)=T at *
   generalize ((k+1:Nat):Rat)=u at *
   generalize ((k+1+1:Nat):Rat)=v at *
   have c1:(a1:Rat)*u=a*ak:=by
    have:((a1:Rat)*u-a*ak)*T=0:=by grind
    rcases Rat.mul_eq_zero.1 this with h|h
    . grind
    . exact absurd h ht
   have c2:(a2:Rat)*v=a1*ak:=by
    have:((a2:Rat)*v-a1*ak)*T=0:=by grind
    rcases Rat.mul_eq_zero.1 this with h|h
    . grind
    . exact absurd h ht
   have huv:u*v≠0:=by
    intro h;rcases Rat.mul_eq_zero.1 h with h|h
    . exact hk1R h
    . exact hk2R h
   have hq:=Rat.div_mul_cancel (a:=(n*ak)*(n*ak)) (b:=u*v) huv;generalize (n*ak)*(n*ak)/(u*v)=q at *
   have:((n:Rat)*n*(a2:Rat)-a*q)*(u*v)=0:=by
    have e1:((n:Rat)*n*(a2:Rat)-a*q)*(u*v)=n*n*(a2*v)*u-a*(q*(u*v)):=by grind
    rw [e1,hq,c2];have e2:(n:Rat)*n*(a1*ak)*u=n*n*ak*(a1*u):=by grind
    rw [e2,c1];grind
   rcases Rat.mul_eq_zero.1 this with h|h
   . grind
   . exact absurd h huv
  have fin:∀ X:Int,(X:Rat)=(a2:Rat)*hr m (k+2) ((n*ak)*(n*ak)) ->
   ((a-n*n*X:Int):Rat)=(a:Rat)*hr (m+1) k ((n*ak)*(n*ak)):=by
   intro X hX;simp only [Rat.intCast_sub,Rat.intCast_mul,hX,hr];have:(n:Rat)*n*(a2*hr m (k+2) ((n*ak)*(n*ak)))=(n*n*a2)*hr m (k+2) ((n*ak)*(n*ak)):=by grind
   rw [this,key];grind
  constructor
  . have e:jK (2*m+1+1+1) k a=a::a1::jK (2*m+1) (k+1+1) a2:=by
     simp only [jK,ha1,ha2]
    rw [e];simp only [alt];exact fin _ i.1
  . have e:jK (2*m+1+1+2) k a=a::a1::jK (2*m+2) (k+1+1) a2:=by
     simp only [jK,ha1,ha2]
    rw [e];simp only [alt];exact fin _ i.2
theorem Vj:xc 68 0 L0=true:=by decide +kernel
theorem TU:(L0*th%(lN*((0+1:Nat):Int))==0&&xc 68 1 (L0*th/(lN*((0+1:Nat):Int))))=true:=by decide +kernel
theorem zV (n:Nat):pc n=hr 34 0 ((n*ak)*(n*ak)):=by
 have h:=(Ac 34 0 L0 n Vj).2;have e:((ev cP n:Int):Rat)=(L0:Rat)*hr 34 0 ((n*ak)*(n*ak)):=by
  have:ev cP n=alt (jK (2*34+2) 0 L0) (n*n):=by
   unfold cP;rw [IM];unfold A0;rfl
  rw [this,h];rfl
 rw [<-mM] at e;have:(pc n-hr 34 0 ((n*ak)*(n*ak)))*(L0:Rat)=0:=by grind
 rcases Rat.mul_eq_zero.1 this with h|h
 . grind
 . exact absurd h yo
theorem Aa (n:Nat):ps n=n*ak*hr 34 1 ((n*ak)*(n*ak)):=by
 have hx:=TU;simp only [Bool.and_eq_true,beq_iff_eq] at hx;have h:=(Ac 34 1 _ n hx.2).1;have s1:=oU _ _ hx.1;generalize ha1:L0*th/(lN*((0+1:Nat):Int))=a1 at *
 have r1:((a1*(lN*((0+1:Nat):Int)):Int):Rat)=((L0*th:Int):Rat):=by rw [s1]
 have hl:(((0+1:Nat):Int):Rat)=1:=rfl;rw [Rat.intCast_mul,Rat.intCast_mul,Rat.intCast_mul,hl,Rat.mul_one,<-zh] at r1;have ht:(lN:Rat)≠0:=by decide +kernel
 have c1:(a1:Rat)=L0*ak:=by
  generalize (lN:Rat)=T at *
  have:((a1:Rat)-L0*ak)*T=0:=by grind
  rcases Rat.mul_eq_zero.1 this with h|h
  . grind
  . exact absurd h ht
 have e:((ev sP n:Int):Rat)=(L0:Rat)*(n*ak*hr 34 1 ((n*ak)*(n*ak))):=by
  have:ev sP n=n*alt (jK (2*34+1) 1 a1) (n*n):=by
   unfold sP;simp only [ev];rw [IM];unfold A0;simp only [jK,List.tail,ha1];grind
  rw [this,Rat.intCast_mul,h,c1];simp only [Rat.intCast_natCast];grind
 rw [<-kR] at e;have:(ps n-n*ak*hr 34 1 ((n*ak)*(n*ak)))*(L0:Rat)=0:=by grind
 rcases Rat.mul_eq_zero.1 this with h|h
 . grind
 . exact absurd h yo
attribute [irreducible] hr ak
end Alm
namespace Alm
theorem jY (a b:Nat) (h:b<=a):((a-b:Nat):Rat)=(a:Rat)-(b:Rat):=by
 have e:((a-b+b:Nat):Rat)=(a:Rat):=by rw [Nat.sub_add_cancel h]
 rw [Rat.natCast_add] at e;grind
def W:Nat:=2^256
theorem FJ:0<W:=by decide +kernel
def mulN (A B:Nat):Nat :=
 (A*B-(2^64*((A/2^64%2^64)*(B%2^64)+(A%2^64)*(B/2^64%2^64))+(A%2^64)*(B%2^64)))/W
theorem JV (a b c d:Nat) (ha:a<2^64) (hb:b<2^64) (hc:c<2^64) (hd:d<2^64) :
 2^64*(a*d+b*c)+b*d<W:=by
 have h1:a*d<=2^64*2^64:=Nat.mul_le_mul (by omega) (by omega)
 have h2:b*c<=2^64*2^64:=Nat.mul_le_mul (by omega) (by omega)
 have h3:b*d<=2^64*2^64:=Nat.mul_le_mul (by omega) (by omega)
 unfold W;omega
theorem Jb (A B:Nat):mulN A B*W<=A*B/\A*B<(mulN A B+2)*W:=by
 have hr:=JV (A/2^64%2^64) (A%2^64) (B/2^64%2^64) (B%2^64) (Nat.mod_lt _ (by decide)) (Nat.mod_lt _ (by decide)) (Nat.mod_lt _ (by decide)) (Nat.mod_lt _ (by decide))
 unfold mulN;generalize 2^64*((A/2^64%2^64)*(B%2^64)+(A%2^64)*(B/2^64%2^64))+(A%2^64)*(B%2^64)=R at *
 generalize A*B=P;have hW:=FJ;generalize W=V at *
 have h1:=Nat.div_mul_le_self (P-R) V;have h2:=Nat.lt_div_mul_add (a:=P-R) hW
 constructor
 . omega
 . have:((P-R)/V+2)*V=(P-R)/V*V+V+V:=by grind
   omega
theorem jk (A B:Nat) (hA:A<W) (hB:B<=W):mulN A B<=A:=by
 have h:=(Jb A B).1;have h2:A*B<=A*W:=Nat.mul_le_mul_left A hB;exact Nat.le_of_mul_le_mul_right (Nat.le_trans h h2) FJ
def aW:Nat->Nat->Nat->Nat
 | 0,_,_=>0
 | m+1,j,Y=>Y/((j+1)*(j+2))-mulN (Y/((j+1)*(j+2))) (aW m (j+2) Y)
theorem jV (m j Y:Nat) (hY:Y<W):aW m j Y<=Y:=by
 cases m with
 | zero=>simp [aW]
 | succ m=>simp only [aW];have:=Nat.div_le_self Y ((j+1)*(j+2));omega
theorem W_d:(W:Rat)*aO=1:=by
 have h:=D6;have e:(W:Rat)=((2^256:Int):Rat):=by unfold W;decide +kernel
 rw [e];grind
theorem yx (A B:Nat):(mulN A B:Rat)*aO<=(A*aO)*(B*aO)/\(A*aO)*(B*aO)<=(mulN A B:Rat)*aO+2*aO:=by
 obtain ⟨h1,h2⟩:=Jb A B;have g1:((mulN A B*W:Nat):Rat)<=((A*B:Nat):Rat):=bT _ _ h1;have g2:((A*B:Nat):Rat)<=(((mulN A B+2)*W:Nat):Rat):=bT _ _ (by omega)
 have e2:((mulN A B+2:Nat):Rat)=(mulN A B:Rat)+2:=by norm_cast
 rw [Rat.natCast_mul,Rat.natCast_mul] at g1 g2;rw [e2] at g2;generalize (mulN A B:Rat)=m at *
 have hw:=W_d;have hd:=fG;generalize (W:Rat)=w at *
 generalize aO=d at *
 have hdd:0<=d*d:=bG d;have k1:=Rat.mul_le_mul_of_nonneg_right g1 hdd;have k2:=Rat.mul_le_mul_of_nonneg_right g2 hdd;have e1:m*w*(d*d)=m*d*(w*d):=by grind
 have e3:(m+2)*w*(d*d)=(m+2)*d*(w*d):=by grind
 rw [e1,hw] at k1;rw [e3,hw] at k2
 constructor<;>grind
theorem Jf (Y D:Nat) (hD:0<D) (y:Rat):((Y/D:Nat):Rat)*D*aO<=Y*aO/\Y*aO<=((Y/D:Nat):Rat)*D*aO+D*aO:=by
 have h1:=Nat.div_mul_le_self Y D;have h2:=Nat.lt_div_mul_add (a:=Y) hD;have g1:((Y/D*D:Nat):Rat)<=(Y:Rat):=bT _ _ h1;have g2:(Y:Rat)<=((Y/D*D+D:Nat):Rat):=bT _ _ (by omega)
 rw [Rat.natCast_mul] at g1;rw [Rat.natCast_add,Rat.natCast_mul] at g2;have hd:=fG;have k1:=Rat.mul_le_mul_of_nonneg_right g1 (show 0<=aO by grind)
 have k2:=Rat.mul_le_mul_of_nonneg_right g2 (show 0<=aO by grind)
 exact ⟨by grind,by grind⟩
theorem xU (m j Y:Nat) (y:Rat) (hY:Y<W) (h0:0<=y) (h1:y<=1)
 (e1:-(8*aO)<=Y*aO-y) (e2:Y*aO-y<=8*aO) :
 -(64*aO)<=(aW m j Y:Rat)*aO-(1-hr m j y)/\(aW m j Y:Rat)*aO-(1-hr m j y)<=64*aO:=by
 have hd:=fG
 induction m generalizing j with
 | zero=>simp only [aW,hr];constructor<;>grind
 | succ m ih =>
  have i:=ih (j+2);have hbd:=ou m (j+2) y h0 h1;have hD:2<=(j+1)*(j+2):=by have:=Nat.mul_le_mul (show 1<=j+1 by omega) (show 2<=j+2 by omega);omega
  have q:=iB y ((j+1)*(j+2)) hD h0 h1;have qq:=Jf Y ((j+1)*(j+2)) (by omega) y
  have hm:=yx (Y/((j+1)*(j+2))) (aW m (j+2) Y);have hle:mulN (Y/((j+1)*(j+2))) (aW m (j+2) Y)<=Y/((j+1)*(j+2)):=by
   apply jk
   . have:=Nat.div_le_self Y ((j+1)*(j+2));omega
   . have:=jV m (j+2) Y hY;omega
  have hv1:aW m (j+2) Y<=W:=by have:=jV m (j+2) Y hY;omega
  have hv:=bT _ _ hv1;have hv0:=aD (aW m (j+2) Y);simp only [aW,hr];rw [jY _ _ hle];have hDr:(2:Rat)<=(((j+1)*(j+2):Nat):Rat):=by exact_mod_cast hD
  generalize hqN:((Y/((j+1)*(j+2)):Nat):Rat)=qN at *
  generalize (mulN (Y/((j+1)*(j+2))) (aW m (j+2) Y):Rat)=pN at *
  generalize (aW m (j+2) Y:Rat)=v at *
  generalize (((j+1)*(j+2):Nat):Rat)=D at *
  generalize hr m (j+2) y=H at *
  obtain ⟨q1,q2,q3⟩:=q;generalize y/D=z at *
  have hw:=W_d;generalize aO=d at *
  have a1:(qN*d-z)*D<=8*d:=by grind
  have a2:-(8*d)-D*d<=(qN*d-z)*D:=by grind
  have b1:qN*d-z<=5*d:=by
   rcases Rat.le_total (a:=qN*d-z) (b:=5*d) with h|h
   . exact h
   . have:=Rat.mul_nonneg (show 0<=(qN*d-z)-5*d by grind) (show 0<=D-2 by grind)
     have:=Rat.mul_nonneg (show 0<=d by grind) (show 0<=D-2 by grind)
     grind
  have b2:-(5*d)<=qN*d-z:=by
   rcases Rat.le_total (a:=-(5*d)) (b:=qN*d-z) with h|h
   . exact h
   . have:=Rat.mul_nonneg (show 0<=-(5*d)-(qN*d-z) by grind) (show 0<=D-2 by grind)
     have:=Rat.mul_nonneg (show 0<=d by grind) (show 0<=D-2 by grind)
     grind
  have vd1:v*d<=1:=by have:=Rat.mul_le_mul_of_nonneg_right hv (show 0<=d by grind);grind
  have vd0:0<=v*d:=Rat.mul_nonneg hv0 (by grind)
  have t1:=aB (qN*d-z) (1-v*d) (5*d) 1 b2 b1 (by grind) (by grind)
  have t2:=aB z (v*d-(1-H)) (1/2) (64*d) (by grind) (by grind) (by grind) (by grind)
  constructor<;>grind
def PiN:Nat:=3*2^256+0x243F6A8885A308D313198A2E03707344A4093822299F31D0082EFA98EC4E6C89
def aP (n:Nat):Nat:=n*PiN/10800000
theorem gL:0<ak/\ak*2700000<=4/5:=by
 unfold ak;constructor<;>decide +kernel
theorem PG:-aO<=(PiN:Rat)*aO-ak*10800000/\(PiN:Rat)*aO-ak*10800000<=aO:=by
 unfold ak aO;constructor<;>decide +kernel
theorem zi (n:Nat) (h:n<=2700000):-(2*aO)<=(aP n:Rat)*aO-n*ak/\(aP n:Rat)*aO-n*ak<=2*aO:=by
 have q:=Jf (n*PiN) 10800000 (by omega) 0
 have hp:=PG;have hd:=fG;have hn:(n:Rat)<=2700000:=by exact_mod_cast h
 have hn0:=aD n;unfold aP;rw [Rat.natCast_mul] at q;have e:((10800000:Nat):Rat)=10800000:=rfl;rw [e] at q;generalize ((n*PiN/10800000:Nat):Rat)=r at *
 generalize (PiN:Rat)=P at *
 generalize aO=d at *
 have t:=aB (n:Rat) (P*d-ak*10800000) 2700000 d (by grind) hn hp.1 hp.2
 constructor<;>grind
theorem qA (n:Nat) (h:n<=2700000):aP n<W:=by
 have:n*PiN<=2700000*PiN:=Nat.mul_le_mul_right _ h;have h2:2700000*PiN<10800000*W:=by decide +kernel
 unfold aP;apply Nat.div_lt_of_lt_mul;omega
attribute [irreducible] mulN aW aP W PiN
def jU (n:Nat):Nat:=aP n-mulN (aP n) (aW 34 1 (mulN (aP n) (aP n)))
def jd (n:Nat):Nat:=W-aW 34 0 (mulN (aP n) (aP n))
theorem nk (n:Nat) (h:n<=2700000):mulN (aP n) (aP n)<W/\0<=(n*ak)*(n*ak)/\(n*ak)*(n*ak)<=1 /\
 -(8*aO)<=(mulN (aP n) (aP n):Rat)*aO-(n*ak)*(n*ak)/\(mulN (aP n) (aP n):Rat)*aO-(n*ak)*(n*ak)<=8*aO:=by
 have hr:=zi n h;have hl:=qA n h;have hm:=yx (aP n) (aP n);have hlt:=jk (aP n) (aP n) hl (by omega)
 have hd:=fG;have hn:(n:Rat)<=2700000:=by exact_mod_cast h
 have hn0:=aD n;have ht:=gL;have x1:(n:Rat)*ak<=4/5:=by
  have:=Rat.mul_le_mul_of_nonneg_right hn (show 0<=ak by grind);grind
 have x0:0<=(n:Rat)*ak:=Rat.mul_nonneg hn0 (by grind)
 have hd1:aO<=1/100:=by unfold aO;decide +kernel
 generalize (mulN (aP n) (aP n):Rat)=M at *
 generalize (aP n:Rat)=X at *
 generalize (n:Rat)*ak=x at *
 have t:=aB (X*aO-x) (X*aO+x) (2*aO) 2 hr.1 hr.2 (by grind) (by grind)
 have t2:=aB x x (4/5) (4/5) (by grind) x1 (by grind) x1
 refine ⟨by omega,bG _,by grind,by grind,by grind⟩
theorem MG (n:Nat) (h:n<=2700000):-(100*aO)<=(jU n:Rat)*aO-ps n/\(jU n:Rat)*aO-ps n<=100*aO:=by
 obtain ⟨hY,y0,y1,e1,e2⟩:=nk n h;have hl:=xU 34 1 _ _ hY y0 y1 e1 e2;have hb:=ou 34 1 _ y0 y1;have hrr:=zi n h;have hrl:=qA n h;have hlw:=jV 34 1 _ hY;have hm:=yx (aP n) (aW 34 1 (mulN (aP n) (aP n)));have hle:=jk (aP n) (aW 34 1 (mulN (aP n) (aP n))) hrl (by omega)
 have hv:=bT _ W (show aW 34 1 (mulN (aP n) (aP n))<=W by omega)
 have hv0:=aD (aW 34 1 (mulN (aP n) (aP n)));unfold jU;rw [jY _ _ hle,Aa];have hd:=fG;have hn:(n:Rat)<=2700000:=by exact_mod_cast h
 have hn0:=aD n;have ht:=gL;have x1:(n:Rat)*ak<=4/5:=by
  have:=Rat.mul_le_mul_of_nonneg_right hn (show 0<=ak by grind);grind
 have x0:0<=(n:Rat)*ak:=Rat.mul_nonneg hn0 (by grind)
 have hw:=W_d;generalize hr 34 1 ((n*ak)*(n*ak))=H at *
 generalize (mulN (aP n) (aW 34 1 (mulN (aP n) (aP n))):Rat)=M at *
 generalize (aW 34 1 (mulN (aP n) (aP n)):Rat)=v at *
 generalize (aP n:Rat)=X at *
 generalize (n:Rat)*ak=x at *
 generalize aO=d at *
 have vd1:v*d<=1:=by have:=Rat.mul_le_mul_of_nonneg_right hv (show 0<=d by grind);grind
 have vd0:0<=v*d:=Rat.mul_nonneg hv0 (by grind)
 have t1:=aB (X*d-x) (1-v*d) (2*d) 1 hrr.1 hrr.2 (by grind) (by grind)
 have t2:=aB x (v*d-(1-H)) 1 (64*d) (by grind) (by grind) (by grind) (by grind)
 constructor<;>grind
theorem Ll (n:Nat) (h:n<=2700000):-(100*aO)<=(jd n:Rat)*aO-pc n/\(jd n:Rat)*aO-pc n<=100*aO:=by
 obtain ⟨hY,y0,y1,e1,e2⟩:=nk n h;have hl:=xU 34 0 _ _ hY y0 y1 e1 e2;have hlw:=jV 34 0 _ hY;have hc:jd n=W-aW 34 0 (mulN (aP n) (aP n)):=rfl;rw [hc,zV];have hw:=W_d;have hd:=fG;have hle:aW 34 0 (mulN (aP n) (aP n))<=W:=Nat.le_trans hlw (Nat.le_of_lt hY);clear hc hlw hY;generalize hr 34 0 ((n*ak)*(n*ak))=H at *
 generalize aW 34 0 (mulN (aP n) (aP n))=l at *
 have e:=jY W l hle;rw [e]
 constructor<;>grind
attribute [irreducible] jU jd
end Alm
namespace Alm
def SW:Nat:=2^224
def pack:List Nat->Nat
 | []=>0
 | x::l=>x+SW*pack l
def ones:Nat->Nat
 | 0=>0
 | k+1=>1+SW*ones k
theorem and_split (w x X m M:Nat) (hx:x<2^w) (hm:m<2^w):(x+2^w*X) &&& (m+2^w*M)=(x &&& m)+2^w*(X &&& M):=by
 apply Nat.eq_of_testBit_eq;intro i;rw [Nat.testBit_and,Nat.add_comm x,Nat.add_comm m,Nat.add_comm (x &&& m),Nat.testBit_two_pow_mul_add _ hx,Nat.testBit_two_pow_mul_add _ hm,
  Nat.testBit_two_pow_mul_add _ (Nat.lt_of_le_of_lt Nat.and_le_left hx)]
 split<;>rw [Nat.testBit_and]
def iO:Nat:=2^140
def fE:Nat:=2^162-2^141
def chk (O X:Nat):Bool:=(((X+iO*O) &&& (fE*O))+fE*O) &&& (2^162*O)==2^162*O
def Far (x:Nat):Prop:=2^141<=(x+iO)%2^162
theorem Xn (x:Nat) (h:(((x+iO) &&& fE)+fE) &&& 2^162=2^162):Far x:=by
 have h1:2^162<=((x+iO) &&& fE)+fE:=by
  have:=Nat.and_le_left (n:=((x+iO) &&& fE)+fE) (m:=2^162);omega
 have h2:2^141<=(x+iO) &&& fE:=by unfold fE at *;omega
 have h3:=and_split 162 ((x+iO)%2^162) ((x+iO)/2^162) fE 0 (Nat.mod_lt _ (by decide)) (by decide)
 have e:(x+iO)%2^162+2^162*((x+iO)/2^162)=x+iO:=by omega
 rw [e,Nat.mul_zero,Nat.add_zero,Nat.and_zero,Nat.mul_zero,Nat.add_zero] at h3;rw [h3] at h2;exact Nat.le_trans h2 Nat.and_le_left
theorem Kb (l:List Nat) (hl:∀ x∈l,x<2^200) (h:chk (ones l.length) (pack l)=true):∀ x∈l,Far x:=by
 induction l with
 | nil=>simp
 | cons x l ih =>
  have hx:x<2^200:=hl x (by simp)
  unfold chk at h;rw [beq_iff_eq] at h;simp only [pack,List.length,ones] at h;have e1:x+SW*pack l+iO*(1+SW*ones l.length)=(x+iO)+2^224*(pack l+iO*ones l.length):=by unfold SW;grind
  have e2:fE*(1+SW*ones l.length)=fE+2^224*(fE*ones l.length):=by unfold SW;grind
  have e3:2^162*(1+SW*ones l.length)=2^162+2^224*(2^162*ones l.length):=by unfold SW;grind
  have b1:x+iO<2^224:=by unfold iO;omega
  have b2:fE<2^224:=by decide
  rw [e1,e2,e3,and_split 224 _ _ _ _ b1 b2] at h;have e4:(x+iO &&& fE)+2^224*(pack l+iO*ones l.length &&& fE*ones l.length)+(fE+2^224*(fE*ones l.length)) =
   ((x+iO &&& fE)+fE)+2^224*((pack l+iO*ones l.length &&& fE*ones l.length)+fE*ones l.length):=by omega
  have b3:(x+iO &&& fE)+fE<2^224:=by
   have:=Nat.and_le_right (n:=x+iO) (m:=fE);have:fE<2^162:=by decide
   omega
  rw [e4,and_split 224 _ _ _ _ b3 (by decide)] at h
  have b4:((x+iO &&& fE)+fE &&& 2^162)<=2^162:=Nat.and_le_right;have hh:((x+iO &&& fE)+fE &&& 2^162)=2^162:=by omega
  have ht:((pack l+iO*ones l.length &&& fE*ones l.length)+fE*ones l.length &&& 2^162*ones l.length)=2^162*ones l.length:=by omega
  intro y hy;rcases List.mem_cons.1 hy with rfl|hy
  . exact Xn _ hh
  . exact ih (fun z hz=>hl z (by simp [hz])) (by unfold chk;rw [beq_iff_eq];exact ht) y hy
end Alm
namespace Alm
def F96:Nat:=2^96
def rs1:Nat:=23046538269650701392778
def rc1:Nat:=79228162514260985610427347966
def rsT:Nat:=46093073939162458779889859
def rcT:Nat:=79228149106332249358948278227
def st1 (p:Nat × Nat):Nat × Nat:=((p.1*rc1-p.2*rs1)/F96,(p.2*rc1+p.1*rs1)/F96)
def stT (p:Nat × Nat):Nat × Nat:=((p.1*rcT-p.2*rsT)/F96,(p.2*rcT+p.1*rsT)/F96)
theorem Yb (p:Nat × Nat):st1 p=((p.1*rc1-p.2*rs1)/F96,(p.2*rc1+p.1*rs1)/F96):=rfl
theorem Yt (p:Nat × Nat):stT p=((p.1*rcT-p.2*rsT)/F96,(p.2*rcT+p.1*rsT)/F96):=rfl
attribute [irreducible] st1 stT
def tab:Nat->Nat × Nat->List (Nat × Nat)
 | 0,_=>[]
 | k+1,p=>p::tab k (st1 p)
def rE:Nat->Nat × Nat->Nat × Nat
 | 0,_=>(0,0)
 | k+1,p=>(p.1+SW*(rE k (st1 p)).1,p.2+SW*(rE k (st1 p)).2)
def look:Nat->Nat × Nat->Nat × Nat->Nat->Bool
 | 0,_,_,_=>true
 | q+1,p,t,O=>chk O (p.2*t.1+p.1*t.2)&&chk O (p.1*t.1-p.2*t.2)&&look q (stT p) t O
theorem MI (k:Nat) (p:Nat × Nat):(rE k p).1=pack ((tab k p).map (·.1))/\(rE k p).2=pack ((tab k p).map (·.2)):=by
 induction k generalizing p with
 | zero=>simp [rE,tab,pack]
 | succ k ih=>simp only [rE,tab,List.map,pack,(ih (st1 p)).1,(ih (st1 p)).2];exact ⟨trivial,trivial⟩
theorem GR (k:Nat) (p:Nat × Nat):(tab k p).length=k:=by
 induction k generalizing p with
 | zero=>rfl
 | succ k ih=>simp [tab,ih]
theorem Rz (a b:Nat) (l:List (Nat × Nat)):a*pack (l.map (·.1))+b*pack (l.map (·.2))=pack (l.map fun p=>a*p.1+b*p.2):=by
 induction l with
 | nil=>simp [pack]
 | cons p l ih=>simp only [List.map,pack];rw [<-ih];grind
theorem PV (a b:Nat) (l:List (Nat × Nat)) (h:∀ p∈l,b*p.2<=a*p.1):b*pack (l.map (·.2))<=a*pack (l.map (·.1))/\a*pack (l.map (·.1))-b*pack (l.map (·.2))=pack (l.map fun p=>a*p.1-b*p.2):=by
 induction l with
 | nil=>simp [pack]
 | cons p l ih =>
  have i:=ih (fun q hq=>h q (by simp [hq]))
  have hp:=h p (by simp)
  simp only [List.map,pack];rw [<-i.2];have e1:a*(p.1+SW*pack (l.map (·.1)))=a*p.1+SW*(a*pack (l.map (·.1))):=by grind
  have e2:b*(p.2+SW*pack (l.map (·.2)))=b*p.2+SW*(b*pack (l.map (·.2))):=by grind
  rw [e1,e2];generalize a*pack (l.map (·.1))=x at *
  generalize b*pack (l.map (·.2))=y at *
  have hm:SW*y<=SW*x:=Nat.mul_le_mul_left _ i.1;have e3:SW*(x-y)=SW*x-SW*y:=Nat.mul_sub SW x y;rw [e3]
  constructor<;>omega
def Sm (p:Nat × Nat):Prop:=p.1<=2*F96/\p.2<=2*F96
theorem QL (p:Nat × Nat) (l:List (Nat × Nat)) (hp:Sm p) (hl:∀ x∈l,Sm x) (hs:∀ x∈l,p.2*x.2<=p.1*x.1)
 (h1:chk (ones l.length) (p.2*pack (l.map (·.1))+p.1*pack (l.map (·.2)))=true) (h2:chk (ones l.length) (p.1*pack (l.map (·.1))-p.2*pack (l.map (·.2)))=true) :
 ∀ x∈l,Far (p.2*x.1+p.1*x.2)/\Far (p.1*x.1-p.2*x.2):=by
 rw [Rz] at h1;rw [(PV p.1 p.2 l hs).2] at h2;have hb:∀ x∈l,p.2*x.1<=2*F96*(2*F96)/\p.1*x.2<=2*F96*(2*F96)/\p.1*x.1<=2*F96*(2*F96):=fun x hx =>
  ⟨Nat.mul_le_mul hp.2 (hl x hx).1,Nat.mul_le_mul hp.1 (hl x hx).2,Nat.mul_le_mul hp.1 (hl x hx).1⟩
 have hF:2*F96*(2*F96)*2<2^200:=by decide +kernel
 have a1:=Kb (l.map fun x=>p.2*x.1+p.1*x.2) (by
  intro y hy;obtain ⟨x,hx,rfl⟩:=List.mem_map.1 hy;have:=hb x hx;omega) (by rw [List.length_map];exact h1)
 have a2:=Kb (l.map fun x=>p.1*x.1-p.2*x.2) (by
  intro y hy;obtain ⟨x,hx,rfl⟩:=List.mem_map.1 hy;have:=hb x hx;omega) (by rw [List.length_map];exact h2)
 intro x hx;exact ⟨a1 _ (List.mem_map.2 ⟨x,hx,rfl⟩),a2 _ (List.mem_map.2 ⟨x,hx,rfl⟩)⟩
def JF (f:Nat × Nat->Nat × Nat):Nat->Nat × Nat->Nat × Nat
 | 0,p=>p
 | k+1,p=>JF f k (f p)
theorem Gu (f:Nat × Nat->Nat × Nat) (k:Nat) (p:Nat × Nat):JF f (k+1) p=JF f k (f p):=rfl
def Es (k:Nat) (p:Nat × Nat):Nat × Nat:=JF stT k p
theorem M5 (p:Nat × Nat):Es 0 p=p:=rfl
theorem Mg (k:Nat) (p:Nat × Nat):Es (k+1) p=Es k (stT p):=Gu stT k p
def Sz:Bool :=
 let t:=rE 2000 (F96,0)
 let u:=rE 1999 (st1 (F96,0))
 let O:=ones 2000
 let O':=ones 1999
 let p:=Es 900 (F96,0)
 look 899 (stT (F96,0)) t O&&look 1 p u O'&&look 449 (stT p) t O&&look 1 (F96,0) u O'
theorem look_ok:Sz=true:=by decide +kernel
end Alm
namespace Alm
def e96:Rat:=1/((2^96:Int):Rat)
theorem Qb:(F96:Rat)*e96=1:=by unfold F96 e96;decide +kernel
theorem iE:0<e96:=by unfold e96;decide +kernel
theorem iw:e96<=1/1000000000:=by unfold e96;decide +kernel
theorem Ul:-e96<=(rc1:Rat)*e96-c1/\(rc1:Rat)*e96-c1<=e96:=by
 unfold e96 c1 rc1 c1n dd tp;constructor<;>decide +kernel
theorem Vn:-e96<=(rs1:Rat)*e96-s1/\(rs1:Rat)*e96-s1<=e96:=by
 unfold e96 s1 rs1 s1n dd tp;constructor<;>decide +kernel
theorem ab7:0<s1/\s1<=1/1000000:=by unfold s1 s1n dd tp;constructor<;>decide +kernel
theorem Qi:0<c1/\c1<=1:=by unfold c1 c1n dd tp;constructor<;>decide +kernel
theorem Oq:((ev sP 2000*2^96-(rsT:Int)*L0).natAbs:Int)<=L0/\((ev cP 2000*2^96-(rcT:Int)*L0).natAbs:Int)<=L0:=by decide +kernel
def bV (p:Nat × Nat) (n:Nat) (e:Rat):Prop :=
 (-e<=(p.1:Rat)*e96-zc n/\(p.1:Rat)*e96-zc n<=e)/\(-e<=(p.2:Rat)*e96-zs n/\(p.2:Rat)*e96-zs n<=e)
theorem Dh (X:Nat):((X/F96:Nat):Rat)*e96<=X*(e96*e96)/\X*(e96*e96)<=((X/F96:Nat):Rat)*e96+e96:=by
 have hF:0<F96:=by decide +kernel
 have h1:=Nat.div_mul_le_self X F96;have h2:=Nat.lt_div_mul_add (a:=X) hF;have g1:=bT _ _ h1;have g2:=bT _ _ (Nat.le_of_lt h2);rw [Rat.natCast_mul] at g1;rw [Rat.natCast_add,Rat.natCast_mul] at g2;have he:=Qb;have hp:=iE;have hpp:0<=e96*e96:=bG _;generalize ((X/F96:Nat):Rat)=q at *
 generalize (F96:Rat)=F at *
 have k1:=Rat.mul_le_mul_of_nonneg_right g1 hpp;have k2:=Rat.mul_le_mul_of_nonneg_right g2 hpp;have e1:q*F*(e96*e96)=q*e96*(F*e96):=by grind
 have e2:(q*F+F)*(e96*e96)=(q*e96+e96)*(F*e96):=by grind
 rw [e1,he] at k1;rw [e2,he] at k2
 constructor<;>grind
theorem EO (p:Nat × Nat) (n r C S:Nat) (e:Rat) (he0:0<=e) (he:e<=1/100) (h:bV p n e)
 (hC:-(2*e96)<=(C:Rat)*e96-zc r/\(C:Rat)*e96-zc r<=2*e96) (hS:-(2*e96)<=(S:Rat)*e96-zs r/\(S:Rat)*e96-zs r<=2*e96)
 (hs:0<=zs r) (hsub:p.2*S<=p.1*C) :
 bV ((p.1*C-p.2*S)/F96,(p.2*C+p.1*S)/F96) (n+r) (e*(1+zs r)+6*e96):=by
 obtain ⟨⟨a1,a2⟩,⟨b1,b2⟩⟩:=h;have d1:=Dh (p.1*C-p.2*S);have d2:=Dh (p.2*C+p.1*S);rw [jY _ _ hsub,Rat.natCast_mul,Rat.natCast_mul] at d1;rw [Rat.natCast_add,Rat.natCast_mul,Rat.natCast_mul] at d2;obtain ⟨za1,za2⟩:=Yr n r;have hep:=iE;have hes:=iw;have zr:=qL r;have zr2:=lL r;have zn:=qL n;have zn2:=lL n;unfold bV;simp only [];rw [za1,za2];generalize (((p.1*C-p.2*S)/F96:Nat):Rat)=P1 at *
 generalize (((p.2*C+p.1*S)/F96:Nat):Rat)=P2 at *
 generalize (p.1:Rat)=x at *
 generalize (p.2:Rat)=y at *
 generalize (C:Rat)=c at *
 generalize (S:Rat)=s at *
 generalize zc n=u at *
 generalize zs n=v at *
 generalize zc r=k at *
 generalize zs r=l at *
 generalize e96=d at *
 have q1:x*c*(d*d)=(x*d)*(c*d):=by grind
 have q2:y*s*(d*d)=(y*d)*(s*d):=by grind
 have q3:y*c*(d*d)=(y*d)*(c*d):=by grind
 have q4:x*s*(d*d)=(x*d)*(s*d):=by grind
 have f1:(x*c-y*s)*(d*d)=(x*d)*(c*d)-(y*d)*(s*d):=by grind
 have f2:(y*c+x*s)*(d*d)=(y*d)*(c*d)+(x*d)*(s*d):=by grind
 rw [f1] at d1;rw [f2] at d2;obtain ⟨A,hA⟩:∃ A,A=x*d-u:=⟨_,rfl⟩;obtain ⟨B,hB⟩:∃ B,B=y*d-v:=⟨_,rfl⟩;obtain ⟨G,hG⟩:∃ G,G=c*d-k:=⟨_,rfl⟩;obtain ⟨H,hH⟩:∃ H,H=s*d-l:=⟨_,rfl⟩;rw [<-hA] at a1 a2;rw [<-hB] at b1 b2;rw [<-hG] at hC;rw [<-hH] at hS;have ex:x*d=u+A:=by grind
 have ey:y*d=v+B:=by grind
 have ec:c*d=k+G:=by grind
 have es:s*d=l+H:=by grind
 rw [ex,ey,ec,es] at d1 d2;clear hA hB hG hH ex ey ec es f1 f2 q1 q2 q3 q4;have t1:=aB A k e 1 a1 a2 (by grind) (by grind)
 have t2:=aB B l e l b1 b2 (by grind) (by grind)
 have t3:=aB (u+A) G (101/100) (2*d) (by grind) (by grind) hC.1 hC.2
 have t4:=aB (v+B) H (101/100) (2*d) (by grind) (by grind) hS.1 hS.2
 have t5:=aB B k e 1 b1 b2 (by grind) (by grind)
 have t6:=aB A l e l a1 a2 (by grind) (by grind)
 have t7:=aB (v+B) G (101/100) (2*d) (by grind) (by grind) hC.1 hC.2
 have t8:=aB (u+A) H (101/100) (2*d) (by grind) (by grind) hS.1 hS.2
 refine ⟨⟨?_,?_⟩,⟨?_,?_⟩⟩<;>grind
end Alm
namespace Alm
theorem oP:bQ<=e96:=by unfold bQ aO e96;decide +kernel
theorem TS:(-(2*e96)<=(rcT:Rat)*e96-zc 2000/\(rcT:Rat)*e96-zc 2000<=2*e96)/\(-(2*e96)<=(rsT:Rat)*e96-zs 2000/\(rsT:Rat)*e96-zs 2000<=2*e96):=by
 obtain ⟨h1,h2⟩:=near 2000 (by omega)
 have hd:=oP;have he:((2^96:Int):Rat)*e96=1:=by unfold e96;decide +kernel
 have key:∀ (x:Rat) (E r:Int),x*(L0:Rat)=(E:Rat)->((E*2^96-r*L0).natAbs:Int)<=L0->-e96<=(r:Rat)*e96-x/\(r:Rat)*e96-x<=e96:=by
  intro x E r hx h;have k1:E*2^96-r*L0<=L0:=by omega
  have k2:-L0<=E*2^96-r*L0:=by omega
  have g1:((E*2^96-r*L0:Int):Rat)<=((L0:Int):Rat):=by exact_mod_cast k1
  have g2:((-L0:Int):Rat)<=((E*2^96-r*L0:Int):Rat):=by exact_mod_cast k2
  rw [Rat.intCast_sub,Rat.intCast_mul,Rat.intCast_mul,<-hx] at g1 g2;rw [Rat.intCast_neg] at g2;have hl:=qg;have hp:=iE;generalize ((2^96:Int):Rat)=T at *
  generalize (L0:Rat)=L at *
  generalize (r:Rat)=R at *
  generalize e96=d at *
  have m1:=Rat.mul_le_mul_of_nonneg_right g1 (show 0<=d by grind)
  have m2:=Rat.mul_le_mul_of_nonneg_right g2 (show 0<=d by grind)
  have q:(x*L*T-R*L)*d=(x-R*d)*L:=by
   have:(x*L*T-R*L)*d=x*L*(T*d)-R*L*d:=by grind
   rw [this,he];grind
  rw [q] at m1 m2
  constructor
  . apply Rat.le_of_mul_le_mul_right (c:=L) _ hl;grind
  . apply Rat.le_of_mul_le_mul_right (c:=L) _ hl;grind
 have a:=key (pc 2000) (ev cP 2000) rcT (mM 2000) Oq.2;have b:=key (ps 2000) (ev sP 2000) rsT (kR 2000) Oq.1;have ea:((rcT:Int):Rat)=(rcT:Rat):=rfl;have eb:((rsT:Int):Rat)=(rsT:Rat):=rfl;rw [ea] at a;rw [eb] at b;clear ea eb key he;generalize (rcT:Rat)=C at *
 generalize (rsT:Rat)=S at *
 generalize pc 2000=u at *
 generalize ps 2000=v at *
 generalize zc 2000=u' at *
 generalize zs 2000=v' at *
 generalize bQ=D at *
 generalize e96=d at *
 refine ⟨⟨?_,?_⟩,⟨?_,?_⟩⟩<;>grind
theorem eT (n:Nat) (h:n<=2700000):49/100<=zc n:=by
 obtain ⟨_,h2⟩:=near n h;obtain ⟨_,y0,y1,_,_⟩:=nk n h;have hh:=(ou 34 0 _ y0 y1).1;rw [<-zV n] at hh;have k1:=oP;have k2:=iw;clear y0 y1;generalize pc n=a at *
 generalize zc n=b at *
 generalize bQ=c at *
 generalize e96=d at *
 grind
theorem rV (n:Nat) (h:n<=2700000):-(1/1000000000)<=zs n:=by
 obtain ⟨h1,_⟩:=near n h;obtain ⟨_,y0,y1,_,_⟩:=nk n h;have hh:=(ou 34 1 _ y0 y1).1;have hx:0<=(n:Rat)*ak:=Rat.mul_nonneg (aD n) (Rat.le_of_lt gL.1);have hm:=Rat.mul_nonneg hx (show 0<=hr 34 1 ((n*ak)*(n*ak)) from Rat.le_trans (by decide +kernel) hh)
 rw [<-Aa n] at hm;have k1:=oP;have k2:=iw;clear y0 y1 hh hx;generalize ps n=a at *
 generalize zs n=b at *
 generalize bQ=c at *
 generalize e96=d at *
 grind
end Alm
namespace Alm
theorem Qw:zc 1=c1:=by rw [show (1:Nat)=0+1 from rfl,fV,jb,gM];grind
theorem Bb:zs 1=s1:=by rw [show (1:Nat)=0+1 from rfl,fT,jb,gM];grind
theorem Ef:ak*2000<=59/100000:=by unfold ak;decide +kernel
theorem tZ:bQ<=1/1000000000:=by unfold bQ aO;decide +kernel
theorem xD (n:Nat) (h:n<=2000):zs n<=6/10000:=by
 obtain ⟨h1,_⟩:=near n (by omega)
 obtain ⟨_,y0,y1,_,_⟩:=nk n (by omega)
 have hh:=(ou 34 1 _ y0 y1);have ht:=gL.1;have hx:0<=(n:Rat)*ak:=Rat.mul_nonneg (aD n) (Rat.le_of_lt ht);have hn:(n:Rat)<=2000:=by exact_mod_cast h
 have hx2:=Rat.mul_le_mul_of_nonneg_right hn (Rat.le_of_lt ht);have hx3:=Ef;have hm:=Rat.mul_nonneg hx (show 0<=1-hr 34 1 ((n*ak)*(n*ak)) by have:=hh.2;grind)
 have e:=Aa n;have k:=tZ;clear y0 y1 hh;generalize hr 34 1 ((n*ak)*(n*ak))=H at *
 generalize ps n=a at *
 generalize zs n=b at *
 generalize (n:Rat)*ak=x at *
 grind
theorem Ee:bV (F96,0) 0 0:=by
 unfold bV;simp only [];rw [jb,gM,Qb];simp;grind
theorem Ik (a b c d:Nat) (A B C D:Rat) (h1:(a:Rat)*e96<=A) (h2:(b:Rat)*e96<=B) (h3:C<=(c:Rat)*e96) (h4:D<=(d:Rat)*e96) (hC:0<=C) (hD:0<=D) (h:A*B<=C*D):a*b<=c*d:=by
 have hp:=iE;have ha:=aD a;have hb:=aD b;have pa:0<=(a:Rat)*e96:=Rat.mul_nonneg ha (Rat.le_of_lt hp);have pb:0<=(b:Rat)*e96:=Rat.mul_nonneg hb (Rat.le_of_lt hp);have k1:=Rat.mul_le_mul_of_nonneg_right h1 pb;have k2:=Rat.mul_le_mul_of_nonneg_left h2 (show 0<=A by grind)
 have k3:=Rat.mul_le_mul_of_nonneg_right h3 hD;have k4:=Rat.mul_le_mul_of_nonneg_left h4 (show 0<=(c:Rat)*e96 by grind)
 have hle:((a*b:Nat):Rat)<=((c*d:Nat):Rat):=by
  rw [Rat.natCast_mul,Rat.natCast_mul];have hpp:(0:Rat)<e96*e96:=Rat.mul_pos hp hp;apply Rat.le_of_mul_le_mul_right (c:=e96*e96) _ hpp;generalize (a:Rat)=a at *
  generalize (b:Rat)=b at *
  generalize (c:Rat)=c at *
  generalize (d:Rat)=d at *
  generalize e96=e at *
  have e1:a*b*(e*e)=a*e*(b*e):=by grind
  have e2:c*d*(e*e)=c*e*(d*e):=by grind
  grind
 exact_mod_cast hle
theorem qh (p:Nat × Nat) (n:Nat) (hn:n<2000) (h:bV p n (7*n*e96)):bV (st1 p) (n+1) (7*(n+1:Nat)*e96):=by
 have hp:=iE;have hs:=iw;have hc:=Ul;have hs1:=Vn;have b1:=ab7;have b2:=Qi;have zsn:=xD n (by omega)
 have zcn:=eT n (by omega)
 have hnn:(n:Rat)<=2000:=by exact_mod_cast (show n<=2000 by omega)
 have hn0:=aD n;have he0:0<=7*(n:Rat)*e96:=Rat.mul_nonneg (by grind) (by grind)
 have he1:7*(n:Rat)*e96<=14000*e96:=Rat.mul_le_mul_of_nonneg_right (by grind) (by grind)
 have c1v:9/10<=c1:=by have:=NL;have:s1*s1<=1/1000000*(1/1000000):=gG s1 _ (by grind) (by grind);rcases Rat.le_total (a:=9/10) (b:=c1) with h|h;· exact h
                       . have:=gG c1 (9/10) (by grind) h;grind
 have g:=EO p n 1 rc1 rs1 (7*n*e96) he0 (by grind) h (by rw [Qw];constructor<;>grind) (by rw [Bb];constructor<;>grind) (by rw [Bb];grind)
  (by
   obtain ⟨⟨a1,a2⟩,⟨a3,a4⟩⟩:=h;apply Ik p.2 rs1 p.1 rc1 (1/100) (1/100) (1/10) (1/10)<;>grind)
 rw [Bb] at g;have hle:7*(n:Rat)*e96*(1+s1)+6*e96<=7*(n+1:Nat)*e96:=by
  have e1:((n+1:Nat):Rat)=(n:Rat)+1:=by norm_cast
  rw [e1];have m:=Rat.mul_le_mul_of_nonneg_left b1.2 he0;grind
 have e2:=Yb p;rw [e2];generalize 7*(n:Rat)*e96*(1+s1)+6*e96=E at *
 unfold bV at *
 obtain ⟨⟨a1,a2⟩,⟨a3,a4⟩⟩:=g;refine ⟨⟨?_,?_⟩,⟨?_,?_⟩⟩<;>grind
theorem qB (p:Nat × Nat) (i:Nat) (hi:i<1350) (h:bV p (2000*i) (32*i*e96)):bV (stT p) (2000*(i+1)) (32*(i+1:Nat)*e96):=by
 have hp:=iE;have hs:=iw;obtain ⟨hc,hs1⟩:=TS;obtain ⟨R,hR⟩:∃ R:Nat,R=2000:=⟨_,rfl⟩;have z1:=xD R (by omega)
 have z2:=eT R (by omega)
 have z3:=rV R (by omega)
 rw [<-hR] at hc hs1;have zn:=lL (2000*i);have zcn:=eT (2000*i) (by omega)
 have hnn:(i:Rat)<=1350:=by exact_mod_cast (show i<=1350 by omega)
 have hn0:=aD i;have he0:0<=32*(i:Rat)*e96:=Rat.mul_nonneg (by grind) (by grind)
 have he1:32*(i:Rat)*e96<=43200*e96:=Rat.mul_le_mul_of_nonneg_right (by grind) (by grind)
 have hpos:0<=zs R:=by
  have hv:(2:Rat)/10000<=(rsT:Rat)*e96:=by unfold e96 rsT;decide +kernel
  grind
 have g:=EO p (2000*i) R rcT rsT (32*i*e96) he0 (by grind) h hc hs1 hpos
  (by
   obtain ⟨⟨a1,a2⟩,⟨a3,a4⟩⟩:=h;apply Ik p.2 rsT p.1 rcT (11/10) (1/100) (1/10) (2/10)<;>grind)
 have hle:32*(i:Rat)*e96*(1+zs R)+6*e96<=32*(i+1:Nat)*e96:=by
  have e1:((i+1:Nat):Rat)=(i:Rat)+1:=by norm_cast
  rw [e1];have m:=Rat.mul_le_mul_of_nonneg_left z1 he0;grind
 have e2:=Yt p;have e3:2000*(i+1)=2000*i+R:=by omega
 rw [e2,e3];generalize 32*(i:Rat)*e96*(1+zs R)+6*e96=E at *
 unfold bV at *
 obtain ⟨⟨a1,a2⟩,⟨a3,a4⟩⟩:=g;refine ⟨⟨?_,?_⟩,⟨?_,?_⟩⟩<;>grind
theorem Dl (k m:Nat) (p:Nat × Nat) (hk:m+k<=2000) (h:bV p m (7*m*e96)):∀ j,j<k->∃ x∈tab k p,bV x (m+j) (7*(m+j:Nat)*e96):=by
 induction k generalizing m p with
 | zero=>intro j hj;omega
 | succ k ih =>
  intro j hj
  match j with
  | 0=>exact ⟨p,by simp [tab],h⟩
  | j+1 =>
   obtain ⟨x,hx,hn⟩:=ih (m+1) (st1 p) (by omega) (qh p m (by omega) h) j (by omega)
   refine ⟨x,by simp [tab,hx],?_⟩
   have e:m+(j+1)=m+1+j:=by omega
   rw [e];exact hn
theorem gJ (k m:Nat) (p:Nat × Nat) (hk:m+k<=2000) (h:bV p m (7*m*e96)):∀ x∈tab k p,∃ j,m<=j/\j<2000/\bV x j (7*j*e96):=by
 induction k generalizing m p with
 | zero=>simp [tab]
 | succ k ih =>
  intro x hx;simp only [tab,List.mem_cons] at hx;rcases hx with rfl|hx
  . exact ⟨m,Nat.le_refl _,by omega,h⟩
  . obtain ⟨j,h1,h2,h3⟩:=ih (m+1) (st1 p) (by omega) (qh p m (by omega) h) x hx
    exact ⟨j,by omega,h2,h3⟩
theorem J8 (p:Nat × Nat) (n:Nat) (e:Rat) (hn:n<=2700000) (he:e<=1/100000) (h:bV p n e):p.1<=2*F96/\p.2<=2*F96:=by
 have z1:=qL n;have z2:=lL n;obtain ⟨⟨a1,a2⟩,⟨a3,a4⟩⟩:=h;have hp:=iE;have hF:=Qb;have key:∀ a:Nat,(a:Rat)*e96<=2->a<=2*F96:=by
  intro a ha;have e2:((2*F96:Nat):Rat)=2*(F96:Rat):=by norm_cast
  have:(a:Rat)<=((2*F96:Nat):Rat):=by
   rw [e2];apply Rat.le_of_mul_le_mul_right (c:=e96) _ hp;generalize (a:Rat)=a at *
   generalize (F96:Rat)=F at *
   grind
  exact_mod_cast this
 exact ⟨key _ (by grind),key _ (by grind)⟩
end Alm
namespace Alm
def u30:Rat:=1/((2^30:Int):Rat)
def mg:Rat:=3/((2^54:Int):Rat)
def FlR (s:Rat) (q:Int):Prop:=q*u30+mg<=s/\s<=(q+1)*u30-mg
theorem aa2 (X:Nat) (h:Far X):∃ q:Nat,q*2^162+2^140<=X/\X+2^140<=(q+1)*2^162:=by
 unfold Far iO at h;refine ⟨(X+2^140)/2^162,?_,?_⟩<;>omega
theorem v162:((2^162:Nat):Rat)*(e96*e96)=u30:=by unfold e96 u30;decide +kernel
theorem adL:((2^140:Nat):Rat)*(e96*e96)=4/((2^54:Int):Rat):=by unfold e96;decide +kernel
theorem v96:262144*e96<=1/((2^54:Int):Rat):=by unfold e96;decide +kernel
theorem Ad (X:Nat) (s:Rat) (h:Far X) (h1:-(262144*e96)<=X*(e96*e96)-s) (h2:X*(e96*e96)-s<=262144*e96):∃ q:Nat,FlR s q:=by
 obtain ⟨q,a,b⟩:=aa2 X h;refine ⟨q,?_⟩;have g1:((q*2^162+2^140:Nat):Rat)<=(X:Rat):=bT _ _ a;have g2:((X+2^140:Nat):Rat)<=(((q+1)*2^162:Nat):Rat):=bT _ _ b;rw [Rat.natCast_add,Rat.natCast_mul] at g1;rw [Rat.natCast_add,Rat.natCast_mul] at g2;have hpp:0<=e96*e96:=bG _;have k1:=Rat.mul_le_mul_of_nonneg_right g1 hpp;have k2:=Rat.mul_le_mul_of_nonneg_right g2 hpp;have a1:=v162;have a2:=adL;have a3:=v96;have e1:((q+1:Nat):Rat)=(q:Rat)+1:=by rw [Rat.natCast_add];rfl
 have e2:(((q:Nat):Int):Rat)=(q:Rat):=rfl;rw [e1] at k2;unfold FlR mg;rw [e2];have q3:(3:Rat)/((2^54:Int):Rat)=3*(1/((2^54:Int):Rat)):=by decide +kernel
 have q4:(4:Rat)/((2^54:Int):Rat)=4*(1/((2^54:Int):Rat)):=by decide +kernel
 rw [q3];rw [q4] at a2;generalize (1:Rat)/((2^54:Int):Rat)=m at *
 generalize ((2^162:Nat):Rat)=A at *
 generalize ((2^140:Nat):Rat)=B at *
 generalize (X:Rat)=x at *
 generalize (q:Rat)=r at *
 generalize e96*e96=D at *
 have f1:(r*A+B)*D=r*(A*D)+B*D:=by grind
 have f2:(r+1)*A*D=(r+1)*(A*D):=by grind
 have f3:(x+B)*D=x*D+B*D:=by grind
 rw [f1,a1,a2] at k1;rw [f2,f3,a1,a2] at k2
 constructor<;>grind
theorem Lm (P x:Nat × Nat) (M j:Nat) (hP:bV P M (50000*e96)) (hx:bV x j (50000*e96)) (hs:P.2*x.2<=P.1*x.1) :
 (-(262144*e96)<=((P.2*x.1+P.1*x.2:Nat):Rat)*(e96*e96)-zs (M+j)/\((P.2*x.1+P.1*x.2:Nat):Rat)*(e96*e96)-zs (M+j)<=262144*e96) /\
 (-(262144*e96)<=((P.1*x.1-P.2*x.2:Nat):Rat)*(e96*e96)-zc (M+j)/\((P.1*x.1-P.2*x.2:Nat):Rat)*(e96*e96)-zc (M+j)<=262144*e96):=by
 obtain ⟨⟨a1,a2⟩,⟨b1,b2⟩⟩:=hP;obtain ⟨⟨c1,c2⟩,⟨d1,d2⟩⟩:=hx;obtain ⟨za1,za2⟩:=Yr M j;rw [jY _ _ hs];simp only [Rat.natCast_add,Rat.natCast_mul];rw [za1,za2];have hp:=iE;have hes:=iw;have zr:=qL j;have zr2:=lL j;have zn:=qL M;have zn2:=lL M;generalize (P.1:Rat)=p1 at *
 generalize (P.2:Rat)=p2 at *
 generalize (x.1:Rat)=x1 at *
 generalize (x.2:Rat)=x2 at *
 generalize zc M=u at *
 generalize zs M=v at *
 generalize zc j=k at *
 generalize zs j=l at *
 generalize e96=d at *
 obtain ⟨A,hA⟩:∃ A,A=p1*d-u:=⟨_,rfl⟩;obtain ⟨B,hB⟩:∃ B,B=p2*d-v:=⟨_,rfl⟩;obtain ⟨G,hG⟩:∃ G,G=x1*d-k:=⟨_,rfl⟩;obtain ⟨H,hH⟩:∃ H,H=x2*d-l:=⟨_,rfl⟩;rw [<-hA] at a1 a2;rw [<-hB] at b1 b2;rw [<-hG] at c1 c2;rw [<-hH] at d1 d2;have q1:(p2*x1+p1*x2)*(d*d)=(v+B)*(k+G)+(u+A)*(l+H):=by grind
 have q2:(p1*x1-p2*x2)*(d*d)=(u+A)*(k+G)-(v+B)*(l+H):=by grind
 rw [q1,q2];clear hA hB hG hH q1 q2 za1 za2;have hb:50000*d<=1/100:=by grind
 have t1:=aB B k (50000*d) 1 b1 b2 (by grind) (by grind)
 have t2:=aB A l (50000*d) 1 a1 a2 (by grind) (by grind)
 have t3:=aB (v+B) G (101/100) (50000*d) (by grind) (by grind) c1 c2
 have t4:=aB (u+A) H (101/100) (50000*d) (by grind) (by grind) d1 d2
 have t5:=aB A k (50000*d) 1 a1 a2 (by grind) (by grind)
 have t6:=aB B l (50000*d) 1 b1 b2 (by grind) (by grind)
 have t7:=aB (u+A) G (101/100) (50000*d) (by grind) (by grind) c1 c2
 have t8:=aB (v+B) H (101/100) (50000*d) (by grind) (by grind) d1 d2
 refine ⟨⟨?_,?_⟩,⟨?_,?_⟩⟩<;>grind
theorem kI (p:Nat × Nat) (n:Nat) (e f:Rat) (h:bV p n e) (hf:e<=f):bV p n f:=by
 obtain ⟨⟨a1,a2⟩,⟨b1,b2⟩⟩:=h;refine ⟨⟨?_,?_⟩,⟨?_,?_⟩⟩<;>grind
theorem YR (i:Nat) (hi:i<=1350):32*(i:Rat)*e96<=50000*e96:=by
 have hp:=iE;have h:(i:Rat)<=1350:=by exact_mod_cast hi
 exact Rat.mul_le_mul_of_nonneg_right (by grind) (by grind)
theorem tK (j:Nat) (hj:j<=2000):7*(j:Rat)*e96<=50000*e96:=by
 have hp:=iE;have h:(j:Rat)<=2000:=by exact_mod_cast hj
 exact Rat.mul_le_mul_of_nonneg_right (by grind) (by grind)
theorem uB:50000*e96<=1/100000:=by have:=iw;unfold e96;decide +kernel
theorem Lv (P:Nat × Nat) (m:Nat) (l:List (Nat × Nat)) (hm:m<=1349) (hP:bV P (2000*m) (50000*e96))
 (hl:∀ x∈l,∃ j,j<2000/\bV x j (7*j*e96))
 (h1:chk (ones l.length) (P.2*pack (l.map (·.1))+P.1*pack (l.map (·.2)))=true) (h2:chk (ones l.length) (P.1*pack (l.map (·.1))-P.2*pack (l.map (·.2)))=true) :
 ∀ x∈l,∀ j,j<2000->bV x j (50000*e96)->(∃ q:Nat,FlR (zs (2000*m+j)) q)/\(∃ q:Nat,FlR (zc (2000*m+j)) q):=by
 have hs:∀ x∈l,P.2*x.2<=P.1*x.1:=by
  intro x hx;obtain ⟨j,hj,hn⟩:=hl x hx;have hn:=kI _ _ _ _ hn (tK j (by omega))
  have z1:=xD j (by omega)
  have z2:=eT j (by omega)
  have z3:=lL (2000*m);have z4:=eT (2000*m) (by omega)
  obtain ⟨⟨a1,a2⟩,⟨b1,b2⟩⟩:=hP;obtain ⟨⟨c1,c2⟩,⟨d1,d2⟩⟩:=hn;have hf:=uB;generalize 50000*e96=f at *
  apply Ik P.2 x.2 P.1 x.1 (11/10) (1/100) (1/10) (2/10)<;>grind
 have hf:=uB;have hr:=QL P l (J8 P _ _ (by omega) hf hP) (fun x hx=>by
  obtain ⟨j,hj,hn⟩:=hl x hx;exact J8 x j _ (by omega) hf (kI _ _ _ _ hn (tK j (by omega)))) hs h1 h2
 intro x hx j hj hn;obtain ⟨f1,f2⟩:=hr x hx;obtain ⟨g1,g2⟩:=Lm P x _ j hP hn (hs x hx);exact ⟨Ad _ _ f1 g1.1 g1.2,Ad _ _ f2 g2.1 g2.2⟩
theorem qz (q m:Nat) (p:Nat × Nat) (l:List (Nat × Nat)) (hq:m+q<=1350) (hp:bV p (2000*m) (32*m*e96))
 (hl:∀ x∈l,∃ j,j<2000/\bV x j (7*j*e96))
 (h:look q p (pack (l.map (·.1)),pack (l.map (·.2))) (ones l.length)=true) :
 ∀ i,i<q->∀ x∈l,∀ j,j<2000->bV x j (50000*e96)->(∃ q:Nat,FlR (zs (2000*(m+i)+j)) q)/\(∃ q:Nat,FlR (zc (2000*(m+i)+j)) q):=by
 induction q generalizing m p with
 | zero=>intro i hi;omega
 | succ q ih =>
  simp only [look,Bool.and_eq_true] at h;obtain ⟨⟨h1,h2⟩,h3⟩:=h;have r0:=Lv p m l (by omega) (kI _ _ _ _ hp (YR m (by omega))) hl h1 h2
  have r1:=ih (m+1) (stT p) (by omega) (qB p m (by omega) hp) h3
  clear ih h1 h2 h3 hl hp;intro i hi x hx j hj hn
  by_cases hz:i=0
  . subst hz;rw [Nat.add_zero];exact r0 x hx j hj hn
  . have r:=r1 (i-1) (by omega) x hx j hj hn;rw [show m+1+(i-1)=m+i by omega] at r;exact r
theorem LG (k m:Nat) (p:Nat × Nat) (hk:m+k<=1350) (hp:bV p (2000*m) (32*m*e96)):bV (Es k p) (2000*(m+k)) (32*(m+k:Nat)*e96):=by
 induction k generalizing m p with
 | zero=>rw [M5,Nat.add_zero];exact hp
 | succ k ih =>
  have r:=ih (m+1) (stT p) (by omega) (qB p m (by omega) hp)
  rw [show m+1+k=m+(k+1) by omega] at r
  rw [Mg];exact r
theorem GM:bV (F96,0) (2000*0) (32*(0:Nat)*e96):=by
 have h:=Ee;have e:(32:Rat)*((0:Nat):Rat)*e96=0:=by norm_cast;grind
 rw [e];exact h
theorem uZ:bV (F96,0) 0 (7*(0:Nat)*e96):=by
 have h:=Ee;have e:(7:Rat)*((0:Nat):Rat)*e96=0:=by norm_cast;grind
 rw [e];exact h
theorem OU (n:Nat) (h0:n≠0) (h1:n≠1800000) (h2:n<2700000) (t u:List (Nat × Nat)) (p:Nat × Nat)
 (H1:look 899 (stT (F96,0)) (pack (t.map (·.1)),pack (t.map (·.2))) (ones t.length)=true)
 (H2:look 1 p (pack (u.map (·.1)),pack (u.map (·.2))) (ones u.length)=true)
 (H3:look 449 (stT p) (pack (t.map (·.1)),pack (t.map (·.2))) (ones t.length)=true)
 (H4:look 1 (F96,0) (pack (u.map (·.1)),pack (u.map (·.2))) (ones u.length)=true)
 (kt:∀ x∈t,∃ j,j<2000/\bV x j (7*j*e96)) (ku:∀ x∈u,∃ j,j<2000/\bV x j (7*j*e96))
 (nt:∀ j,j<2000->∃ x∈t,bV x (0+j) (7*(0+j:Nat)*e96)) (nu:∀ j,j<1999->∃ x∈u,bV x (0+1+j) (7*(0+1+j:Nat)*e96))
 (p9:bV p (2000*(0+900)) (32*(0+900:Nat)*e96)):(∃ q:Nat,FlR (zs n) q)/\(∃ q:Nat,FlR (zc n) q):=by
 have s1:=qB (F96,0) 0 (by omega) GM
 have s9:=qB _ (0+900) (by omega) p9
 have en:2000*(n/2000)+n%2000=n:=by omega
 have hi:n/2000<1350:=by omega
 have hj:n%2000<2000:=by omega
 have hnz:n/2000=0∨n/2000=900->n%2000≠0:=by omega
 generalize n/2000=i at *
 generalize n%2000=j at *
 subst en
 by_cases c0:i=0
 . subst c0;have hj0:=hnz (.inl rfl);obtain ⟨x,hx,hn⟩:=nu (j-1) (by omega)
   rw [show 0+1+(j-1)=j by omega] at hn
   exact qz 1 0 (F96,0) u (by omega) GM ku H4 0 (by omega) x hx j hj (kI _ _ _ _ hn (tK j (by omega)))
 by_cases c9:i=900
 . subst c9;have hj0:=hnz (.inr rfl);obtain ⟨x,hx,hn⟩:=nu (j-1) (by omega)
   rw [show 0+1+(j-1)=j by omega] at hn
   exact qz 1 (0+900) p u (by omega) p9 ku H2 0 (by omega) x hx j hj (kI _ _ _ _ hn (tK j (by omega)))
 obtain ⟨x,hx,hn⟩:=nt j (by omega)
 rw [show 0+j=j by omega] at hn
 by_cases c:i<900
 . have r:=qz 899 (0+1) (stT (F96,0)) t (by omega) s1 kt H1 (i-1) (by omega) x hx j hj (kI _ _ _ _ hn (tK j (by omega)))
   rw [show 0+1+(i-1)=i by omega] at r
   exact r
 . have r:=qz 449 (0+900+1) (stT p) t (by omega) s9 kt H3 (i-901) (by omega) x hx j hj (kI _ _ _ _ hn (tK j (by omega)))
   rw [show 0+900+1+(i-901)=i by omega] at r
   exact r
theorem adP {a b c d:Bool} (h:(a&&b&&c&&d)=true):a=true/\b=true/\c=true/\d=true:=by
 cases a<;>cases b<;>cases c<;>cases d<;>simp_all
theorem kX:look 899 (stT (F96,0)) (rE 2000 (F96,0)) (ones 2000)=true/\look 1 (Es 900 (F96,0)) (rE 1999 (st1 (F96,0))) (ones 1999)=true /\
 look 449 (stT (Es 900 (F96,0))) (rE 2000 (F96,0)) (ones 2000)=true/\look 1 (F96,0) (rE 1999 (st1 (F96,0))) (ones 1999)=true:=adP look_ok
theorem Ut (k:Nat) (p:Nat × Nat):rE k p=(pack ((tab k p).map (·.1)),pack ((tab k p).map (·.2))):=by
 have:=MI k p;rw [<-this.1,<-this.2]
theorem nP (q k:Nat) (P p:Nat × Nat) (h:look q P (rE k p) (ones k)=true):look q P (pack ((tab k p).map (·.1)),pack ((tab k p).map (·.2))) (ones (tab k p).length)=true:=by
 rw [GR,<-Ut];exact h
theorem JQ (n:Nat) (h0:n≠0) (h1:n≠1800000) (h2:n<2700000):(∃ q:Nat,FlR (zs n) q)/\(∃ q:Nat,FlR (zc n) q) :=
 OU n h0 h1 h2 (tab 2000 (F96,0)) (tab 1999 (st1 (F96,0))) (Es 900 (F96,0))
  (nP _ _ _ _ kX.1) (nP _ _ _ _ kX.2.1) (nP _ _ _ _ kX.2.2.1) (nP _ _ _ _ kX.2.2.2)
  (fun x hx=>by
   obtain ⟨j,_,hj,hn⟩:=gJ 2000 0 (F96,0) (by omega) uZ x hx
   exact ⟨j,hj,hn⟩)
  (fun x hx=>by
   obtain ⟨j,_,hj,hn⟩:=gJ 1999 (0+1) (st1 (F96,0)) (by omega) (qh _ 0 (by omega) uZ) x hx
   exact ⟨j,hj,hn⟩)
  (Dl 2000 0 (F96,0) (by omega) uZ) (Dl 1999 (0+1) (st1 (F96,0)) (by omega) (qh _ 0 (by omega) uZ))
  (LG 900 0 (F96,0) (by omega) GM)
end Alm
namespace Alm
theorem TR:bQ<=1/((2^54:Int):Rat):=by unfold bQ aO;decide +kernel
theorem oF (x s:Rat) (E q:Int) (hx:x*(L0:Rat)=(E:Rat)) (h1:-bQ<=x-s) (h2:x-s<=bQ)
 (k1:(q*2^24+4)*L0<=E*2^54) (k2:E*2^54<=((q+1)*2^24-4)*L0):FlR s q:=by
 have g1:(((q*2^24+4)*L0:Int):Rat)<=((E*2^54:Int):Rat):=by exact_mod_cast k1
 have g2:((E*2^54:Int):Rat)<=((((q+1)*2^24-4)*L0:Int):Rat):=by exact_mod_cast k2
 simp only [Rat.intCast_mul,Rat.intCast_add,Rat.intCast_sub] at g1 g2;rw [<-hx] at g1 g2;have hl:=qg;have hd:=TR;have t54:((2^54:Int):Rat)*(1/((2^54:Int):Rat))=1:=by decide +kernel
 have t24:((2^24:Int):Rat)*(1/((2^54:Int):Rat))=u30:=by unfold u30;decide +kernel
 have m3:mg=3*(1/((2^54:Int):Rat)):=by unfold mg;decide +kernel
 have f4:((4:Int):Rat)=4:=rfl;have f1:((1:Int):Rat)=1:=rfl;have hm:0<=(1:Rat)/((2^54:Int):Rat):=by decide +kernel
 unfold FlR;rw [m3,<-t24];rw [f4] at g1 g2;rw [f1] at g2;generalize (1:Rat)/((2^54:Int):Rat)=m at *
 generalize ((2^54:Int):Rat)=T at *
 generalize ((2^24:Int):Rat)=S at *
 generalize (L0:Rat)=L at *
 generalize (q:Rat)=r at *
 generalize bQ=d at *
 have c1:(r*S+4)*m<=x:=by
  apply Rat.le_of_mul_le_mul_right (c:=L) _ hl;have:=Rat.mul_le_mul_of_nonneg_right g1 hm;have e1:x*L*T*m=x*L*(T*m):=by grind
  rw [e1,t54] at this;grind
 have c2:x<=((r+1)*S-4)*m:=by
  apply Rat.le_of_mul_le_mul_right (c:=L) _ hl;have:=Rat.mul_le_mul_of_nonneg_right g2 hm;have e1:x*L*T*m=x*L*(T*m):=by grind
  rw [e1,t54] at this;grind
 constructor<;>grind
theorem Rk:(929887696*2^24+4)*L0<=ev cP 1800000*2^54/\ev cP 1800000*2^54<=((929887696+1)*2^24-4)*L0:=by decide +kernel
theorem Oy:(759250124*2^24+4)*L0<=ev cP 2700000*2^54/\ev cP 2700000*2^54<=((759250124+1)*2^24-4)*L0:=by decide +kernel
theorem Pt:(759250124*2^24+4)*L0<=ev sP 2700000*2^54/\ev sP 2700000*2^54<=((759250124+1)*2^24-4)*L0:=by decide +kernel
theorem ZE:FlR (zc 1800000) 929887696:=by
 obtain ⟨_,h1,h2⟩:=near 1800000 (by omega)
 exact oF _ _ _ _ (mM 1800000) h1 h2 Rk.1 Rk.2
theorem Bc:FlR (zc 2700000) 759250124:=by
 obtain ⟨_,h1,h2⟩:=near 2700000 (by omega)
 exact oF _ _ _ _ (mM 2700000) h1 h2 Oy.1 Oy.2
theorem Il:FlR (zs 2700000) 759250124:=by
 obtain ⟨⟨h1,h2⟩,_⟩:=near 2700000 (by omega)
 exact oF _ _ _ _ (kR 2700000) h1 h2 Pt.1 Pt.2
theorem N8 (n:Nat) (h:n<=2700000) (h0:n≠0) (h1:n≠1800000):∃ q:Nat,FlR (zs n) q:=by
 by_cases h2:n=2700000
 . subst h2;exact ⟨759250124,Il⟩
 . exact (JQ n h0 h1 (by omega)).1
theorem RA (n:Nat) (h:n<=2700000) (h0:n≠0):∃ q:Nat,FlR (zc n) q:=by
 by_cases h2:n=2700000
 . subst h2;exact ⟨759250124,Bc⟩
 by_cases h1:n=1800000
 . subst h1;exact ⟨929887696,ZE⟩
 . exact (JQ n h0 h1 (by omega)).2
theorem Ku (s v:Rat) (V q:Nat) (hq:FlR s q) (hv:v=V*aO) (h1:-mg<v-s) (h2:v-s<mg):V/2^226=q:=by
 obtain ⟨a,b⟩:=hq;have e:u30=((2^226:Nat):Rat)*aO:=by unfold u30 aO;decide +kernel
 have hd:=fG;have eq:(((q:Nat):Int):Rat)=(q:Rat):=rfl;rw [eq] at a b;rw [e] at a b;have g1:((q*2^226:Nat):Rat)<((V:Nat):Rat):=by
  rw [Rat.natCast_mul];generalize ((2^226:Nat):Rat)=A at *
  generalize (q:Rat)=r at *
  generalize (V:Rat)=V at *
  generalize aO=d at *
  have:r*A*d<V*d:=by grind
  exact Rat.lt_of_mul_lt_mul_right this (Rat.le_of_lt hd)
 have g2:((V:Nat):Rat)<(((q+1)*2^226:Nat):Rat):=by
  rw [Rat.natCast_mul];have e1:((q+1:Nat):Rat)=(q:Rat)+1:=by rw [Rat.natCast_add];rfl
  rw [e1];generalize ((2^226:Nat):Rat)=A at *
  generalize (q:Rat)=r at *
  generalize (V:Rat)=V at *
  generalize aO=d at *
  have:V*d<(r+1)*A*d:=by grind
  exact Rat.lt_of_mul_lt_mul_right this (Rat.le_of_lt hd)
 have k1:q*2^226<V:=by exact_mod_cast g1
 have k2:V<(q+1)*2^226:=by exact_mod_cast g2
 apply Nat.div_eq_of_lt_le
 . omega
 . omega
theorem JK:100*aO+bQ<mg:=by unfold bQ aO mg;decide +kernel
theorem Cn (n:Nat) (h:n<=2700000) (q:Nat) (hq:FlR (zs n) q):jU n/2^226=q:=by
 obtain ⟨h1,_⟩:=near n h;obtain ⟨a,b⟩:=MG n h;have:=JK;apply Ku (zs n) _ _ _ hq rfl<;>grind
theorem AX (n:Nat) (h:n<=2700000) (q:Nat) (hq:FlR (zc n) q):jd n%W/2^226=q:=by
 obtain ⟨_,h1⟩:=near n h;obtain ⟨a,b⟩:=Ll n h;have hh:=JK;have e:jd n/2^226=q:=by apply Ku (zc n) _ _ _ hq rfl<;>grind
 have zl:=(qL n).2;have hq2:q<2^30:=by
  have h1:=hq.1;have hm:0<mg:=by unfold mg;decide +kernel
  have hu:u30*((2^30:Nat):Rat)=1:=by unfold u30;decide +kernel
  have hup:0<u30:=by unfold u30;decide +kernel
  have:((q:Nat):Rat)<((2^30:Nat):Rat):=by
   have eq:(((q:Nat):Int):Rat)=(q:Rat):=rfl;rw [eq] at h1;apply Rat.lt_of_mul_lt_mul_right (c:=u30) _ (Rat.le_of_lt hup);generalize ((2^30:Nat):Rat)=T at *
   grind
  exact_mod_cast this
 have hlt:jd n<W:=by
  have hW:W=2^226*2^30:=by unfold W;decide +kernel
  rw [hW];have:=Nat.lt_div_mul_add (a:=jd n) (b:=2^226) (by decide)
  have h3:jd n/2^226<2^30:=by omega
  rw [Nat.mul_comm];exact (Nat.div_lt_iff_lt_mul (Nat.two_pow_pos 226)).1 h3
 rw [Nat.mod_eq_of_lt hlt];exact e
end Alm
namespace Alm
def ay (a b:Nat):Nat:=(a/2147483648)*(b/2147483648)+(a/2147483648)*(b%2147483648)/2147483648+(a%2147483648)*(b/2147483648)/2147483648
theorem CJ (a b:Nat):ay a b*2^62<=a*b/\a*b<(ay a b+3)*2^62:=by
 have ha:=Nat.div_add_mod a 2147483648;have hb:=Nat.div_add_mod b 2147483648;have la:=Nat.mod_lt a (show 2147483648>0 by decide)
 have lb:=Nat.mod_lt b (show 2147483648>0 by decide)
 unfold ay;generalize a/2147483648=a1 at *
 generalize a%2147483648=a0 at *
 generalize b/2147483648=b1 at *
 generalize b%2147483648=b0 at *
 subst ha hb;have h1:=Nat.div_add_mod (a1*b0) 2147483648;have h2:=Nat.div_add_mod (a0*b1) 2147483648;have l1:=Nat.mod_lt (a1*b0) (show 2147483648>0 by decide)
 have l2:=Nat.mod_lt (a0*b1) (show 2147483648>0 by decide)
 have h0:a0*b0<=2147483647*2147483647:=Nat.mul_le_mul (by omega) (by omega)
 have e:(2147483648*a1+a0)*(2147483648*b1+b0)=4611686018427387904*(a1*b1)+2147483648*(a1*b0)+2147483648*(a0*b1)+a0*b0:=by grind
 rw [e];generalize a1*b0/2147483648=q1 at *
 generalize a1*b0%2147483648=r1 at *
 generalize a0*b1/2147483648=q2 at *
 generalize a0*b1%2147483648=r2 at *
 generalize a1*b0=m1 at *
 generalize a0*b1=m2 at *
 generalize a1*b1=m3 at *
 generalize a0*b0=m4 at *
 constructor<;>omega
theorem iL (a b:Nat) (h:b<=2^62):ay a b<=a:=by
 have h1:=(CJ a b).1;have h2:a*b<=a*2^62:=Nat.mul_le_mul_left _ h;exact Nat.le_of_mul_le_mul_right (Nat.le_trans h1 h2) (by decide)
theorem He (b:Nat):ay 0 b=0:=by simp [ay]
attribute [irreducible] ay
def xq (r:Nat):Nat:=r*2620088056*512+r*658911831/4194304
def e62:Rat:=1/((2^62:Int):Rat)
theorem jF:0<e62:=by unfold e62;decide +kernel
theorem Ju:((2^62:Nat):Rat)*e62=1:=by unfold e62;decide +kernel
theorem VF:(5626596257239020119:Rat)*e62<=ak*4194304/\ak*4194304<=5626596257239020120*e62:=by unfold e62 ak;constructor<;>decide +kernel
theorem Kn (r:Nat) (h:r<=2700000):-(2*e62)<=(xq r:Rat)*e62-r*ak/\(xq r:Rat)*e62-r*ak<=0:=by
 have h1:xq r*4194304<=r*5626596257239020119/\r*5626596257239020119<=xq r*4194304+4194304:=by unfold xq;omega
 have g1:=bT _ _ h1.1;have g2:=bT _ _ h1.2;rw [Rat.natCast_add] at g2;rw [Rat.natCast_mul,Rat.natCast_mul] at g1 g2;have hp:=jF;have t:=VF;have hr0:=aD r;have hr:(r:Rat)<=4194304:=by exact_mod_cast (show r<=4194304 by omega)
 have c1:((4194304:Nat):Rat)=4194304:=rfl;have c2:((5626596257239020119:Nat):Rat)=5626596257239020119:=rfl;rw [c1,c2] at g1 g2;generalize (xq r:Rat)=x at *
 generalize (r:Rat)=r at *
 generalize e62=e at *
 generalize ak=t at *
 have k1:=Rat.mul_le_mul_of_nonneg_right g1 (Rat.le_of_lt hp);have k2:=Rat.mul_le_mul_of_nonneg_right g2 (Rat.le_of_lt hp);have m1:=Rat.mul_le_mul_of_nonneg_left t.1 hr0;have m2:=Rat.mul_le_mul_of_nonneg_left t.2 hr0;have m3:=Rat.mul_le_mul_of_nonneg_right hr (Rat.le_of_lt hp)
 constructor<;>grind
theorem D8 (r:Nat) (h:r<=2700000):xq r<=2^62:=by unfold xq;omega
def di (r:Nat):Nat:=ay (xq r) (xq r)
theorem vg (r:Nat) (h:r<=2700000):di r<=2^62:=by unfold di;have:=iL (xq r) (xq r) (D8 r h);have:=D8 r h;omega
theorem Db (a b:Nat):(ay a b:Rat)*e62<=(a*e62)*(b*e62)/\(a*e62)*(b*e62)<=(ay a b:Rat)*e62+3*e62:=by
 obtain ⟨h1,h2⟩:=CJ a b;have g1:=bT _ _ h1;have g2:=bT _ _ (Nat.le_of_lt h2);rw [Rat.natCast_mul,Rat.natCast_mul] at g1 g2;have e2:((ay a b+3:Nat):Rat)=(ay a b:Rat)+3:=by norm_cast
 rw [e2] at g2;have hw:=Ju;have hd:=jF;generalize (ay a b:Rat)=m at *
 generalize ((2^62:Nat):Rat)=w at *
 generalize e62=d at *
 have hdd:0<=d*d:=bG d;have k1:=Rat.mul_le_mul_of_nonneg_right g1 hdd;have k2:=Rat.mul_le_mul_of_nonneg_right g2 hdd;have e1:m*w*(d*d)=m*d*(w*d):=by grind
 have e3:(m+3)*w*(d*d)=(m+3)*d*(w*d):=by grind
 rw [e1,hw] at k1;rw [e3,hw] at k2
 constructor<;>grind
theorem zf (r:Nat) (h:r<=2700000):0<=(r*ak)*(r*ak)/\(r*ak)*(r*ak)<=16/25/\0<=(r:Rat)*ak/\(r:Rat)*ak<=4/5 /\
 -(7*e62)<=(di r:Rat)*e62-(r*ak)*(r*ak)/\(di r:Rat)*e62-(r*ak)*(r*ak)<=0:=by
 have hx:=Kn r h;have hm:=Db (xq r) (xq r);have hd:=jF;have hn:(r:Rat)<=2700000:=by exact_mod_cast h
 have hn0:=aD r;have ht:=gL;have hxn:0<=(xq r:Rat)*e62:=Rat.mul_nonneg (aD _) (Rat.le_of_lt hd);have x1:(r:Rat)*ak<=4/5:=by
  have:=Rat.mul_le_mul_of_nonneg_right hn (show 0<=ak by grind);grind
 have x0:0<=(r:Rat)*ak:=Rat.mul_nonneg hn0 (by grind)
 have hs:(di r:Rat)=(ay (xq r) (xq r):Rat):=rfl;rw [hs];generalize (ay (xq r) (xq r):Rat)=M at *
 generalize (xq r:Rat)*e62=X at *
 generalize (r:Rat)*ak=x at *
 generalize e62=d at *
 have t2:=aB x x (4/5) (4/5) (by grind) x1 (by grind) x1
 have p1:=Rat.mul_nonneg (show 0<=x-X by grind) (show 0<=x+X by grind)
 have t:=aB (x-X) (x+X) (2*d) 2 (by grind) (by grind) (by grind) (by grind)
 refine ⟨bG _,by grind,x0,x1,by grind,by grind⟩
def aN:Nat->Nat->Nat->Nat->Int
 | 0,T,_,_=>T
 | m+1,T,s,j=>T-aN m (ay T s/((j+1)*(j+2))) s (j+2)
theorem nN (m T s j:Nat):aN (m+1) T s j=T-aN m (ay T s/((j+1)*(j+2))) s (j+2):=rfl
theorem JG (m s j:Nat):aN m 0 s j=0:=by
 induction m generalizing j with
 | zero=>rfl
 | succ m ih=>simp only [aN,He,Nat.zero_div,ih];rfl
theorem PQ (Y D:Nat) (hD:0<D):((Y/D:Nat):Rat)*D<=Y/\(Y:Rat)<=((Y/D:Nat):Rat)*D+D:=by
 have h1:=Nat.div_mul_le_self Y D;have h2:=Nat.lt_div_mul_add (a:=Y) hD;have g1:=bT _ _ h1;have g2:=bT _ _ (Nat.le_of_lt h2);rw [Rat.natCast_mul] at g1;rw [Rat.natCast_add,Rat.natCast_mul] at g2;exact ⟨g1,g2⟩
theorem ny (T s D:Nat) (hD:2<=D) (t y c:Rat) (hc0:0<=c) (hc:c<=10*e62) (h0:0<=t) (h1:t<=1) (hy0:0<=y) (hy1:y<=16/25)
 (hs1:-(7*e62)<=(s:Rat)*e62-y) (hs2:(s:Rat)*e62-y<=0) (e1:-c<=(T:Rat)*e62-t) (e2:(T:Rat)*e62-t<=c) :
 -((16/25*c+10*e62)+D*e62)<=(((ay T s/D:Nat):Rat)*e62-t*(y/(D:Rat)))*D/\(((ay T s/D:Nat):Rat)*e62-t*(y/(D:Rat)))*D<=16/25*c:=by
 have hd:=jF;have hq:=iB y D hD hy0 (by grind)
 have hm:=Db T s;have hv:=PQ (ay T s) D (by omega)
 have hsn:0<=(s:Rat)*e62:=Rat.mul_nonneg (aD _) (Rat.le_of_lt hd);have hDr:(2:Rat)<=(D:Rat):=by exact_mod_cast hD
 generalize ((ay T s/D:Nat):Rat)=Q at *
 generalize (ay T s:Rat)=H at *
 obtain ⟨q1,q2,q3⟩:=hq;generalize (D:Rat)=D at *
 generalize y/D=z at *
 generalize (T:Rat)=T at *
 generalize (s:Rat)*e62=S at *
 generalize e62=d at *
 have v1:=Rat.mul_le_mul_of_nonneg_right hv.1 (Rat.le_of_lt hd);have v2:=Rat.mul_le_mul_of_nonneg_right hv.2 (Rat.le_of_lt hd);have t1:=aB (T*d-t) S c (16/25) e1 e2 (by grind) (by grind)
 have t2:=Rat.mul_nonneg h0 (show 0<=y-S by grind)
 have t3:=Rat.mul_nonneg (show 0<=1-t by grind) (show 0<=y-S by grind)
 have q4:t*z*D=t*y:=by grind
 constructor<;>grind
theorem I8 (m j T s:Nat) (hj:2<=j) (t y:Rat) (h0:0<=t) (h1:t<=1) (hy0:0<=y) (hy1:y<=16/25)
 (hs1:-(7*e62)<=(s:Rat)*e62-y) (hs2:(s:Rat)*e62-y<=0) (e1:-(3*e62)<=(T:Rat)*e62-t) (e2:(T:Rat)*e62-t<=3*e62) :
 -(3*(m+1:Nat)*e62)<=(aN m T s j:Rat)*e62-t*hr m j y/\(aN m T s j:Rat)*e62-t*hr m j y<=3*(m+1:Nat)*e62:=by
 induction m generalizing j T t with
 | zero =>
  have hh:hr 0 j y=1:=by unfold hr;rfl
  have ha:((aN 0 T s j:Int):Rat)=(T:Rat):=rfl;rw [hh,ha];have:((0+1:Nat):Rat)=1:=rfl;rw [this]
  constructor<;>grind
 | succ m ih =>
  have hd:=jF;have hD:12<=(j+1)*(j+2):=Nat.mul_le_mul (show 3<=j+1 by omega) (show 4<=j+2 by omega)
  have tn:=ny T s ((j+1)*(j+2)) (by omega) t y (3*e62) (by grind) (by grind) h0 h1 hy0 hy1 hs1 hs2 e1 e2
  have hq:=iB y ((j+1)*(j+2)) (by omega) hy0 (by grind)
  have hDr:(12:Rat)<=(((j+1)*(j+2):Nat):Rat):=by exact_mod_cast hD
  have hh:hr (m+1) j y=1-y/(((j+1)*(j+2):Nat):Rat)*hr m (j+2) y:=by simp only [hr]
  have ha:((aN (m+1) T s j:Int):Rat)=(T:Rat)-(aN m (ay T s/((j+1)*(j+2))) s (j+2):Rat):=by
   simp only [aN,Rat.intCast_sub];rfl
  have i:=ih (j+2) (ay T s/((j+1)*(j+2))) (by omega) (t*(y/(((j+1)*(j+2):Nat):Rat)))
  have em:((m+1+1:Nat):Rat)=((m+1:Nat):Rat)+1:=by norm_cast
  rw [hh,ha,em];clear ih hh ha em;generalize (aN m (ay T s/((j+1)*(j+2))) s (j+2):Rat)=A at *
  generalize ((ay T s/((j+1)*(j+2)):Nat):Rat)=Q at *
  generalize hr m (j+2) y=H at *
  generalize (((j+1)*(j+2):Nat):Rat)=D at *
  obtain ⟨q1,q2,q3⟩:=hq;generalize y/D=z at *
  generalize ((m+1:Nat):Rat)=M at *
  generalize (T:Rat)=T at *
  have tz:=aB t z 1 (1/2) (by grind) h1 (by grind) q2
  have tz0:=Rat.mul_nonneg h0 q1;generalize e62=d at *
  have et:t*(1-z*H)=t-t*z*H:=by grind
  rw [et];clear et;generalize t*z=w at *
  have b1:Q*d-w<=3*d:=by
   rcases Rat.le_total (a:=Q*d-w) (b:=3*d) with h|h
   . exact h
   . have:=Rat.mul_nonneg (show 0<=(Q*d-w)-3*d by grind) (show 0<=D-12 by grind)
     have:=Rat.mul_nonneg (show 0<=d by grind) (show 0<=D-12 by grind)
     grind
  have b2:-(3*d)<=Q*d-w:=by
   rcases Rat.le_total (a:=-(3*d)) (b:=Q*d-w) with h|h
   . exact h
   . have:=Rat.mul_nonneg (show 0<=-(3*d)-(Q*d-w) by grind) (show 0<=D-12 by grind)
     have:=Rat.mul_nonneg (show 0<=d by grind) (show 0<=D-12 by grind)
     grind
  have i2:=i tz0 (by grind) b2 b1
  constructor<;>grind
def ji (r:Nat):Int:=aN 34 (xq r) (di r) 1
def jf (r:Nat):Int:=aN 34 (2^62) (di r) 0
theorem zg (r:Nat) (h:r<=2700000):-(110*e62)<=(ji r:Rat)*e62-ps r/\(ji r:Rat)*e62-ps r<=110*e62:=by
 obtain ⟨y0,y1,x0,x1,s1,s2⟩:=zf r h;obtain ⟨a1,a2⟩:=Kn r h;have hd:=jF;have tn:=ny (xq r) (di r) 6 (by omega) (r*ak) _ (2*e62) (by grind) (by grind) x0 (by grind) y0 y1 s1 s2 (by grind) (by grind)
 have hq:=iB ((r*ak)*(r*ak)) 6 (by omega) y0 (by grind)
 have hh:hr 34 1 ((r*ak)*(r*ak))=1-(r*ak)*(r*ak)/((6:Nat):Rat)*hr 33 3 ((r*ak)*(r*ak)):=by simp only [hr]
 have ha:((ji r:Int):Rat)=(xq r:Rat)-(aN 33 (ay (xq r) (di r)/6) (di r) 3:Rat):=by
  have e:ji r=((xq r:Nat):Int)-aN 33 (ay (xq r) (di r)/6) (di r) 3:=by
   show aN (33+1) (xq r) (di r) 1=_;rw [nN]
  rw [e,Rat.intCast_sub];rfl
 have i:=I8 33 3 (ay (xq r) (di r)/6) (di r) (by omega) ((r*ak)*((r*ak)*(r*ak)/((6:Nat):Rat))) ((r*ak)*(r*ak))
 rw [Aa,hh,ha];clear hh ha;have c6:((6:Nat):Rat)=6:=rfl;have c34:((33+1:Nat):Rat)=34:=rfl;rw [c34] at i;rw [c6] at *
 obtain ⟨q1,q2,q3⟩:=hq;generalize (aN 33 (ay (xq r) (di r)/6) (di r) 3:Rat)=A at *
 generalize ((ay (xq r) (di r)/6:Nat):Rat)=Q at *
 generalize hr 33 3 ((r*ak)*(r*ak))=H at *
 generalize (r:Rat)*ak*(r*ak)/6=z at *
 generalize (xq r:Rat)=X at *
 generalize (di r:Rat)=S at *
 generalize (r:Rat)*ak=x at *
 have tz:=aB x z 1 (1/2) (by grind) (by grind) (by grind) q2
 have tz0:=Rat.mul_nonneg x0 q1;generalize e62=d at *
 have i2:=i tz0 (by grind) y0 y1 s1 s2 (by grind) (by grind)
 constructor<;>grind
theorem Ae (r:Nat) (h:r<=2700000):-(110*e62)<=(jf r:Rat)*e62-pc r/\(jf r:Rat)*e62-pc r<=110*e62:=by
 obtain ⟨y0,y1,x0,x1,s1,s2⟩:=zf r h;have hd:=jF;have hw:=Ju;have tn:=ny (2^62) (di r) 2 (by omega) 1 _ 0 (by grind) (by grind) (by grind) (by grind) y0 y1 s1 s2 (by rw [hw];grind) (by rw [hw];grind)
 have hq:=iB ((r*ak)*(r*ak)) 2 (by omega) y0 (by grind)
 have hh:hr 34 0 ((r*ak)*(r*ak))=1-(r*ak)*(r*ak)/((2:Nat):Rat)*hr 33 2 ((r*ak)*(r*ak)):=by simp only [hr]
 have tn2:=ny (ay (2^62) (di r)/2) (di r) 12 (by omega) (1*((r*ak)*(r*ak)/((2:Nat):Rat))) _ (6*e62) (by grind) (by grind) (by grind) (by grind) y0 y1 s1 s2
 have hq2:=iB ((r*ak)*(r*ak)) 12 (by omega) y0 (by grind)
 have hh2:hr 33 2 ((r*ak)*(r*ak))=1-(r*ak)*(r*ak)/((12:Nat):Rat)*hr 32 4 ((r*ak)*(r*ak)):=by simp only [hr]
 have ha:((jf r:Int):Rat)=((2^62:Nat):Rat)-((ay (2^62) (di r)/2:Nat):Rat)+(aN 32 (ay (ay (2^62) (di r)/2) (di r)/12) (di r) 4:Rat):=by
  have e:jf r=((2^62:Nat):Int)-((ay (2^62) (di r)/2:Nat):Int)+aN 32 (ay (ay (2^62) (di r)/2) (di r)/12) (di r) 4:=by
   show aN (32+1+1) (2^62) (di r) 0=_;rw [nN,nN];simp only [Nat.reduceAdd,Nat.reduceMul];generalize aN 32 _ _ _=A;omega
  rw [e,Rat.intCast_add,Rat.intCast_sub];rfl
 have i:=I8 32 4 (ay (ay (2^62) (di r)/2) (di r)/12) (di r) (by omega) (1*((r*ak)*(r*ak)/((2:Nat):Rat))*((r*ak)*(r*ak)/((12:Nat):Rat))) ((r*ak)*(r*ak))
 rw [zV,hh,hh2,ha];clear hh hh2 ha;have c2:((2:Nat):Rat)=2:=rfl;have c12:((12:Nat):Rat)=12:=rfl;have c33:((32+1:Nat):Rat)=33:=rfl;rw [c33] at i;rw [c12] at *
 rw [c2] at *
 obtain ⟨q1,q2,q3⟩:=hq;obtain ⟨p1,p2,p3⟩:=hq2;generalize (aN 32 (ay (ay (2^62) (di r)/2) (di r)/12) (di r) 4:Rat)=A at *
 generalize ((ay (ay (2^62) (di r)/2) (di r)/12:Nat):Rat)=Q2 at *
 generalize ((ay (2^62) (di r)/2:Nat):Rat)=Q at *
 generalize hr 32 4 ((r*ak)*(r*ak))=H at *
 generalize (r:Rat)*ak*(r*ak)/2=z at *
 generalize (r:Rat)*ak*(r*ak)/12=z2 at *
 generalize (di r:Rat)=S at *
 generalize ((2^62:Nat):Rat)=X at *
 generalize (r:Rat)*ak=x at *
 generalize e62=d at *
 have tn2:=tn2 (by grind) (by grind)
 have tz:=aB z z2 1 (1/2) (by grind) (by grind) (by grind) p2
 have tz0:=Rat.mul_nonneg q1 p1;have i2:=i (by grind) (by grind) y0 y1 s1 s2 (by grind) (by grind)
 constructor<;>grind
theorem Dm:bQ<=e62:=by unfold bQ aO e62;decide +kernel
theorem FC (s:Rat) (V q:Int) (hq:FlR s q) (h1:-(200*e62)<=V*e62-s) (h2:V*e62-s<=200*e62):q*4294967296+500<=V/\V+500<=(q+1)*4294967296:=by
 obtain ⟨a,b⟩:=hq;have e1:u30=4294967296*e62:=by unfold u30 e62;decide +kernel
 have e2:mg=768*e62:=by unfold mg e62;decide +kernel
 have hd:=jF;rw [e1,e2] at a b;have g1:((q*4294967296+500:Int):Rat)<=((V:Int):Rat):=by
  rw [Rat.intCast_add,Rat.intCast_mul];have c1:((4294967296:Int):Rat)=4294967296:=rfl;have c2:((500:Int):Rat)=500:=rfl;rw [c1,c2];generalize (q:Rat)=r at *
  generalize (V:Rat)=V at *
  generalize e62=d at *
  have:(r*4294967296+500)*d<=V*d:=by grind
  exact Rat.le_of_mul_le_mul_right this hd
 have g2:((V+500:Int):Rat)<=(((q+1)*4294967296:Int):Rat):=by
  rw [Rat.intCast_add,Rat.intCast_mul,Rat.intCast_add];have c1:((4294967296:Int):Rat)=4294967296:=rfl;have c2:((500:Int):Rat)=500:=rfl;have c3:((1:Int):Rat)=1:=rfl;rw [c1,c2,c3];generalize (q:Rat)=r at *
  generalize (V:Rat)=V at *
  generalize e62=d at *
  have:(V+500)*d<=((r+1)*4294967296)*d:=by grind
  exact Rat.le_of_mul_le_mul_right this hd
 exact ⟨Rat.intCast_le_intCast.1 g1,Rat.intCast_le_intCast.1 g2⟩
theorem VY (r:Nat) (h:r<=2700000) (h0:r≠0) (h1:r≠1800000):((jU r/2^226:Nat):Int)*4294967296+500<=ji r/\ji r+500<=(((jU r/2^226:Nat):Int)+1)*4294967296:=by
 obtain ⟨q,hq⟩:=N8 r h h0 h1;rw [Cn r h q hq];obtain ⟨a,b⟩:=zg r h;obtain ⟨⟨c,d⟩,_⟩:=near r h;have:=Dm;apply FC (zs r) _ _ hq<;>grind
theorem RS (r:Nat) (h:r<=2700000) (h0:r≠0):((jd r%W/2^226:Nat):Int)*4294967296+500<=jf r/\jf r+500<=(((jd r%W/2^226:Nat):Int)+1)*4294967296:=by
 obtain ⟨q,hq⟩:=RA r h h0;rw [AX r h q hq];obtain ⟨a,b⟩:=Ae r h;obtain ⟨_,c,d⟩:=near r h;have:=Dm;apply FC (zc r) _ _ hq<;>grind
end Alm
namespace Alm
theorem Ka (i j0 d:Nat) (T sq:Nat) (S tot:Int) (hj:j0<=1) (hd:d=j0+1+4*i) (hs:sq<=2^62) (e:S+aN (34-2*i) T sq (j0+4*i)=tot) (h:T*16^i<=2^62) (hS:0<=S) (hST:S+T<=4611686018427387904) (hT:0<T) :
 d<=70/\ay T sq/(d*(d+1))<=T/\ay (ay T sq/(d*(d+1))) sq/((d+2)*(d+3))<T/\(d+4=j0+1+4*(i+1)) /\
 (S+T-(ay T sq/(d*(d+1)):Nat))+aN (34-2*(i+1)) (ay (ay T sq/(d*(d+1))) sq/((d+2)*(d+3))) sq (j0+4*(i+1))=tot /\
 ay (ay T sq/(d*(d+1))) sq/((d+2)*(d+3))*16^(i+1)<=2^62/\0<=S+T-(ay T sq/(d*(d+1)):Nat) /\
 S+T-(ay T sq/(d*(d+1)):Nat)+(ay (ay T sq/(d*(d+1))) sq/((d+2)*(d+3)):Nat)<=4611686018427387904:=by
 have hi:i<=15:=by
  apply Decidable.byContradiction;intro hn;have h1:16^16<=16^i:=Nat.pow_le_pow_right (by omega) (by omega)
  have h2:1*16^i<=T*16^i:=Nat.mul_le_mul_right _ hT;omega
 have k1:=iL T sq hs;have hD1:2<=d*(d+1):=Nat.mul_le_mul (show 1<=d by omega) (show 2<=d+1 by omega)
 have hD2:12<=(d+2)*(d+3):=Nat.mul_le_mul (show 3<=d+2 by omega) (show 4<=d+3 by omega)
 have t1:ay T sq/(d*(d+1))*2<=T:=by
  have a:=Nat.div_mul_le_self (ay T sq) (d*(d+1));have b:ay T sq/(d*(d+1))*2<=ay T sq/(d*(d+1))*(d*(d+1)):=Nat.mul_le_mul_left _ hD1;omega
 generalize hT1:ay T sq/(d*(d+1))=T1 at *
 have k2:=iL T1 sq hs;have t2:ay T1 sq/((d+2)*(d+3))*12<=T1:=by
  have a:=Nat.div_mul_le_self (ay T1 sq) ((d+2)*(d+3));have b:ay T1 sq/((d+2)*(d+3))*12<=ay T1 sq/((d+2)*(d+3))*((d+2)*(d+3)):=Nat.mul_le_mul_left _ hD2;omega
 generalize hT2:ay T1 sq/((d+2)*(d+3))=T2 at *
 refine ⟨by omega,by omega,by omega,by omega,?_,?_,by omega,by omega⟩
 . have e34:34-2*i=(34-2*(i+1))+1+1:=by omega
   rw [e34,nN,nN] at e;have f1:(j0+4*i+1)*(j0+4*i+2)=d*(d+1):=by
    rw [show j0+4*i+1=d by omega,show j0+4*i+2=d+1 by omega]
   have f2:(j0+4*i+2+1)*(j0+4*i+2+2)=(d+2)*(d+3):=by
    rw [show j0+4*i+2+1=d+2 by omega,show j0+4*i+2+2=d+3 by omega]
   rw [f1,hT1,f2,hT2,show j0+4*i+2+2=j0+4*(i+1) by omega] at e
   omega
 . have:T2*16*16^i<=T*16^i:=Nat.mul_le_mul_right _ (by omega)
   have e2:T2*16^(i+1)=T2*16*16^i:=by rw [Nat.pow_succ];grind
   omega
