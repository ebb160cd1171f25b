/- Plain numbers: powers of a rational point of the unit circle, and the Taylor polynomials that are near them. -/

set_option linter.unusedVariables false
set_option linter.unusedSimpArgs false
namespace Alm
def tp:Int:=296274873071786043043638596174445290133440682168229591076874812683228118407787832338
def th:Int:=621333442612237862514429719835185485259647600872884162104361705958491964691833831490694480
def c1n:Int:=2^600-tp*tp
def s1n:Int:=2^301*tp
def dd:Int:=2^600+tp*tp
theorem Oh:c1n*c1n+s1n*s1n=dd*dd:=by decide +kernel
theorem uV:0<dd:=by decide +kernel
def ev:List Int->Int->Int
 | [],_=>0
 | a::l,n=>a+n*ev l n
def xu:List Int->List Int->List Int
 | [],m=>m
 | a::l,[]=>a::l
 | a::l,b::m=>(a+b)::xu l m
theorem pW (l m:List Int) (n:Int):ev (xu l m) n=ev l n+ev m n:=by
 induction l generalizing m with
 | nil=>simp [xu,ev]
 | cons a l ih =>
  cases m with
  | nil=>simp [xu,ev]
  | cons b m=>simp only [xu,ev,ih];grind
def kH (c:Int):List Int->List Int
 | []=>[]
 | a::l=>c*a::kH c l
theorem kS (c:Int) (l:List Int) (n:Int):ev (kH c l) n=c*ev l n:=by
 induction l with
 | nil=>simp [kH,ev]
 | cons a l ih=>simp only [kH,ev,ih];grind
def rM:List Int->List Int
 | []=>[]
 | a::l=>let r:=rM l;xu (a::r) r
theorem mQ (l:List Int) (n:Int):ev (rM l) n=ev l (n+1):=by
 induction l with
 | nil=>simp [rM,ev]
 | cons a l ih=>simp only [rM,pW,ev,ih];grind
def Bg:List Int->Int->Int
 | [],_=>0
 | a::l,m=>(a.natAbs:Int)+m*Bg l m
theorem xz (n m x y:Int) (h0:0<=n) (h:n<=m) (hxy:(x.natAbs:Int)<=y):((n*x).natAbs:Int)<=m*y:=by
 rw [Int.natAbs_mul,Int.natCast_mul];have h1:(n.natAbs:Int)=n:=by omega
 rw [h1];have a1:=Int.mul_le_mul_of_nonneg_right h (show (0:Int)<=(x.natAbs:Int) by omega)
 have a2:=Int.mul_le_mul_of_nonneg_left hxy (show 0<=m by omega)
 omega
theorem Ib (l:List Int) (n m:Int) (h0:0<=n) (h:n<=m):((ev l n).natAbs:Int)<=Bg l m:=by
 induction l with
 | nil=>simp [ev,Bg]
 | cons a l ih =>
  have:=xz n m _ _ h0 h ih;simp only [ev,Bg];omega
def kQ:Int:=2^320
def jm:Nat->Nat->Int->List Int
 | 0,_,_=>[]
 | m+1,k,a=>a::jm m (k+1) (a*th/(kQ*((k+1:Nat):Int)))
def fact:Nat->Nat
 | 0=>1
 | n+1=>(n+1)*fact n
def L0:Int:=2^(320*69)*(fact 69:Nat)
def A0:List Int:=jm 70 0 L0
def Cq:List Int->List Int
 | []=>[]
 | [a]=>[a]
 | a::_::l=>a::0::kH (-1) (Cq l)
def alt:List Int->Int->Int
 | [],_=>0
 | [a],_=>a
 | a::_::l,y=>a-y*alt l y
theorem Ga (l:List Int) (n:Int):ev (Cq l) n=alt l (n*n):=by
 induction l using Cq.induct with
 | case1=>simp [Cq,alt,ev]
 | case2 a=>simp [Cq,alt,ev]
 | case3 a b l ih=>simp only [Cq,alt,ev,kS,ih];grind
def sP:List Int:=0::Cq A0.tail
def cP:List Int:=Cq A0
def dS:List Int:=xu (kH dd (rM sP)) (kH (-1) (xu (kH c1n sP) (kH s1n cP)))
def dC:List Int:=xu (kH dd (rM cP)) (xu (kH (-c1n) cP) (kH s1n sP))
def M0:Int:=2700000
theorem NI:Bg dS M0*2^256<=dd*L0:=by decide +kernel
theorem Oi:Bg dC M0*2^256<=dd*L0:=by decide +kernel
theorem xP:((ev sP M0-ev cP M0).natAbs:Int)*2^256<=L0:=by decide +kernel
theorem start:ev sP 0=0/\ev cP 0=L0:=by decide +kernel
theorem nW:0<L0:=by decide +kernel
attribute [irreducible] kQ L0 A0 tp th c1n s1n dd sP cP
end Alm
namespace Alm
def c1:Rat:=(c1n:Rat)/(dd:Rat)
def s1:Rat:=(s1n:Rat)/(dd:Rat)
theorem OM:(0:Rat)<(dd:Rat):=by exact_mod_cast uV
theorem Ed:(dd:Rat)≠0:=by have:=OM;grind
theorem wF:c1*(dd:Rat)=(c1n:Rat):=Rat.div_mul_cancel Ed
theorem uT:s1*(dd:Rat)=(s1n:Rat):=Rat.div_mul_cancel Ed
theorem Cg:c1*c1+s1*s1=1:=by
 have h:((c1n*c1n+s1n*s1n:Int):Rat)=((dd*dd:Int):Rat):=by rw [Oh]
 simp only [Rat.intCast_add,Rat.intCast_mul] at h;rw [<-wF,<-uT] at h;have h2:(c1*c1+s1*s1-1)*((dd:Rat)*dd)=0:=by grind
 rcases Rat.mul_eq_zero.1 h2 with h3|h3
 . grind
 . rcases Rat.mul_eq_zero.1 h3 with h4|h4<;>exact absurd h4 Ed
def zz:Nat->Rat × Rat
 | 0=>(1,0)
 | n+1=>((zz n).1*c1-(zz n).2*s1,(zz n).2*c1+(zz n).1*s1)
def zc (n:Nat):Rat:=(zz n).1
def zs (n:Nat):Rat:=(zz n).2
theorem fE:zc 0=1:=rfl
theorem dP:zs 0=0:=rfl
theorem bX (n:Nat):zc (n+1)=zc n*c1-zs n*s1:=rfl
theorem bZ (n:Nat):zs (n+1)=zs n*c1+zc n*s1:=rfl
theorem jk (n:Nat):zc n*zc n+zs n*zs n=1:=by
 induction n with
 | zero=>simp [fE,dP];grind
 | succ n ih=>rw [bX,bZ];have:=Cg;grind
theorem vM (m n:Nat):zc (m+n)=zc m*zc n-zs m*zs n/\zs (m+n)=zs m*zc n+zc m*zs n:=by
 induction n with
 | zero=>simp [fE,dP];grind
 | succ n ih=>rw [<-Nat.add_assoc,bX,bZ,bX,bZ,ih.1,ih.2];grind
theorem aH (x:Rat):0<=x*x:=by
 rcases Rat.le_total (a:=0) (b:=x) with h|h
 . exact Rat.mul_nonneg h h
 . have:0<=(-x)*(-x):=Rat.mul_nonneg (by grind) (by grind)
   grind
theorem jM (x b:Rat) (hb:0<=b) (h:x*x<=b*b):-b<=x/\x<=b:=by
 constructor
 . rcases Rat.le_total (a:=-b) (b:=x) with h1|h1
   . exact h1
   . have h2:0<=(-b-x)*(-b-x):=aH _;rcases Rat.le_iff_lt_or_eq.1 h1 with h3|h3
     . have:0<(-b-x)*((-x)+b):=Rat.mul_pos (by grind) (by grind)
       grind
     . grind
 . rcases Rat.le_total (a:=x) (b:=b) with h1|h1
   . exact h1
   . rcases Rat.le_iff_lt_or_eq.1 h1 with h3|h3
     . have:0<(x-b)*(x+b):=Rat.mul_pos (by grind) (by grind)
       grind
     . grind
theorem fe (x b:Rat) (h1:-b<=x) (h2:x<=b):x*x<=b*b:=by
 have:0<=(b-x)*(b+x):=Rat.mul_nonneg (by grind) (by grind)
 grind
theorem dL (n:Nat):-1<=zs n/\zs n<=1:=by
 apply jM _ 1 (by decide);have:=jk n;have:=aH (zc n);grind
theorem gB (n:Nat):-1<=zc n/\zc n<=1:=by
 apply jM _ 1 (by decide);have:=jk n;have:=aH (zs n);grind
def ps (n:Nat):Rat:=(ev sP n:Rat)/(L0:Rat)
def pc (n:Nat):Rat:=(ev cP n:Rat)/(L0:Rat)
theorem pE:(0:Rat)<(L0:Rat):=by exact_mod_cast nW
theorem wD:(L0:Rat)≠0:=by have:=pE;grind
theorem gD (n:Nat):ps n*(L0:Rat)=(ev sP n:Rat):=Rat.div_mul_cancel wD
theorem iE (n:Nat):pc n*(L0:Rat)=(ev cP n:Rat):=Rat.div_mul_cancel wD
def aU:Rat:=1/(2^256:Int)
theorem Ca:aU*((2^256:Int):Rat)=1:=by
 unfold aU;apply Rat.div_mul_cancel;decide
theorem dU:0<aU:=by
 unfold aU;decide +kernel
theorem jN (x:Rat) (D P:Int) (hP:0<P) (hx:x*(P:Rat)=(D:Rat)) (h:(D.natAbs:Int)*2^256<=P):-aU<=x/\x<=aU:=by
 have hp:(0:Rat)<(P:Rat):=by exact_mod_cast hP
 have k1:D*2^256<=P:=by omega
 have k2:-P<=D*2^256:=by omega
 have e1:((D*2^256:Int):Rat)<=((P:Int):Rat):=by exact_mod_cast k1
 have e2:((-P:Int):Rat)<=((D*2^256:Int):Rat):=by exact_mod_cast k2
 rw [Rat.intCast_mul,<-hx] at e1 e2;rw [Rat.intCast_neg] at e2;have hq:=Ca;have hd:=dU;generalize ((2^256:Int):Rat)=T at *
 generalize (P:Rat)=Q at *
 have e3:=Rat.mul_le_mul_of_nonneg_right e1 (show 0<=aU by grind)
 have e4:=Rat.mul_le_mul_of_nonneg_right e2 (show 0<=aU by grind)
 have e5:x*Q*T*aU=x*Q:=by grind
 rw [e5] at e3 e4
 constructor
 . apply Rat.le_of_mul_le_mul_right (c:=Q) _ hp;grind
 . apply Rat.le_of_mul_le_mul_right (c:=Q) _ hp;grind
theorem Pk (n:Nat) (h:n<2700000):-aU<=ps (n+1)-(ps n*c1+pc n*s1)/\ps (n+1)-(ps n*c1+pc n*s1)<=aU:=by
 apply jN _ (ev dS n) (dd*L0) (Int.mul_pos uV nW)
 . have e:ev dS n=dd*ev sP (n+1)-(c1n*ev sP n+s1n*ev cP n):=by
    simp only [dS,pW,kS,mQ];grind
   rw [e];simp only [Rat.intCast_sub,Rat.intCast_add,Rat.intCast_mul];rw [<-gD n,<-iE n,<-wF,<-uT];have e2:((ev sP ((n:Int)+1):Int):Rat)=ps (n+1)*(L0:Rat):=by rw [gD];norm_cast
   rw [e2];grind
 . have h1:=Ib dS n M0 (by omega) (by unfold M0;omega)
   have h2:=NI;omega
theorem QX (n:Nat) (h:n<2700000):-aU<=pc (n+1)-(pc n*c1-ps n*s1)/\pc (n+1)-(pc n*c1-ps n*s1)<=aU:=by
 apply jN _ (ev dC n) (dd*L0) (Int.mul_pos uV nW)
 . have e:ev dC n=dd*ev cP (n+1)-(c1n*ev cP n-s1n*ev sP n):=by
    simp only [dC,pW,kS,mQ];grind
   rw [e];simp only [Rat.intCast_sub,Rat.intCast_mul];rw [<-gD n,<-iE n,<-wF,<-uT];have e2:((ev cP ((n:Int)+1):Int):Rat)=pc (n+1)*(L0:Rat):=by rw [iE];norm_cast
   rw [e2];grind
 . have h1:=Ib dC n M0 (by omega) (by unfold M0;omega)
   have h2:=Oi;omega
theorem grow (N es ec ds dc a b d:Rat) (hN:0<=N) (hu:a*a+b*b=1) (hd:ds*ds+dc*dc<=d*d)
 (h:es*es+ec*ec<=N*N*(d*d)) :
 (es*a+ec*b+ds)*(es*a+ec*b+ds)+(ec*a-es*b+dc)*(ec*a-es*b+dc)<=(N+1)*(N+1)*(d*d):=by
 rcases Rat.le_iff_lt_or_eq.1 hN with h0|h0
 ·
  have q1:=aH (es*a+ec*b-N*ds);have q2:=aH (ec*a-es*b-N*dc);have hu2:(es*a+ec*b)*(es*a+ec*b)+(ec*a-es*b)*(ec*a-es*b)=es*es+ec*ec:=by
   have:(es*a+ec*b)*(es*a+ec*b)+(ec*a-es*b)*(ec*a-es*b)=(es*es+ec*ec)*(a*a+b*b):=by grind
   rw [this,hu];grind
  apply Rat.le_of_mul_le_mul_left (c:=N) _ h0;rw [<-hu2] at h;generalize es*a+ec*b=u at *
  generalize ec*a-es*b=v at *
  clear hu2 hu;have m1:=Rat.mul_le_mul_of_nonneg_left h (show 0<=N+1 by grind)
  have m2:=Rat.mul_le_mul_of_nonneg_left hd (show 0<=N*(N+1) by exact Rat.mul_nonneg hN (by grind))
  grind
 . subst h0;have:es*es+ec*ec<=0:=by grind
   have h1:=aH es;have h2:=aH ec;have e1:es*es=0:=by grind
   have e2:ec*ec=0:=by grind
   have e3:es=0:=by rcases Rat.mul_eq_zero.1 e1 with h|h<;>exact h
   have e4:ec=0:=by rcases Rat.mul_eq_zero.1 e2 with h|h<;>exact h
   subst e3 e4;grind
def iD:Rat:=2*aU
theorem Xk (x y:Rat) (hx:-aU<=x/\x<=aU) (hy:-aU<=y/\y<=aU):x*x+y*y<=iD*iD:=by
 have h1:=fe x _ hx.1 hx.2;have h2:=fe y _ hy.1 hy.2;have h3:=aH aU;unfold iD;grind
theorem He (n:Nat) (h:n<=2700000):(ps n-zs n)*(ps n-zs n)+(pc n-zc n)*(pc n-zc n)<=((n:Rat)*(n:Rat))*(iD*iD):=by
 induction n with
 | zero =>
  have e1:ps 0=0:=by unfold ps;rw [show ((0:Nat):Int)=0 from rfl,start.1];simp;grind
  have e2:pc 0=1:=by
   unfold pc;rw [show ((0:Nat):Int)=0 from rfl,start.2]
   have:=wD;rw [Rat.div_def,Rat.mul_inv_cancel _ this]
  rw [e1,e2,dP,fE];grind
 | succ n ih =>
  have ih:=ih (by omega)
  have hs:=Pk n (by omega)
  have hc:=QX n (by omega)
  have g:=grow (n:Rat) (ps n-zs n) (pc n-zc n) (ps (n+1)-(ps n*c1+pc n*s1)) (pc (n+1)-(pc n*c1-ps n*s1)) c1 s1 iD (by exact_mod_cast Nat.zero_le n) Cg (Xk _ _ hs hc) ih
  have e1:(ps n-zs n)*c1+(pc n-zc n)*s1+(ps (n+1)-(ps n*c1+pc n*s1))=ps (n+1)-zs (n+1):=by rw [bZ];grind
  have e2:(pc n-zc n)*c1-(ps n-zs n)*s1+(pc (n+1)-(pc n*c1-ps n*s1))=pc (n+1)-zc (n+1):=by rw [bX];grind
  rw [e1,e2] at g;have e3:((n+1:Nat):Rat)=(n:Rat)+1:=by norm_cast
  rw [e3];exact g
def bM:Rat:=((2^26:Int):Rat)*aU
theorem near (n:Nat) (h:n<=2700000):(-bM<=ps n-zs n/\ps n-zs n<=bM)/\(-bM<=pc n-zc n/\pc n-zc n<=bM):=by
 have g:=He n h;have hn:(n:Rat)<=((2^25:Int):Rat):=by
  have:(n:Int)<=2^25:=by omega
  exact_mod_cast this
 have hn0:(0:Rat)<=(n:Rat):=by exact_mod_cast Nat.zero_le n
 have hd:=dU;have hb:0<=bM:=by unfold bM;exact Rat.mul_nonneg (by decide) (by grind)
 have hle:(n:Rat)*(n:Rat)*(iD*iD)<=bM*bM:=by
  have:=fe ((n:Rat)*iD) bM (by
   have:=Rat.mul_nonneg hn0 (show 0<=iD by unfold iD;grind)
   grind) (by
   have:=Rat.mul_le_mul_of_nonneg_right hn (show 0<=iD by unfold iD;grind)
   unfold bM;unfold iD at *
   have e:((2^26:Int):Rat)=((2^25:Int):Rat)*2:=by decide +kernel
   rw [e];grind)
  grind
 have q1:=aH (ps n-zs n);have q2:=aH (pc n-zc n);exact ⟨jM _ _ hb (by grind),jM _ _ hb (by grind)⟩
end Alm
namespace Alm
theorem aB (a b A B:Rat) (h1:-A<=a) (h2:a<=A) (h3:-B<=b) (h4:b<=B):-(A*B)<=a*b/\a*b<=A*B:=by
 have k1:0<=(A-a)*(B+b):=Rat.mul_nonneg (by grind) (by grind)
 have k2:0<=(A+a)*(B-b):=Rat.mul_nonneg (by grind) (by grind)
 have k3:0<=(A-a)*(B-b):=Rat.mul_nonneg (by grind) (by grind)
 have k4:0<=(A+a)*(B+b):=Rat.mul_nonneg (by grind) (by grind)
 constructor<;>grind
def hr:Nat->Nat->Rat->Rat
 | 0,_,_=>1
 | m+1,j,y=>1-y/(((j+1)*(j+2):Nat):Rat)*hr m (j+2) y
theorem DK (n:Nat) (h:0<n):(0:Rat)<(n:Rat):=by exact_mod_cast h
theorem aF (n:Nat):(0:Rat)<=(n:Rat):=by exact_mod_cast Nat.zero_le n
theorem bS (m n:Nat) (h:m<=n):(m:Rat)<=(n:Rat):=by exact_mod_cast h
theorem um (y:Rat) (D:Nat) (hD:2<=D) (h0:0<=y) (h1:y<=1):0<=y/(D:Rat)/\y/(D:Rat)<=1/2/\y/(D:Rat)*(D:Rat)=y:=by
 have hd:(2:Rat)<=(D:Rat):=by exact_mod_cast hD
 have hm:y/(D:Rat)*(D:Rat)=y:=Rat.div_mul_cancel (by grind)
 generalize y/(D:Rat)=z at *
 have hz:0<=z:=by
  rcases Rat.le_total (a:=0) (b:=z) with h|h
  . exact h
  . have:=Rat.mul_nonneg (show 0<=-z by grind) (show 0<=(D:Rat)-1 by grind)
    grind
 have h2:=Rat.mul_nonneg hz (show 0<=(D:Rat)-2 by grind)
 refine ⟨hz,by grind,hm⟩
theorem tu (m j:Nat) (y:Rat) (h0:0<=y) (h1:y<=1):1/2<=hr m j y/\hr m j y<=1:=by
 induction m generalizing j with
 | zero=>simp only [hr];grind
 | succ m ih =>
  have i:=ih (j+2);have q:=um y ((j+1)*(j+2)) (by have:=Nat.mul_le_mul (show 1<=j+1 by omega) (show 2<=j+2 by omega);omega) h0 h1
  simp only [hr];generalize y/(((j+1)*(j+2):Nat):Rat)=z at *
  have:=aB z (hr m (j+2) y) (1/2) 1 (by grind) (by grind) (by grind) (by grind)
  have:=Rat.mul_nonneg q.1 (show 0<=hr m (j+2) y by grind)
  grind
def au:Rat:=(th:Rat)/(kQ:Rat)
def vB:Nat->Nat->Int->Bool
 | 0,_,_=>true
 | m+1,k,a=>(a*th%(kQ*((k+1:Nat):Int))==0)&&vB m (k+1) (a*th/(kQ*((k+1:Nat):Int)))
theorem nO (a d:Int) (h:a*th%d=0):(a*th/d)*d=a*th:=by
 have:=Int.emod_add_mul_ediv (a*th) d;have h2:d*(a*th/d)=a*th:=by omega
 rw [Int.mul_comm];exact h2
theorem ze:au*(kQ:Rat)=(th:Rat):=Rat.div_mul_cancel (by decide +kernel)
theorem yn (m:Nat) (k:Nat) (a n:Int) (h:vB (2*m) k a=true) :
 ((alt (jm (2*m+1) k a) (n*n):Int):Rat)=(a:Rat)*hr m k ((n*au)*(n*au)) /\
 ((alt (jm (2*m+2) k a) (n*n):Int):Rat)=(a:Rat)*hr m k ((n*au)*(n*au)):=by
 induction m generalizing k a with
 | zero=>constructor<;>(simp [jm,alt,hr];try grind)
 | succ m ih =>
  have e0:2*(m+1)=2*m+1+1:=by omega
  rw [e0] at h ⊢
  simp only [vB,Bool.and_eq_true,beq_iff_eq] at h;obtain ⟨h1,h2,h3⟩:=h;have i:=ih (k+1+1) _ h3;have s1:=nO _ _ h1;have s2:=nO _ _ h2;generalize ha1:a*th/(kQ*((k+1:Nat):Int))=a1 at *
  generalize ha2:a1*th/(kQ*((k+1+1:Nat):Int))=a2 at *
  have r1:((a1*(kQ*((k+1:Nat):Int)):Int):Rat)=((a*th:Int):Rat):=by rw [s1]
  have r2:((a2*(kQ*((k+1+1:Nat):Int)):Int):Rat)=((a1*th:Int):Rat):=by rw [s2]
  simp only [Rat.intCast_mul,Rat.intCast_natCast] at r1 r2;rw [<-ze] at r1 r2;have ht:(kQ:Rat)≠0:=by decide +kernel
  have hk1R:((k+1:Nat):Rat)≠0:=by have:=DK (k+1) (by omega);grind
  have hk2R:((k+1+1:Nat):Rat)≠0:=by have:=DK (k+1+1) (by omega);grind
  have key:(n:Rat)*n*(a2:Rat)=(a:Rat)*((n*au)*(n*au)/(((k+1)*(k+2):Nat):Rat)):=by
   have hD:(((k+1)*(k+2):Nat):Rat)=((k+1:Nat):Rat)*((k+1+1:Nat):Rat):=by
    rw [Rat.natCast_mul]
   rw [hD];generalize (kQ:Rat)=T at *
   generalize ((k+1:Nat):Rat)=u at *
   generalize ((k+1+1:Nat):Rat)=v at *
   have c1:(a1:Rat)*u=a*au:=by
    have:((a1:Rat)*u-a*au)*T=0:=by grind
    rcases Rat.mul_eq_zero.1 this with h|h
    . grind
    . exact absurd h ht
   have c2:(a2:Rat)*v=a1*au:=by
    have:((a2:Rat)*v-a1*au)*T=0:=by grind
    rcases Rat.mul_eq_zero.1 this with h|h
    . grind
    . exact absurd h ht
   have huv:u*v≠0:=by
    intro h;rcases Rat.mul_eq_zero.1 h with h|h
    . exact hk1R h
    . exact hk2R h
   have hq:=Rat.div_mul_cancel (a:=(n*au)*(n*au)) (b:=u*v) huv;generalize (n*au)*(n*au)/(u*v)=q at *
   have:((n:Rat)*n*(a2:Rat)-a*q)*(u*v)=0:=by
    have e1:((n:Rat)*n*(a2:Rat)-a*q)*(u*v)=n*n*(a2*v)*u-a*(q*(u*v)):=by grind
    rw [e1,hq,c2];have e2:(n:Rat)*n*(a1*au)*u=n*n*au*(a1*u):=by grind
    rw [e2,c1];grind
   rcases Rat.mul_eq_zero.1 this with h|h
   . grind
   . exact absurd h huv
  have fin:∀ X:Int,(X:Rat)=(a2:Rat)*hr m (k+2) ((n*au)*(n*au)) ->
   ((a-n*n*X:Int):Rat)=(a:Rat)*hr (m+1) k ((n*au)*(n*au)):=by
   intro X hX;simp only [Rat.intCast_sub,Rat.intCast_mul,hX,hr];have:(n:Rat)*n*(a2*hr m (k+2) ((n*au)*(n*au)))=(n*n*a2)*hr m (k+2) ((n*au)*(n*au)):=by grind
   rw [this,key];grind
  constructor
  . have e:jm (2*m+1+1+1) k a=a::a1::jm (2*m+1) (k+1+1) a2:=by
     simp only [jm,ha1,ha2]
    rw [e];simp only [alt];exact fin _ i.1
  . have e:jm (2*m+1+1+2) k a=a::a1::jm (2*m+2) (k+1+1) a2:=by
     simp only [jm,ha1,ha2]
    rw [e];simp only [alt];exact fin _ i.2
theorem QF:vB 68 0 L0=true:=by decide +kernel
theorem Ox:(L0*th%(kQ*((0+1:Nat):Int))==0&&vB 68 1 (L0*th/(kQ*((0+1:Nat):Int))))=true:=by decide +kernel
theorem GH (n:Nat):pc n=hr 34 0 ((n*au)*(n*au)):=by
 have h:=(yn 34 0 L0 n QF).2;have e:((ev cP n:Int):Rat)=(L0:Rat)*hr 34 0 ((n*au)*(n*au)):=by
  have:ev cP n=alt (jm (2*34+2) 0 L0) (n*n):=by
   unfold cP;rw [Ga];unfold A0;rfl
  rw [this,h];rfl
 rw [<-iE] at e;have:(pc n-hr 34 0 ((n*au)*(n*au)))*(L0:Rat)=0:=by grind
 rcases Rat.mul_eq_zero.1 this with h|h
 . grind
 . exact absurd h wD
theorem Cz (n:Nat):ps n=n*au*hr 34 1 ((n*au)*(n*au)):=by
 have hx:=Ox;simp only [Bool.and_eq_true,beq_iff_eq] at hx;have h:=(yn 34 1 _ n hx.2).1;have s1:=nO _ _ hx.1;generalize ha1:L0*th/(kQ*((0+1:Nat):Int))=a1 at *
 have r1:((a1*(kQ*((0+1:Nat):Int)):Int):Rat)=((L0*th:Int):Rat):=by rw [s1]
 have hl:(((0+1:Nat):Int):Rat)=1:=rfl;rw [Rat.intCast_mul,Rat.intCast_mul,Rat.intCast_mul,hl,Rat.mul_one,<-ze] at r1;have ht:(kQ:Rat)≠0:=by decide +kernel
 have c1:(a1:Rat)=L0*au:=by
  generalize (kQ:Rat)=T at *
  have:((a1:Rat)-L0*au)*T=0:=by grind
  rcases Rat.mul_eq_zero.1 this with h|h
  . grind
  . exact absurd h ht
 have e:((ev sP n:Int):Rat)=(L0:Rat)*(n*au*hr 34 1 ((n*au)*(n*au))):=by
  have:ev sP n=n*alt (jm (2*34+1) 1 a1) (n*n):=by
   unfold sP;simp only [ev];rw [Ga];unfold A0;simp only [jm,List.tail,ha1];grind
  rw [this,Rat.intCast_mul,h,c1];simp only [Rat.intCast_natCast];grind
 rw [<-gD] at e;have:(ps n-n*au*hr 34 1 ((n*au)*(n*au)))*(L0:Rat)=0:=by grind
 rcases Rat.mul_eq_zero.1 this with h|h
 . grind
 . exact absurd h wD
attribute [irreducible] hr au
end Alm
namespace Alm
theorem gZ (a b:Nat) (h:b<=a):((a-b:Nat):Rat)=(a:Rat)-(b:Rat):=by
 have e:((a-b+b:Nat):Rat)=(a:Rat):=by rw [Nat.sub_add_cancel h]
 rw [Rat.natCast_add] at e;grind
def W:Nat:=2^256
theorem BR:0<W:=by decide +kernel
def mulN (A B:Nat):Nat :=
 (A*B-(2^64*((A/2^64%2^64)*(B%2^64)+(A%2^64)*(B/2^64%2^64))+(A%2^64)*(B%2^64)))/W
theorem F8 (a b c d:Nat) (ha:a<2^64) (hb:b<2^64) (hc:c<2^64) (hd:d<2^64) :
 2^64*(a*d+b*c)+b*d<W:=by
 have h1:a*d<=2^64*2^64:=Nat.mul_le_mul (by omega) (by omega)
 have h2:b*c<=2^64*2^64:=Nat.mul_le_mul (by omega) (by omega)
 have h3:b*d<=2^64*2^64:=Nat.mul_le_mul (by omega) (by omega)
 unfold W;omega
theorem F3 (A B:Nat):mulN A B*W<=A*B/\A*B<(mulN A B+2)*W:=by
 have hr:=F8 (A/2^64%2^64) (A%2^64) (B/2^64%2^64) (B%2^64) (Nat.mod_lt _ (by decide)) (Nat.mod_lt _ (by decide)) (Nat.mod_lt _ (by decide)) (Nat.mod_lt _ (by decide))
 unfold mulN;generalize 2^64*((A/2^64%2^64)*(B%2^64)+(A%2^64)*(B/2^64%2^64))+(A%2^64)*(B%2^64)=R at *
 generalize A*B=P;have hW:=BR;generalize W=V at *
 have h1:=Nat.div_mul_le_self (P-R) V;have h2:=Nat.lt_div_mul_add (a:=P-R) hW
 constructor
 . omega
 . have:((P-R)/V+2)*V=(P-R)/V*V+V+V:=by grind
   omega
theorem iM (A B:Nat) (hA:A<W) (hB:B<=W):mulN A B<=A:=by
 have h:=(F3 A B).1;have h2:A*B<=A*W:=Nat.mul_le_mul_left A hB;exact Nat.le_of_mul_le_mul_right (Nat.le_trans h h2) BR
def bv:Nat->Nat->Nat->Nat
 | 0,_,_=>0
 | m+1,j,Y=>Y/((j+1)*(j+2))-mulN (Y/((j+1)*(j+2))) (bv m (j+2) Y)
theorem jQ (m j Y:Nat) (hY:Y<W):bv m j Y<=Y:=by
 cases m with
 | zero=>simp [bv]
 | succ m=>simp only [bv];have:=Nat.div_le_self Y ((j+1)*(j+2));omega
theorem W_d:(W:Rat)*aU=1:=by
 have h:=Ca;have e:(W:Rat)=((2^256:Int):Rat):=by unfold W;decide +kernel
 rw [e];grind
theorem uF (A B:Nat):(mulN A B:Rat)*aU<=(A*aU)*(B*aU)/\(A*aU)*(B*aU)<=(mulN A B:Rat)*aU+2*aU:=by
 obtain ⟨h1,h2⟩:=F3 A B;have g1:((mulN A B*W:Nat):Rat)<=((A*B:Nat):Rat):=bS _ _ h1;have g2:((A*B:Nat):Rat)<=(((mulN A B+2)*W:Nat):Rat):=bS _ _ (by omega)
 have e2:((mulN A B+2:Nat):Rat)=(mulN A B:Rat)+2:=by norm_cast
 rw [Rat.natCast_mul,Rat.natCast_mul] at g1 g2;rw [e2] at g2;generalize (mulN A B:Rat)=m at *
 have hw:=W_d;have hd:=dU;generalize (W:Rat)=w at *
 generalize aU=d at *
 have hdd:0<=d*d:=aH d;have k1:=Rat.mul_le_mul_of_nonneg_right g1 hdd;have k2:=Rat.mul_le_mul_of_nonneg_right g2 hdd;have e1:m*w*(d*d)=m*d*(w*d):=by grind
 have e3:(m+2)*w*(d*d)=(m+2)*d*(w*d):=by grind
 rw [e1,hw] at k1;rw [e3,hw] at k2
 constructor<;>grind
theorem Hw (Y D:Nat) (hD:0<D) (y:Rat):((Y/D:Nat):Rat)*D*aU<=Y*aU/\Y*aU<=((Y/D:Nat):Rat)*D*aU+D*aU:=by
 have h1:=Nat.div_mul_le_self Y D;have h2:=Nat.lt_div_mul_add (a:=Y) hD;have g1:((Y/D*D:Nat):Rat)<=(Y:Rat):=bS _ _ h1;have g2:(Y:Rat)<=((Y/D*D+D:Nat):Rat):=bS _ _ (by omega)
 rw [Rat.natCast_mul] at g1;rw [Rat.natCast_add,Rat.natCast_mul] at g2;have hd:=dU;have k1:=Rat.mul_le_mul_of_nonneg_right g1 (show 0<=aU by grind)
 have k2:=Rat.mul_le_mul_of_nonneg_right g2 (show 0<=aU by grind)
 exact ⟨by grind,by grind⟩
theorem wQ (m j Y:Nat) (y:Rat) (hY:Y<W) (h0:0<=y) (h1:y<=1)
 (e1:-(8*aU)<=Y*aU-y) (e2:Y*aU-y<=8*aU) :
 -(64*aU)<=(bv m j Y:Rat)*aU-(1-hr m j y)/\(bv m j Y:Rat)*aU-(1-hr m j y)<=64*aU:=by
 have hd:=dU
 induction m generalizing j with
 | zero=>simp only [bv,hr];constructor<;>grind
 | succ m ih =>
  have i:=ih (j+2);have hbd:=tu m (j+2) y h0 h1;have hD:2<=(j+1)*(j+2):=by have:=Nat.mul_le_mul (show 1<=j+1 by omega) (show 2<=j+2 by omega);omega
  have q:=um y ((j+1)*(j+2)) hD h0 h1;have qq:=Hw Y ((j+1)*(j+2)) (by omega) y
  have hm:=uF (Y/((j+1)*(j+2))) (bv m (j+2) Y);have hle:mulN (Y/((j+1)*(j+2))) (bv m (j+2) Y)<=Y/((j+1)*(j+2)):=by
   apply iM
   . have:=Nat.div_le_self Y ((j+1)*(j+2));omega
   . have:=jQ m (j+2) Y hY;omega
  have hv1:bv m (j+2) Y<=W:=by have:=jQ m (j+2) Y hY;omega
  have hv:=bS _ _ hv1;have hv0:=aF (bv m (j+2) Y);simp only [bv,hr];rw [gZ _ _ hle];have hDr:(2:Rat)<=(((j+1)*(j+2):Nat):Rat):=by exact_mod_cast hD
  generalize hqN:((Y/((j+1)*(j+2)):Nat):Rat)=qN at *
  generalize (mulN (Y/((j+1)*(j+2))) (bv m (j+2) Y):Rat)=pN at *
  generalize (bv m (j+2) Y:Rat)=v at *
  generalize (((j+1)*(j+2):Nat):Rat)=D at *
  generalize hr m (j+2) y=H at *
  obtain ⟨q1,q2,q3⟩:=q;generalize y/D=z at *
  have hw:=W_d;generalize aU=d at *
  have a1:(qN*d-z)*D<=8*d:=by grind
  have a2:-(8*d)-D*d<=(qN*d-z)*D:=by grind
  have b1:qN*d-z<=5*d:=by
   rcases Rat.le_total (a:=qN*d-z) (b:=5*d) with h|h
   . exact h
   . have:=Rat.mul_nonneg (show 0<=(qN*d-z)-5*d by grind) (show 0<=D-2 by grind)
     have:=Rat.mul_nonneg (show 0<=d by grind) (show 0<=D-2 by grind)
     grind
  have b2:-(5*d)<=qN*d-z:=by
   rcases Rat.le_total (a:=-(5*d)) (b:=qN*d-z) with h|h
   . exact h
   . have:=Rat.mul_nonneg (show 0<=-(5*d)-(qN*d-z) by grind) (show 0<=D-2 by grind)
     have:=Rat.mul_nonneg (show 0<=d by grind) (show 0<=D-2 by grind)
     grind
  have vd1:v*d<=1:=by have:=Rat.mul_le_mul_of_nonneg_right hv (show 0<=d by grind);grind
  have vd0:0<=v*d:=Rat.mul_nonneg hv0 (by grind)
  have t1:=aB (qN*d-z) (1-v*d) (5*d) 1 b2 b1 (by grind) (by grind)
  have t2:=aB z (v*d-(1-H)) (1/2) (64*d) (by grind) (by grind) (by grind) (by grind)
  constructor<;>grind
def PiN:Nat:=3*2^256+0x243F6A8885A308D313198A2E03707344A4093822299F31D0082EFA98EC4E6C89
def bg (n:Nat):Nat:=n*PiN/10800000
theorem jF:0<au/\au*2700000<=4/5:=by
 unfold au;constructor<;>decide +kernel
theorem MQ:-aU<=(PiN:Rat)*aU-au*10800000/\(PiN:Rat)*aU-au*10800000<=aU:=by
 unfold au aU;constructor<;>decide +kernel
theorem yo (n:Nat) (h:n<=2700000):-(2*aU)<=(bg n:Rat)*aU-n*au/\(bg n:Rat)*aU-n*au<=2*aU:=by
 have q:=Hw (n*PiN) 10800000 (by omega) 0
 have hp:=MQ;have hd:=dU;have hn:(n:Rat)<=2700000:=by exact_mod_cast h
 have hn0:=aF n;unfold bg;rw [Rat.natCast_mul] at q;have e:((10800000:Nat):Rat)=10800000:=rfl;rw [e] at q;generalize ((n*PiN/10800000:Nat):Rat)=r at *
 generalize (PiN:Rat)=P at *
 generalize aU=d at *
 have t:=aB (n:Rat) (P*d-au*10800000) 2700000 d (by grind) hn hp.1 hp.2
 constructor<;>grind
theorem pV (n:Nat) (h:n<=2700000):bg n<W:=by
 have:n*PiN<=2700000*PiN:=Nat.mul_le_mul_right _ h;have h2:2700000*PiN<10800000*W:=by decide +kernel
 unfold bg;apply Nat.div_lt_of_lt_mul;omega
attribute [irreducible] mulN bv bg W PiN
def mV (n:Nat):Nat:=bg n-mulN (bg n) (bv 34 1 (mulN (bg n) (bg n)))
def jG (n:Nat):Nat:=W-bv 34 0 (mulN (bg n) (bg n))
theorem mK (n:Nat) (h:n<=2700000):mulN (bg n) (bg n)<W/\0<=(n*au)*(n*au)/\(n*au)*(n*au)<=1 /\
 -(8*aU)<=(mulN (bg n) (bg n):Rat)*aU-(n*au)*(n*au)/\(mulN (bg n) (bg n):Rat)*aU-(n*au)*(n*au)<=8*aU:=by
 have hr:=yo n h;have hl:=pV n h;have hm:=uF (bg n) (bg n);have hlt:=iM (bg n) (bg n) hl (by omega)
 have hd:=dU;have hn:(n:Rat)<=2700000:=by exact_mod_cast h
 have hn0:=aF n;have ht:=jF;have x1:(n:Rat)*au<=4/5:=by
  have:=Rat.mul_le_mul_of_nonneg_right hn (show 0<=au by grind);grind
 have x0:0<=(n:Rat)*au:=Rat.mul_nonneg hn0 (by grind)
 have hd1:aU<=1/100:=by unfold aU;decide +kernel
 generalize (mulN (bg n) (bg n):Rat)=M at *
 generalize (bg n:Rat)=X at *
 generalize (n:Rat)*au=x at *
 have t:=aB (X*aU-x) (X*aU+x) (2*aU) 2 hr.1 hr.2 (by grind) (by grind)
 have t2:=aB x x (4/5) (4/5) (by grind) x1 (by grind) x1
 refine ⟨by omega,aH _,by grind,by grind,by grind⟩
theorem JM (n:Nat) (h:n<=2700000):-(100*aU)<=(mV n:Rat)*aU-ps n/\(mV n:Rat)*aU-ps n<=100*aU:=by
 obtain ⟨hY,y0,y1,e1,e2⟩:=mK n h;have hl:=wQ 34 1 _ _ hY y0 y1 e1 e2;have hb:=tu 34 1 _ y0 y1;have hrr:=yo n h;have hrl:=pV n h;have hlw:=jQ 34 1 _ hY;have hm:=uF (bg n) (bv 34 1 (mulN (bg n) (bg n)));have hle:=iM (bg n) (bv 34 1 (mulN (bg n) (bg n))) hrl (by omega)
 have hv:=bS _ W (show bv 34 1 (mulN (bg n) (bg n))<=W by omega)
 have hv0:=aF (bv 34 1 (mulN (bg n) (bg n)));unfold mV;rw [gZ _ _ hle,Cz];have hd:=dU;have hn:(n:Rat)<=2700000:=by exact_mod_cast h
 have hn0:=aF n;have ht:=jF;have x1:(n:Rat)*au<=4/5:=by
  have:=Rat.mul_le_mul_of_nonneg_right hn (show 0<=au by grind);grind
 have x0:0<=(n:Rat)*au:=Rat.mul_nonneg hn0 (by grind)
 have hw:=W_d;generalize hr 34 1 ((n*au)*(n*au))=H at *
 generalize (mulN (bg n) (bv 34 1 (mulN (bg n) (bg n))):Rat)=M at *
 generalize (bv 34 1 (mulN (bg n) (bg n)):Rat)=v at *
 generalize (bg n:Rat)=X at *
 generalize (n:Rat)*au=x at *
 generalize aU=d at *
 have vd1:v*d<=1:=by have:=Rat.mul_le_mul_of_nonneg_right hv (show 0<=d by grind);grind
 have vd0:0<=v*d:=Rat.mul_nonneg hv0 (by grind)
 have t1:=aB (X*d-x) (1-v*d) (2*d) 1 hrr.1 hrr.2 (by grind) (by grind)
 have t2:=aB x (v*d-(1-H)) 1 (64*d) (by grind) (by grind) (by grind) (by grind)
 constructor<;>grind
theorem JI (n:Nat) (h:n<=2700000):-(100*aU)<=(jG n:Rat)*aU-pc n/\(jG n:Rat)*aU-pc n<=100*aU:=by
 obtain ⟨hY,y0,y1,e1,e2⟩:=mK n h;have hl:=wQ 34 0 _ _ hY y0 y1 e1 e2;have hlw:=jQ 34 0 _ hY;have hc:jG n=W-bv 34 0 (mulN (bg n) (bg n)):=rfl;rw [hc,GH];have hw:=W_d;have hd:=dU;have hle:bv 34 0 (mulN (bg n) (bg n))<=W:=Nat.le_trans hlw (Nat.le_of_lt hY);clear hc hlw hY;generalize hr 34 0 ((n*au)*(n*au))=H at *
 generalize bv 34 0 (mulN (bg n) (bg n))=l at *
 have e:=gZ W l hle;rw [e]
 constructor<;>grind
attribute [irreducible] mV jG
end Alm
namespace Alm
def SW:Nat:=2^224
def pack:List Nat->Nat
 | []=>0
 | x::l=>x+SW*pack l
def ones:Nat->Nat
 | 0=>0
 | k+1=>1+SW*ones k
theorem and_split (w x X m M:Nat) (hx:x<2^w) (hm:m<2^w):(x+2^w*X) &&& (m+2^w*M)=(x &&& m)+2^w*(X &&& M):=by
 apply Nat.eq_of_testBit_eq;intro i;rw [Nat.testBit_and,Nat.add_comm x,Nat.add_comm m,Nat.add_comm (x &&& m),Nat.testBit_two_pow_mul_add _ hx,Nat.testBit_two_pow_mul_add _ hm,
  Nat.testBit_two_pow_mul_add _ (Nat.lt_of_le_of_lt Nat.and_le_left hx)]
 split<;>rw [Nat.testBit_and]
def gW:Nat:=2^140
def fw:Nat:=2^162-2^141
def chk (O X:Nat):Bool:=(((X+gW*O) &&& (fw*O))+fw*O) &&& (2^162*O)==2^162*O
def Far (x:Nat):Prop:=2^141<=(x+gW)%2^162
theorem Vw (x:Nat) (h:(((x+gW) &&& fw)+fw) &&& 2^162=2^162):Far x:=by
 have h1:2^162<=((x+gW) &&& fw)+fw:=by
  have:=Nat.and_le_left (n:=((x+gW) &&& fw)+fw) (m:=2^162);omega
 have h2:2^141<=(x+gW) &&& fw:=by unfold fw at *;omega
 have h3:=and_split 162 ((x+gW)%2^162) ((x+gW)/2^162) fw 0 (Nat.mod_lt _ (by decide)) (by decide)
 have e:(x+gW)%2^162+2^162*((x+gW)/2^162)=x+gW:=by omega
 rw [e,Nat.mul_zero,Nat.add_zero,Nat.and_zero,Nat.mul_zero,Nat.add_zero] at h3;rw [h3] at h2;exact Nat.le_trans h2 Nat.and_le_left
theorem GY (l:List Nat) (hl:∀ x∈l,x<2^200) (h:chk (ones l.length) (pack l)=true):∀ x∈l,Far x:=by
 induction l with
 | nil=>simp
 | cons x l ih =>
  have hx:x<2^200:=hl x (by simp)
  unfold chk at h;rw [beq_iff_eq] at h;simp only [pack,List.length,ones] at h;have e1:x+SW*pack l+gW*(1+SW*ones l.length)=(x+gW)+2^224*(pack l+gW*ones l.length):=by unfold SW;grind
  have e2:fw*(1+SW*ones l.length)=fw+2^224*(fw*ones l.length):=by unfold SW;grind
  have e3:2^162*(1+SW*ones l.length)=2^162+2^224*(2^162*ones l.length):=by unfold SW;grind
  have b1:x+gW<2^224:=by unfold gW;omega
  have b2:fw<2^224:=by decide
  rw [e1,e2,e3,and_split 224 _ _ _ _ b1 b2] at h;have e4:(x+gW &&& fw)+2^224*(pack l+gW*ones l.length &&& fw*ones l.length)+(fw+2^224*(fw*ones l.length)) =
   ((x+gW &&& fw)+fw)+2^224*((pack l+gW*ones l.length &&& fw*ones l.length)+fw*ones l.length):=by omega
  have b3:(x+gW &&& fw)+fw<2^224:=by
   have:=Nat.and_le_right (n:=x+gW) (m:=fw);have:fw<2^162:=by decide
   omega
  rw [e4,and_split 224 _ _ _ _ b3 (by decide)] at h
  have b4:((x+gW &&& fw)+fw &&& 2^162)<=2^162:=Nat.and_le_right;have hh:((x+gW &&& fw)+fw &&& 2^162)=2^162:=by omega
  have ht:((pack l+gW*ones l.length &&& fw*ones l.length)+fw*ones l.length &&& 2^162*ones l.length)=2^162*ones l.length:=by omega
  intro y hy;rcases List.mem_cons.1 hy with rfl|hy
  . exact Vw _ hh
  . exact ih (fun z hz=>hl z (by simp [hz])) (by unfold chk;rw [beq_iff_eq];exact ht) y hy
end Alm
namespace Alm
def F96:Nat:=2^96
def rs1:Nat:=23046538269650701392778
def rc1:Nat:=79228162514260985610427347966
def rsT:Nat:=46093073939162458779889859
def rcT:Nat:=79228149106332249358948278227
def st1 (p:Nat × Nat):Nat × Nat:=((p.1*rc1-p.2*rs1)/F96,(p.2*rc1+p.1*rs1)/F96)
def stT (p:Nat × Nat):Nat × Nat:=((p.1*rcT-p.2*rsT)/F96,(p.2*rcT+p.1*rsT)/F96)
theorem VG (p:Nat × Nat):st1 p=((p.1*rc1-p.2*rs1)/F96,(p.2*rc1+p.1*rs1)/F96):=rfl
theorem Uy (p:Nat × Nat):stT p=((p.1*rcT-p.2*rsT)/F96,(p.2*rcT+p.1*rsT)/F96):=rfl
attribute [irreducible] st1 stT
def tab:Nat->Nat × Nat->List (Nat × Nat)
 | 0,_=>[]
 | k+1,p=>p::tab k (st1 p)
def oN:Nat->Nat × Nat->Nat × Nat
 | 0,_=>(0,0)
 | k+1,p=>(p.1+SW*(oN k (st1 p)).1,p.2+SW*(oN k (st1 p)).2)
def look:Nat->Nat × Nat->Nat × Nat->Nat->Bool
 | 0,_,_,_=>true
 | q+1,p,t,O=>chk O (p.2*t.1+p.1*t.2)&&chk O (p.1*t.1-p.2*t.2)&&look q (stT p) t O
theorem IP (k:Nat) (p:Nat × Nat):(oN k p).1=pack ((tab k p).map (·.1))/\(oN k p).2=pack ((tab k p).map (·.2)):=by
 induction k generalizing p with
 | zero=>simp [oN,tab,pack]
 | succ k ih=>simp only [oN,tab,List.map,pack,(ih (st1 p)).1,(ih (st1 p)).2];exact ⟨trivial,trivial⟩
theorem EO (k:Nat) (p:Nat × Nat):(tab k p).length=k:=by
 induction k generalizing p with
 | zero=>rfl
 | succ k ih=>simp [tab,ih]
theorem MX (a b:Nat) (l:List (Nat × Nat)):a*pack (l.map (·.1))+b*pack (l.map (·.2))=pack (l.map fun p=>a*p.1+b*p.2):=by
 induction l with
 | nil=>simp [pack]
 | cons p l ih=>simp only [List.map,pack];rw [<-ih];grind
theorem LG (a b:Nat) (l:List (Nat × Nat)) (h:∀ p∈l,b*p.2<=a*p.1):b*pack (l.map (·.2))<=a*pack (l.map (·.1))/\a*pack (l.map (·.1))-b*pack (l.map (·.2))=pack (l.map fun p=>a*p.1-b*p.2):=by
 induction l with
 | nil=>simp [pack]
 | cons p l ih =>
  have i:=ih (fun q hq=>h q (by simp [hq]))
  have hp:=h p (by simp)
  simp only [List.map,pack];rw [<-i.2];have e1:a*(p.1+SW*pack (l.map (·.1)))=a*p.1+SW*(a*pack (l.map (·.1))):=by grind
  have e2:b*(p.2+SW*pack (l.map (·.2)))=b*p.2+SW*(b*pack (l.map (·.2))):=by grind
  rw [e1,e2];generalize a*pack (l.map (·.1))=x at *
  generalize b*pack (l.map (·.2))=y at *
  have hm:SW*y<=SW*x:=Nat.mul_le_mul_left _ i.1;have e3:SW*(x-y)=SW*x-SW*y:=Nat.mul_sub SW x y;rw [e3]
  constructor<;>omega
def Sm (p:Nat × Nat):Prop:=p.1<=2*F96/\p.2<=2*F96
theorem NQ (p:Nat × Nat) (l:List (Nat × Nat)) (hp:Sm p) (hl:∀ x∈l,Sm x) (hs:∀ x∈l,p.2*x.2<=p.1*x.1)
 (h1:chk (ones l.length) (p.2*pack (l.map (·.1))+p.1*pack (l.map (·.2)))=true) (h2:chk (ones l.length) (p.1*pack (l.map (·.1))-p.2*pack (l.map (·.2)))=true) :
 ∀ x∈l,Far (p.2*x.1+p.1*x.2)/\Far (p.1*x.1-p.2*x.2):=by
 rw [MX] at h1;rw [(LG p.1 p.2 l hs).2] at h2;have hb:∀ x∈l,p.2*x.1<=2*F96*(2*F96)/\p.1*x.2<=2*F96*(2*F96)/\p.1*x.1<=2*F96*(2*F96):=fun x hx =>
  ⟨Nat.mul_le_mul hp.2 (hl x hx).1,Nat.mul_le_mul hp.1 (hl x hx).2,Nat.mul_le_mul hp.1 (hl x hx).1⟩
 have hF:2*F96*(2*F96)*2<2^200:=by decide +kernel
 have a1:=GY (l.map fun x=>p.2*x.1+p.1*x.2) (by
  intro y hy;obtain ⟨x,hx,rfl⟩:=List.mem_map.1 hy;have:=hb x hx;omega) (by rw [List.length_map];exact h1)
 have a2:=GY (l.map fun x=>p.1*x.1-p.2*x.2) (by
  intro y hy;obtain ⟨x,hx,rfl⟩:=List.mem_map.1 hy;have:=hb x hx;omega) (by rw [List.length_map];exact h2)
 intro x hx;exact ⟨a1 _ (List.mem_map.2 ⟨x,hx,rfl⟩),a2 _ (List.mem_map.2 ⟨x,hx,rfl⟩)⟩
def GK (f:Nat × Nat->Nat × Nat):Nat->Nat × Nat->Nat × Nat
 | 0,p=>p
 | k+1,p=>GK f k (f p)
theorem EX (f:Nat × Nat->Nat × Nat) (k:Nat) (p:Nat × Nat):GK f (k+1) p=GK f k (f p):=rfl
def Dk (k:Nat) (p:Nat × Nat):Nat × Nat:=GK stT k p
theorem JD (p:Nat × Nat):Dk 0 p=p:=rfl
theorem IB (k:Nat) (p:Nat × Nat):Dk (k+1) p=Dk k (stT p):=EX stT k p
def PI:Bool :=
 let t:=oN 2000 (F96,0)
 let u:=oN 1999 (st1 (F96,0))
 let O:=ones 2000
 let O':=ones 1999
 let p:=Dk 900 (F96,0)
 look 899 (stT (F96,0)) t O&&look 1 p u O'&&look 449 (stT p) t O&&look 1 (F96,0) u O'
theorem look_ok:PI=true:=by decide +kernel
end Alm
namespace Alm
def e96:Rat:=1/((2^96:Int):Rat)
theorem MS:(F96:Rat)*e96=1:=by unfold F96 e96;decide +kernel
theorem gQ:0<e96:=by unfold e96;decide +kernel
theorem gF:e96<=1/1000000000:=by unfold e96;decide +kernel
theorem Px:-e96<=(rc1:Rat)*e96-c1/\(rc1:Rat)*e96-c1<=e96:=by
 unfold e96 c1 rc1 c1n dd tp;constructor<;>decide +kernel
theorem O4:-e96<=(rs1:Rat)*e96-s1/\(rs1:Rat)*e96-s1<=e96:=by
 unfold e96 s1 rs1 s1n dd tp;constructor<;>decide +kernel
theorem XZ:0<s1/\s1<=1/1000000:=by unfold s1 s1n dd tp;constructor<;>decide +kernel
theorem LJ:0<c1/\c1<=1:=by unfold c1 c1n dd tp;constructor<;>decide +kernel
theorem Lc:((ev sP 2000*2^96-(rsT:Int)*L0).natAbs:Int)<=L0/\((ev cP 2000*2^96-(rcT:Int)*L0).natAbs:Int)<=L0:=by decide +kernel
def cz (p:Nat × Nat) (n:Nat) (e:Rat):Prop :=
 (-e<=(p.1:Rat)*e96-zc n/\(p.1:Rat)*e96-zc n<=e)/\(-e<=(p.2:Rat)*e96-zs n/\(p.2:Rat)*e96-zs n<=e)
theorem DN (X:Nat):((X/F96:Nat):Rat)*e96<=X*(e96*e96)/\X*(e96*e96)<=((X/F96:Nat):Rat)*e96+e96:=by
 have hF:0<F96:=by decide +kernel
 have h1:=Nat.div_mul_le_self X F96;have h2:=Nat.lt_div_mul_add (a:=X) hF;have g1:=bS _ _ h1;have g2:=bS _ _ (Nat.le_of_lt h2);rw [Rat.natCast_mul] at g1;rw [Rat.natCast_add,Rat.natCast_mul] at g2;have he:=MS;have hp:=gQ;have hpp:0<=e96*e96:=aH _;generalize ((X/F96:Nat):Rat)=q at *
 generalize (F96:Rat)=F at *
 have k1:=Rat.mul_le_mul_of_nonneg_right g1 hpp;have k2:=Rat.mul_le_mul_of_nonneg_right g2 hpp;have e1:q*F*(e96*e96)=q*e96*(F*e96):=by grind
 have e2:(q*F+F)*(e96*e96)=(q*e96+e96)*(F*e96):=by grind
 rw [e1,he] at k1;rw [e2,he] at k2
 constructor<;>grind
theorem Dw (p:Nat × Nat) (n r C S:Nat) (e:Rat) (he0:0<=e) (he:e<=1/100) (h:cz p n e)
 (hC:-(2*e96)<=(C:Rat)*e96-zc r/\(C:Rat)*e96-zc r<=2*e96) (hS:-(2*e96)<=(S:Rat)*e96-zs r/\(S:Rat)*e96-zs r<=2*e96)
 (hs:0<=zs r) (hsub:p.2*S<=p.1*C) :
 cz ((p.1*C-p.2*S)/F96,(p.2*C+p.1*S)/F96) (n+r) (e*(1+zs r)+6*e96):=by
 obtain ⟨⟨a1,a2⟩,⟨b1,b2⟩⟩:=h;have d1:=DN (p.1*C-p.2*S);have d2:=DN (p.2*C+p.1*S);rw [gZ _ _ hsub,Rat.natCast_mul,Rat.natCast_mul] at d1;rw [Rat.natCast_add,Rat.natCast_mul,Rat.natCast_mul] at d2;obtain ⟨za1,za2⟩:=vM n r;have hep:=gQ;have hes:=gF;have zr:=gB r;have zr2:=dL r;have zn:=gB n;have zn2:=dL n;unfold cz;simp only [];rw [za1,za2];generalize (((p.1*C-p.2*S)/F96:Nat):Rat)=P1 at *
 generalize (((p.2*C+p.1*S)/F96:Nat):Rat)=P2 at *
 generalize (p.1:Rat)=x at *
 generalize (p.2:Rat)=y at *
 generalize (C:Rat)=c at *
 generalize (S:Rat)=s at *
 generalize zc n=u at *
 generalize zs n=v at *
 generalize zc r=k at *
 generalize zs r=l at *
 generalize e96=d at *
 have q1:x*c*(d*d)=(x*d)*(c*d):=by grind
 have q2:y*s*(d*d)=(y*d)*(s*d):=by grind
 have q3:y*c*(d*d)=(y*d)*(c*d):=by grind
 have q4:x*s*(d*d)=(x*d)*(s*d):=by grind
 have f1:(x*c-y*s)*(d*d)=(x*d)*(c*d)-(y*d)*(s*d):=by grind
 have f2:(y*c+x*s)*(d*d)=(y*d)*(c*d)+(x*d)*(s*d):=by grind
 rw [f1] at d1;rw [f2] at d2;obtain ⟨A,hA⟩:∃ A,A=x*d-u:=⟨_,rfl⟩;obtain ⟨B,hB⟩:∃ B,B=y*d-v:=⟨_,rfl⟩;obtain ⟨G,hG⟩:∃ G,G=c*d-k:=⟨_,rfl⟩;obtain ⟨H,hH⟩:∃ H,H=s*d-l:=⟨_,rfl⟩;rw [<-hA] at a1 a2;rw [<-hB] at b1 b2;rw [<-hG] at hC;rw [<-hH] at hS;have ex:x*d=u+A:=by grind
 have ey:y*d=v+B:=by grind
 have ec:c*d=k+G:=by grind
 have es:s*d=l+H:=by grind
 rw [ex,ey,ec,es] at d1 d2;clear hA hB hG hH ex ey ec es f1 f2 q1 q2 q3 q4;have t1:=aB A k e 1 a1 a2 (by grind) (by grind)
 have t2:=aB B l e l b1 b2 (by grind) (by grind)
 have t3:=aB (u+A) G (101/100) (2*d) (by grind) (by grind) hC.1 hC.2
 have t4:=aB (v+B) H (101/100) (2*d) (by grind) (by grind) hS.1 hS.2
 have t5:=aB B k e 1 b1 b2 (by grind) (by grind)
 have t6:=aB A l e l a1 a2 (by grind) (by grind)
 have t7:=aB (v+B) G (101/100) (2*d) (by grind) (by grind) hC.1 hC.2
 have t8:=aB (u+A) H (101/100) (2*d) (by grind) (by grind) hS.1 hS.2
 refine ⟨⟨?_,?_⟩,⟨?_,?_⟩⟩<;>grind
end Alm
namespace Alm
theorem nQ:bM<=e96:=by unfold bM aU e96;decide +kernel
theorem Pp:(-(2*e96)<=(rcT:Rat)*e96-zc 2000/\(rcT:Rat)*e96-zc 2000<=2*e96)/\(-(2*e96)<=(rsT:Rat)*e96-zs 2000/\(rsT:Rat)*e96-zs 2000<=2*e96):=by
 obtain ⟨h1,h2⟩:=near 2000 (by omega)
 have hd:=nQ;have he:((2^96:Int):Rat)*e96=1:=by unfold e96;decide +kernel
 have key:∀ (x:Rat) (E r:Int),x*(L0:Rat)=(E:Rat)->((E*2^96-r*L0).natAbs:Int)<=L0->-e96<=(r:Rat)*e96-x/\(r:Rat)*e96-x<=e96:=by
  intro x E r hx h;have k1:E*2^96-r*L0<=L0:=by omega
  have k2:-L0<=E*2^96-r*L0:=by omega
  have g1:((E*2^96-r*L0:Int):Rat)<=((L0:Int):Rat):=by exact_mod_cast k1
  have g2:((-L0:Int):Rat)<=((E*2^96-r*L0:Int):Rat):=by exact_mod_cast k2
  rw [Rat.intCast_sub,Rat.intCast_mul,Rat.intCast_mul,<-hx] at g1 g2;rw [Rat.intCast_neg] at g2;have hl:=pE;have hp:=gQ;generalize ((2^96:Int):Rat)=T at *
  generalize (L0:Rat)=L at *
  generalize (r:Rat)=R at *
  generalize e96=d at *
  have m1:=Rat.mul_le_mul_of_nonneg_right g1 (show 0<=d by grind)
  have m2:=Rat.mul_le_mul_of_nonneg_right g2 (show 0<=d by grind)
  have q:(x*L*T-R*L)*d=(x-R*d)*L:=by
   have:(x*L*T-R*L)*d=x*L*(T*d)-R*L*d:=by grind
   rw [this,he];grind
  rw [q] at m1 m2
  constructor
  . apply Rat.le_of_mul_le_mul_right (c:=L) _ hl;grind
  . apply Rat.le_of_mul_le_mul_right (c:=L) _ hl;grind
 have a:=key (pc 2000) (ev cP 2000) rcT (iE 2000) Lc.2;have b:=key (ps 2000) (ev sP 2000) rsT (gD 2000) Lc.1;have ea:((rcT:Int):Rat)=(rcT:Rat):=rfl;have eb:((rsT:Int):Rat)=(rsT:Rat):=rfl;rw [ea] at a;rw [eb] at b;clear ea eb key he;generalize (rcT:Rat)=C at *
 generalize (rsT:Rat)=S at *
 generalize pc 2000=u at *
 generalize ps 2000=v at *
 generalize zc 2000=u' at *
 generalize zs 2000=v' at *
 generalize bM=D at *
 generalize e96=d at *
 refine ⟨⟨?_,?_⟩,⟨?_,?_⟩⟩<;>grind
theorem dG (n:Nat) (h:n<=2700000):49/100<=zc n:=by
 obtain ⟨_,h2⟩:=near n h;obtain ⟨_,y0,y1,_,_⟩:=mK n h;have hh:=(tu 34 0 _ y0 y1).1;rw [<-GH n] at hh;have k1:=nQ;have k2:=gF;clear y0 y1;generalize pc n=a at *
 generalize zc n=b at *
 generalize bM=c at *
 generalize e96=d at *
 grind
theorem mH (n:Nat) (h:n<=2700000):-(1/1000000000)<=zs n:=by
 obtain ⟨h1,_⟩:=near n h;obtain ⟨_,y0,y1,_,_⟩:=mK n h;have hh:=(tu 34 1 _ y0 y1).1;have hx:0<=(n:Rat)*au:=Rat.mul_nonneg (aF n) (Rat.le_of_lt jF.1);have hm:=Rat.mul_nonneg hx (show 0<=hr 34 1 ((n*au)*(n*au)) from Rat.le_trans (by decide +kernel) hh)
 rw [<-Cz n] at hm;have k1:=nQ;have k2:=gF;clear y0 y1 hh hx;generalize ps n=a at *
 generalize zs n=b at *
 generalize bM=c at *
 generalize e96=d at *
 grind
end Alm
namespace Alm
theorem La:zc 1=c1:=by rw [show (1:Nat)=0+1 from rfl,bX,fE,dP];grind
theorem AV:zs 1=s1:=by rw [show (1:Nat)=0+1 from rfl,bZ,fE,dP];grind
theorem Ba:au*2000<=59/100000:=by unfold au;decide +kernel
theorem qZ:bM<=1/1000000000:=by unfold bM aU;decide +kernel
theorem wR (n:Nat) (h:n<=2000):zs n<=6/10000:=by
 obtain ⟨h1,_⟩:=near n (by omega)
 obtain ⟨_,y0,y1,_,_⟩:=mK n (by omega)
 have hh:=(tu 34 1 _ y0 y1);have ht:=jF.1;have hx:0<=(n:Rat)*au:=Rat.mul_nonneg (aF n) (Rat.le_of_lt ht);have hn:(n:Rat)<=2000:=by exact_mod_cast h
 have hx2:=Rat.mul_le_mul_of_nonneg_right hn (Rat.le_of_lt ht);have hx3:=Ba;have hm:=Rat.mul_nonneg hx (show 0<=1-hr 34 1 ((n*au)*(n*au)) by have:=hh.2;grind)
 have e:=Cz n;have k:=qZ;clear y0 y1 hh;generalize hr 34 1 ((n*au)*(n*au))=H at *
 generalize ps n=a at *
 generalize zs n=b at *
 generalize (n:Rat)*au=x at *
 grind
theorem Bn:cz (F96,0) 0 0:=by
 unfold cz;simp only [];rw [fE,dP,MS];simp;grind
theorem EI (a b c d:Nat) (A B C D:Rat) (h1:(a:Rat)*e96<=A) (h2:(b:Rat)*e96<=B) (h3:C<=(c:Rat)*e96) (h4:D<=(d:Rat)*e96) (hC:0<=C) (hD:0<=D) (h:A*B<=C*D):a*b<=c*d:=by
 have hp:=gQ;have ha:=aF a;have hb:=aF b;have pa:0<=(a:Rat)*e96:=Rat.mul_nonneg ha (Rat.le_of_lt hp);have pb:0<=(b:Rat)*e96:=Rat.mul_nonneg hb (Rat.le_of_lt hp);have k1:=Rat.mul_le_mul_of_nonneg_right h1 pb;have k2:=Rat.mul_le_mul_of_nonneg_left h2 (show 0<=A by grind)
 have k3:=Rat.mul_le_mul_of_nonneg_right h3 hD;have k4:=Rat.mul_le_mul_of_nonneg_left h4 (show 0<=(c:Rat)*e96 by grind)
 have hle:((a*b:Nat):Rat)<=((c*d:Nat):Rat):=by
  rw [Rat.natCast_mul,Rat.natCast_mul];have hpp:(0:Rat)<e96*e96:=Rat.mul_pos hp hp;apply Rat.le_of_mul_le_mul_right (c:=e96*e96) _ hpp;generalize (a:Rat)=a at *
  generalize (b:Rat)=b at *
  generalize (c:Rat)=c at *
  generalize (d:Rat)=d at *
  generalize e96=e at *
  have e1:a*b*(e*e)=a*e*(b*e):=by grind
  have e2:c*d*(e*e)=c*e*(d*e):=by grind
  grind
 exact_mod_cast hle
theorem oz (p:Nat × Nat) (n:Nat) (hn:n<2000) (h:cz p n (7*n*e96)):cz (st1 p) (n+1) (7*(n+1:Nat)*e96):=by
 have hp:=gQ;have hs:=gF;have hc:=Px;have hs1:=O4;have b1:=XZ;have b2:=LJ;have zsn:=wR n (by omega)
 have zcn:=dG n (by omega)
 have hnn:(n:Rat)<=2000:=by exact_mod_cast (show n<=2000 by omega)
 have hn0:=aF n;have he0:0<=7*(n:Rat)*e96:=Rat.mul_nonneg (by grind) (by grind)
 have he1:7*(n:Rat)*e96<=14000*e96:=Rat.mul_le_mul_of_nonneg_right (by grind) (by grind)
 have c1v:9/10<=c1:=by have:=Cg;have:s1*s1<=1/1000000*(1/1000000):=fe s1 _ (by grind) (by grind);rcases Rat.le_total (a:=9/10) (b:=c1) with h|h;· exact h
                       . have:=fe c1 (9/10) (by grind) h;grind
 have g:=Dw p n 1 rc1 rs1 (7*n*e96) he0 (by grind) h (by rw [La];constructor<;>grind) (by rw [AV];constructor<;>grind) (by rw [AV];grind)
  (by
   obtain ⟨⟨a1,a2⟩,⟨a3,a4⟩⟩:=h;apply EI p.2 rs1 p.1 rc1 (1/100) (1/100) (1/10) (1/10)<;>grind)
 rw [AV] at g;have hle:7*(n:Rat)*e96*(1+s1)+6*e96<=7*(n+1:Nat)*e96:=by
  have e1:((n+1:Nat):Rat)=(n:Rat)+1:=by norm_cast
  rw [e1];have m:=Rat.mul_le_mul_of_nonneg_left b1.2 he0;grind
 have e2:=VG p;rw [e2];generalize 7*(n:Rat)*e96*(1+s1)+6*e96=E at *
 unfold cz at *
 obtain ⟨⟨a1,a2⟩,⟨a3,a4⟩⟩:=g;refine ⟨⟨?_,?_⟩,⟨?_,?_⟩⟩<;>grind
theorem pF (p:Nat × Nat) (i:Nat) (hi:i<1350) (h:cz p (2000*i) (32*i*e96)):cz (stT p) (2000*(i+1)) (32*(i+1:Nat)*e96):=by
 have hp:=gQ;have hs:=gF;obtain ⟨hc,hs1⟩:=Pp;obtain ⟨R,hR⟩:∃ R:Nat,R=2000:=⟨_,rfl⟩;have z1:=wR R (by omega)
 have z2:=dG R (by omega)
 have z3:=mH R (by omega)
 rw [<-hR] at hc hs1;have zn:=dL (2000*i);have zcn:=dG (2000*i) (by omega)
 have hnn:(i:Rat)<=1350:=by exact_mod_cast (show i<=1350 by omega)
 have hn0:=aF i;have he0:0<=32*(i:Rat)*e96:=Rat.mul_nonneg (by grind) (by grind)
 have he1:32*(i:Rat)*e96<=43200*e96:=Rat.mul_le_mul_of_nonneg_right (by grind) (by grind)
 have hpos:0<=zs R:=by
  have hv:(2:Rat)/10000<=(rsT:Rat)*e96:=by unfold e96 rsT;decide +kernel
  grind
 have g:=Dw p (2000*i) R rcT rsT (32*i*e96) he0 (by grind) h hc hs1 hpos
  (by
   obtain ⟨⟨a1,a2⟩,⟨a3,a4⟩⟩:=h;apply EI p.2 rsT p.1 rcT (11/10) (1/100) (1/10) (2/10)<;>grind)
 have hle:32*(i:Rat)*e96*(1+zs R)+6*e96<=32*(i+1:Nat)*e96:=by
  have e1:((i+1:Nat):Rat)=(i:Rat)+1:=by norm_cast
  rw [e1];have m:=Rat.mul_le_mul_of_nonneg_left z1 he0;grind
 have e2:=Uy p;have e3:2000*(i+1)=2000*i+R:=by omega
 rw [e2,e3];generalize 32*(i:Rat)*e96*(1+zs R)+6*e96=E at *
 unfold cz at *
 obtain ⟨⟨a1,a2⟩,⟨a3,a4⟩⟩:=g;refine ⟨⟨?_,?_⟩,⟨?_,?_⟩⟩<;>grind
theorem C9 (k m:Nat) (p:Nat × Nat) (hk:m+k<=2000) (h:cz p m (7*m*e96)):∀ j,j<k->∃ x∈tab k p,cz x (m+j) (7*(m+j:Nat)*e96):=by
 induction k generalizing m p with
 | zero=>intro j hj;omega
 | succ k ih =>
  intro j hj
  match j with
  | 0=>exact ⟨p,by simp [tab],h⟩
  | j+1 =>
   obtain ⟨x,hx,hn⟩:=ih (m+1) (st1 p) (by omega) (oz p m (by omega) h) j (by omega)
   refine ⟨x,by simp [tab,hx],?_⟩
   have e:m+(j+1)=m+1+j:=by omega
   rw [e];exact hn
theorem fT (k m:Nat) (p:Nat × Nat) (hk:m+k<=2000) (h:cz p m (7*m*e96)):∀ x∈tab k p,∃ j,m<=j/\j<2000/\cz x j (7*j*e96):=by
 induction k generalizing m p with
 | zero=>simp [tab]
 | succ k ih =>
  intro x hx;simp only [tab,List.mem_cons] at hx;rcases hx with rfl|hx
  . exact ⟨m,Nat.le_refl _,by omega,h⟩
  . obtain ⟨j,h1,h2,h3⟩:=ih (m+1) (st1 p) (by omega) (oz p m (by omega) h) x hx
    exact ⟨j,by omega,h2,h3⟩
theorem G5 (p:Nat × Nat) (n:Nat) (e:Rat) (hn:n<=2700000) (he:e<=1/100000) (h:cz p n e):p.1<=2*F96/\p.2<=2*F96:=by
 have z1:=gB n;have z2:=dL n;obtain ⟨⟨a1,a2⟩,⟨a3,a4⟩⟩:=h;have hp:=gQ;have hF:=MS;have key:∀ a:Nat,(a:Rat)*e96<=2->a<=2*F96:=by
  intro a ha;have e2:((2*F96:Nat):Rat)=2*(F96:Rat):=by norm_cast
  have:(a:Rat)<=((2*F96:Nat):Rat):=by
   rw [e2];apply Rat.le_of_mul_le_mul_right (c:=e96) _ hp;generalize (a:Rat)=a at *
   generalize (F96:Rat)=F at *
   grind
  exact_mod_cast this
 exact ⟨key _ (by grind),key _ (by grind)⟩
end Alm
namespace Alm
def u30:Rat:=1/((2^30:Int):Rat)
def mg:Rat:=3/((2^54:Int):Rat)
def FlR (s:Rat) (q:Int):Prop:=q*u30+mg<=s/\s<=(q+1)*u30-mg
theorem Zc (X:Nat) (h:Far X):∃ q:Nat,q*2^162+2^140<=X/\X+2^140<=(q+1)*2^162:=by
 unfold Far gW at h;refine ⟨(X+2^140)/2^162,?_,?_⟩<;>omega
theorem v162:((2^162:Nat):Rat)*(e96*e96)=u30:=by unfold e96 u30;decide +kernel
theorem ZQ:((2^140:Nat):Rat)*(e96*e96)=4/((2^54:Int):Rat):=by unfold e96;decide +kernel
theorem v96:262144*e96<=1/((2^54:Int):Rat):=by unfold e96;decide +kernel
theorem xR (X:Nat) (s:Rat) (h:Far X) (h1:-(262144*e96)<=X*(e96*e96)-s) (h2:X*(e96*e96)-s<=262144*e96):∃ q:Nat,FlR s q:=by
 obtain ⟨q,a,b⟩:=Zc X h;refine ⟨q,?_⟩;have g1:((q*2^162+2^140:Nat):Rat)<=(X:Rat):=bS _ _ a;have g2:((X+2^140:Nat):Rat)<=(((q+1)*2^162:Nat):Rat):=bS _ _ b;rw [Rat.natCast_add,Rat.natCast_mul] at g1;rw [Rat.natCast_add,Rat.natCast_mul] at g2;have hpp:0<=e96*e96:=aH _;have k1:=Rat.mul_le_mul_of_nonneg_right g1 hpp;have k2:=Rat.mul_le_mul_of_nonneg_right g2 hpp;have a1:=v162;have a2:=ZQ;have a3:=v96;have e1:((q+1:Nat):Rat)=(q:Rat)+1:=by rw [Rat.natCast_add];rfl
 have e2:(((q:Nat):Int):Rat)=(q:Rat):=rfl;rw [e1] at k2;unfold FlR mg;rw [e2];have q3:(3:Rat)/((2^54:Int):Rat)=3*(1/((2^54:Int):Rat)):=by decide +kernel
 have q4:(4:Rat)/((2^54:Int):Rat)=4*(1/((2^54:Int):Rat)):=by decide +kernel
 rw [q3];rw [q4] at a2;generalize (1:Rat)/((2^54:Int):Rat)=m at *
 generalize ((2^162:Nat):Rat)=A at *
 generalize ((2^140:Nat):Rat)=B at *
 generalize (X:Rat)=x at *
 generalize (q:Rat)=r at *
 generalize e96*e96=D at *
 have f1:(r*A+B)*D=r*(A*D)+B*D:=by grind
 have f2:(r+1)*A*D=(r+1)*(A*D):=by grind
 have f3:(x+B)*D=x*D+B*D:=by grind
 rw [f1,a1,a2] at k1;rw [f2,f3,a1,a2] at k2
 constructor<;>grind
theorem lX (P x:Nat × Nat) (M j:Nat) (hP:cz P M (50000*e96)) (hx:cz x j (50000*e96)) (hs:P.2*x.2<=P.1*x.1) :
 (-(262144*e96)<=((P.2*x.1+P.1*x.2:Nat):Rat)*(e96*e96)-zs (M+j)/\((P.2*x.1+P.1*x.2:Nat):Rat)*(e96*e96)-zs (M+j)<=262144*e96) /\
 (-(262144*e96)<=((P.1*x.1-P.2*x.2:Nat):Rat)*(e96*e96)-zc (M+j)/\((P.1*x.1-P.2*x.2:Nat):Rat)*(e96*e96)-zc (M+j)<=262144*e96):=by
 obtain ⟨⟨a1,a2⟩,⟨b1,b2⟩⟩:=hP;obtain ⟨⟨c1,c2⟩,⟨d1,d2⟩⟩:=hx;obtain ⟨za1,za2⟩:=vM M j;rw [gZ _ _ hs];simp only [Rat.natCast_add,Rat.natCast_mul];rw [za1,za2];have hp:=gQ;have hes:=gF;have zr:=gB j;have zr2:=dL j;have zn:=gB M;have zn2:=dL M;generalize (P.1:Rat)=p1 at *
 generalize (P.2:Rat)=p2 at *
 generalize (x.1:Rat)=x1 at *
 generalize (x.2:Rat)=x2 at *
 generalize zc M=u at *
 generalize zs M=v at *
 generalize zc j=k at *
 generalize zs j=l at *
 generalize e96=d at *
 obtain ⟨A,hA⟩:∃ A,A=p1*d-u:=⟨_,rfl⟩;obtain ⟨B,hB⟩:∃ B,B=p2*d-v:=⟨_,rfl⟩;obtain ⟨G,hG⟩:∃ G,G=x1*d-k:=⟨_,rfl⟩;obtain ⟨H,hH⟩:∃ H,H=x2*d-l:=⟨_,rfl⟩;rw [<-hA] at a1 a2;rw [<-hB] at b1 b2;rw [<-hG] at c1 c2;rw [<-hH] at d1 d2;have q1:(p2*x1+p1*x2)*(d*d)=(v+B)*(k+G)+(u+A)*(l+H):=by grind
 have q2:(p1*x1-p2*x2)*(d*d)=(u+A)*(k+G)-(v+B)*(l+H):=by grind
 rw [q1,q2];clear hA hB hG hH q1 q2 za1 za2;have hb:50000*d<=1/100:=by grind
 have t1:=aB B k (50000*d) 1 b1 b2 (by grind) (by grind)
 have t2:=aB A l (50000*d) 1 a1 a2 (by grind) (by grind)
 have t3:=aB (v+B) G (101/100) (50000*d) (by grind) (by grind) c1 c2
 have t4:=aB (u+A) H (101/100) (50000*d) (by grind) (by grind) d1 d2
 have t5:=aB A k (50000*d) 1 a1 a2 (by grind) (by grind)
 have t6:=aB B l (50000*d) 1 b1 b2 (by grind) (by grind)
 have t7:=aB (u+A) G (101/100) (50000*d) (by grind) (by grind) c1 c2
 have t8:=aB (v+B) H (101/100) (50000*d) (by grind) (by grind) d1 d2
 refine ⟨⟨?_,?_⟩,⟨?_,?_⟩⟩<;>grind
theorem iJ (p:Nat × Nat) (n:Nat) (e f:Rat) (h:cz p n e) (hf:e<=f):cz p n f:=by
 obtain ⟨⟨a1,a2⟩,⟨b1,b2⟩⟩:=h;refine ⟨⟨?_,?_⟩,⟨?_,?_⟩⟩<;>grind
theorem VO (i:Nat) (hi:i<=1350):32*(i:Rat)*e96<=50000*e96:=by
 have hp:=gQ;have h:(i:Rat)<=1350:=by exact_mod_cast hi
 exact Rat.mul_le_mul_of_nonneg_right (by grind) (by grind)
theorem rJ (j:Nat) (hj:j<=2000):7*(j:Rat)*e96<=50000*e96:=by
 have hp:=gQ;have h:(j:Rat)<=2000:=by exact_mod_cast hj
 exact Rat.mul_le_mul_of_nonneg_right (by grind) (by grind)
theorem sD:50000*e96<=1/100000:=by have:=gF;unfold e96;decide +kernel
theorem Jc (P:Nat × Nat) (m:Nat) (l:List (Nat × Nat)) (hm:m<=1349) (hP:cz P (2000*m) (50000*e96))
 (hl:∀ x∈l,∃ j,j<2000/\cz x j (7*j*e96))
 (h1:chk (ones l.length) (P.2*pack (l.map (·.1))+P.1*pack (l.map (·.2)))=true) (h2:chk (ones l.length) (P.1*pack (l.map (·.1))-P.2*pack (l.map (·.2)))=true) :
 ∀ x∈l,∀ j,j<2000->cz x j (50000*e96)->(∃ q:Nat,FlR (zs (2000*m+j)) q)/\(∃ q:Nat,FlR (zc (2000*m+j)) q):=by
 have hs:∀ x∈l,P.2*x.2<=P.1*x.1:=by
  intro x hx;obtain ⟨j,hj,hn⟩:=hl x hx;have hn:=iJ _ _ _ _ hn (rJ j (by omega))
  have z1:=wR j (by omega)
  have z2:=dG j (by omega)
  have z3:=dL (2000*m);have z4:=dG (2000*m) (by omega)
  obtain ⟨⟨a1,a2⟩,⟨b1,b2⟩⟩:=hP;obtain ⟨⟨c1,c2⟩,⟨d1,d2⟩⟩:=hn;have hf:=sD;generalize 50000*e96=f at *
  apply EI P.2 x.2 P.1 x.1 (11/10) (1/100) (1/10) (2/10)<;>grind
 have hf:=sD;have hr:=NQ P l (G5 P _ _ (by omega) hf hP) (fun x hx=>by
  obtain ⟨j,hj,hn⟩:=hl x hx;exact G5 x j _ (by omega) hf (iJ _ _ _ _ hn (rJ j (by omega)))) hs h1 h2
 intro x hx j hj hn;obtain ⟨f1,f2⟩:=hr x hx;obtain ⟨g1,g2⟩:=lX P x _ j hP hn (hs x hx);exact ⟨xR _ _ f1 g1.1 g1.2,xR _ _ f2 g2.1 g2.2⟩
theorem pI (q m:Nat) (p:Nat × Nat) (l:List (Nat × Nat)) (hq:m+q<=1350) (hp:cz p (2000*m) (32*m*e96))
 (hl:∀ x∈l,∃ j,j<2000/\cz x j (7*j*e96))
 (h:look q p (pack (l.map (·.1)),pack (l.map (·.2))) (ones l.length)=true) :
 ∀ i,i<q->∀ x∈l,∀ j,j<2000->cz x j (50000*e96)->(∃ q:Nat,FlR (zs (2000*(m+i)+j)) q)/\(∃ q:Nat,FlR (zc (2000*(m+i)+j)) q):=by
 induction q generalizing m p with
 | zero=>intro i hi;omega
 | succ q ih =>
  simp only [look,Bool.and_eq_true] at h;obtain ⟨⟨h1,h2⟩,h3⟩:=h;have r0:=Jc p m l (by omega) (iJ _ _ _ _ hp (VO m (by omega))) hl h1 h2
  have r1:=ih (m+1) (stT p) (by omega) (pF p m (by omega) hp) h3
  clear ih h1 h2 h3 hl hp;intro i hi x hx j hj hn
  by_cases hz:i=0
  . subst hz;rw [Nat.add_zero];exact r0 x hx j hj hn
  . have r:=r1 (i-1) (by omega) x hx j hj hn;rw [show m+1+(i-1)=m+i by omega] at r;exact r
theorem Ik (k m:Nat) (p:Nat × Nat) (hk:m+k<=1350) (hp:cz p (2000*m) (32*m*e96)):cz (Dk k p) (2000*(m+k)) (32*(m+k:Nat)*e96):=by
 induction k generalizing m p with
 | zero=>rw [JD,Nat.add_zero];exact hp
 | succ k ih =>
  have r:=ih (m+1) (stT p) (by omega) (pF p m (by omega) hp)
  rw [show m+1+k=m+(k+1) by omega] at r
  rw [IB];exact r
theorem EN:cz (F96,0) (2000*0) (32*(0:Nat)*e96):=by
 have h:=Bn;have e:(32:Rat)*((0:Nat):Rat)*e96=0:=by norm_cast;grind
 rw [e];exact h
theorem tV:cz (F96,0) 0 (7*(0:Nat)*e96):=by
 have h:=Bn;have e:(7:Rat)*((0:Nat):Rat)*e96=0:=by norm_cast;grind
 rw [e];exact h
theorem NG (n:Nat) (h0:n≠0) (h1:n≠1800000) (h2:n<2700000) (t u:List (Nat × Nat)) (p:Nat × Nat)
 (H1:look 899 (stT (F96,0)) (pack (t.map (·.1)),pack (t.map (·.2))) (ones t.length)=true)
 (H2:look 1 p (pack (u.map (·.1)),pack (u.map (·.2))) (ones u.length)=true)
 (H3:look 449 (stT p) (pack (t.map (·.1)),pack (t.map (·.2))) (ones t.length)=true)
 (H4:look 1 (F96,0) (pack (u.map (·.1)),pack (u.map (·.2))) (ones u.length)=true)
 (kt:∀ x∈t,∃ j,j<2000/\cz x j (7*j*e96)) (ku:∀ x∈u,∃ j,j<2000/\cz x j (7*j*e96))
 (nt:∀ j,j<2000->∃ x∈t,cz x (0+j) (7*(0+j:Nat)*e96)) (nu:∀ j,j<1999->∃ x∈u,cz x (0+1+j) (7*(0+1+j:Nat)*e96))
 (p9:cz p (2000*(0+900)) (32*(0+900:Nat)*e96)):(∃ q:Nat,FlR (zs n) q)/\(∃ q:Nat,FlR (zc n) q):=by
 have s1:=pF (F96,0) 0 (by omega) EN
 have s9:=pF _ (0+900) (by omega) p9
 have en:2000*(n/2000)+n%2000=n:=by omega
 have hi:n/2000<1350:=by omega
 have hj:n%2000<2000:=by omega
 have hnz:n/2000=0∨n/2000=900->n%2000≠0:=by omega
 generalize n/2000=i at *
 generalize n%2000=j at *
 subst en
 by_cases c0:i=0
 . subst c0;have hj0:=hnz (.inl rfl);obtain ⟨x,hx,hn⟩:=nu (j-1) (by omega)
   rw [show 0+1+(j-1)=j by omega] at hn
   exact pI 1 0 (F96,0) u (by omega) EN ku H4 0 (by omega) x hx j hj (iJ _ _ _ _ hn (rJ j (by omega)))
 by_cases c9:i=900
 . subst c9;have hj0:=hnz (.inr rfl);obtain ⟨x,hx,hn⟩:=nu (j-1) (by omega)
   rw [show 0+1+(j-1)=j by omega] at hn
   exact pI 1 (0+900) p u (by omega) p9 ku H2 0 (by omega) x hx j hj (iJ _ _ _ _ hn (rJ j (by omega)))
 obtain ⟨x,hx,hn⟩:=nt j (by omega)
 rw [show 0+j=j by omega] at hn
 by_cases c:i<900
 . have r:=pI 899 (0+1) (stT (F96,0)) t (by omega) s1 kt H1 (i-1) (by omega) x hx j hj (iJ _ _ _ _ hn (rJ j (by omega)))
   rw [show 0+1+(i-1)=i by omega] at r
   exact r
 . have r:=pI 449 (0+900+1) (stT p) t (by omega) s9 kt H3 (i-901) (by omega) x hx j hj (iJ _ _ _ _ hn (rJ j (by omega)))
   rw [show 0+900+1+(i-901)=i by omega] at r
   exact r
theorem Zl {a b c d:Bool} (h:(a&&b&&c&&d)=true):a=true/\b=true/\c=true/\d=true:=by
 cases a<;>cases b<;>cases c<;>cases d<;>simp_all
theorem jU:look 899 (stT (F96,0)) (oN 2000 (F96,0)) (ones 2000)=true/\look 1 (Dk 900 (F96,0)) (oN 1999 (st1 (F96,0))) (ones 1999)=true /\
 look 449 (stT (Dk 900 (F96,0))) (oN 2000 (F96,0)) (ones 2000)=true/\look 1 (F96,0) (oN 1999 (st1 (F96,0))) (ones 1999)=true:=Zl look_ok
theorem Qo (k:Nat) (p:Nat × Nat):oN k p=(pack ((tab k p).map (·.1)),pack ((tab k p).map (·.2))):=by
 have:=IP k p;rw [<-this.1,<-this.2]
theorem mG (q k:Nat) (P p:Nat × Nat) (h:look q P (oN k p) (ones k)=true):look q P (pack ((tab k p).map (·.1)),pack ((tab k p).map (·.2))) (ones (tab k p).length)=true:=by
 rw [EO,<-Qo];exact h
theorem Ho (n:Nat) (h0:n≠0) (h1:n≠1800000) (h2:n<2700000):(∃ q:Nat,FlR (zs n) q)/\(∃ q:Nat,FlR (zc n) q) :=
 NG n h0 h1 h2 (tab 2000 (F96,0)) (tab 1999 (st1 (F96,0))) (Dk 900 (F96,0))
  (mG _ _ _ _ jU.1) (mG _ _ _ _ jU.2.1) (mG _ _ _ _ jU.2.2.1) (mG _ _ _ _ jU.2.2.2)
  (fun x hx=>by
   obtain ⟨j,_,hj,hn⟩:=fT 2000 0 (F96,0) (by omega) tV x hx
   exact ⟨j,hj,hn⟩)
  (fun x hx=>by
   obtain ⟨j,_,hj,hn⟩:=fT 1999 (0+1) (st1 (F96,0)) (by omega) (oz _ 0 (by omega) tV) x hx
   exact ⟨j,hj,hn⟩)
  (C9 2000 0 (F96,0) (by omega) tV) (C9 1999 (0+1) (st1 (F96,0)) (by omega) (oz _ 0 (by omega) tV))
  (Ik 900 0 (F96,0) (by omega) EN)
end Alm
namespace Alm
theorem OO:bM<=1/((2^54:Int):Rat):=by unfold bM aU;decide +kernel
theorem nJ (x s:Rat) (E q:Int) (hx:x*(L0:Rat)=(E:Rat)) (h1:-bM<=x-s) (h2:x-s<=bM)
 (k1:(q*2^24+4)*L0<=E*2^54) (k2:E*2^54<=((q+1)*2^24-4)*L0):FlR s q:=by
 have g1:(((q*2^24+4)*L0:Int):Rat)<=((E*2^54:Int):Rat):=by exact_mod_cast k1
 have g2:((E*2^54:Int):Rat)<=((((q+1)*2^24-4)*L0:Int):Rat):=by exact_mod_cast k2
 simp only [Rat.intCast_mul,Rat.intCast_add,Rat.intCast_sub] at g1 g2;rw [<-hx] at g1 g2;have hl:=pE;have hd:=OO;have t54:((2^54:Int):Rat)*(1/((2^54:Int):Rat))=1:=by decide +kernel
 have t24:((2^24:Int):Rat)*(1/((2^54:Int):Rat))=u30:=by unfold u30;decide +kernel
 have m3:mg=3*(1/((2^54:Int):Rat)):=by unfold mg;decide +kernel
 have f4:((4:Int):Rat)=4:=rfl;have f1:((1:Int):Rat)=1:=rfl;have hm:0<=(1:Rat)/((2^54:Int):Rat):=by decide +kernel
 unfold FlR;rw [m3,<-t24];rw [f4] at g1 g2;rw [f1] at g2;generalize (1:Rat)/((2^54:Int):Rat)=m at *
 generalize ((2^54:Int):Rat)=T at *
 generalize ((2^24:Int):Rat)=S at *
 generalize (L0:Rat)=L at *
 generalize (q:Rat)=r at *
 generalize bM=d at *
 have c1:(r*S+4)*m<=x:=by
  apply Rat.le_of_mul_le_mul_right (c:=L) _ hl;have:=Rat.mul_le_mul_of_nonneg_right g1 hm;have e1:x*L*T*m=x*L*(T*m):=by grind
  rw [e1,t54] at this;grind
 have c2:x<=((r+1)*S-4)*m:=by
  apply Rat.le_of_mul_le_mul_right (c:=L) _ hl;have:=Rat.mul_le_mul_of_nonneg_right g2 hm;have e1:x*L*T*m=x*L*(T*m):=by grind
  rw [e1,t54] at this;grind
 constructor<;>grind
theorem Ot:(929887696*2^24+4)*L0<=ev cP 1800000*2^54/\ev cP 1800000*2^54<=((929887696+1)*2^24-4)*L0:=by decide +kernel
theorem Mx:(759250124*2^24+4)*L0<=ev cP 2700000*2^54/\ev cP 2700000*2^54<=((759250124+1)*2^24-4)*L0:=by decide +kernel
theorem MU:(759250124*2^24+4)*L0<=ev sP 2700000*2^54/\ev sP 2700000*2^54<=((759250124+1)*2^24-4)*L0:=by decide +kernel
theorem TP:FlR (zc 1800000) 929887696:=by
 obtain ⟨_,h1,h2⟩:=near 1800000 (by omega)
 exact nJ _ _ _ _ (iE 1800000) h1 h2 Ot.1 Ot.2
theorem AB:FlR (zc 2700000) 759250124:=by
 obtain ⟨_,h1,h2⟩:=near 2700000 (by omega)
 exact nJ _ _ _ _ (iE 2700000) h1 h2 Mx.1 Mx.2
theorem ER:FlR (zs 2700000) 759250124:=by
 obtain ⟨⟨h1,h2⟩,_⟩:=near 2700000 (by omega)
 exact nJ _ _ _ _ (gD 2700000) h1 h2 MU.1 MU.2
theorem Su (n:Nat) (h:n<=2700000) (h0:n≠0) (h1:n≠1800000):∃ q:Nat,FlR (zs n) q:=by
 by_cases h2:n=2700000
 . subst h2;exact ⟨759250124,ER⟩
 . exact (Ho n h0 h1 (by omega)).1
theorem Vn (n:Nat) (h:n<=2700000) (h0:n≠0):∃ q:Nat,FlR (zc n) q:=by
 by_cases h2:n=2700000
 . subst h2;exact ⟨759250124,AB⟩
 by_cases h1:n=1800000
 . subst h1;exact ⟨929887696,TP⟩
 . exact (Ho n h0 h1 (by omega)).2
theorem Ig (s v:Rat) (V q:Nat) (hq:FlR s q) (hv:v=V*aU) (h1:-mg<v-s) (h2:v-s<mg):V/2^226=q:=by
 obtain ⟨a,b⟩:=hq;have e:u30=((2^226:Nat):Rat)*aU:=by unfold u30 aU;decide +kernel
 have hd:=dU;have eq:(((q:Nat):Int):Rat)=(q:Rat):=rfl;rw [eq] at a b;rw [e] at a b;have g1:((q*2^226:Nat):Rat)<((V:Nat):Rat):=by
  rw [Rat.natCast_mul];generalize ((2^226:Nat):Rat)=A at *
  generalize (q:Rat)=r at *
  generalize (V:Rat)=V at *
  generalize aU=d at *
  have:r*A*d<V*d:=by grind
  exact Rat.lt_of_mul_lt_mul_right this (Rat.le_of_lt hd)
 have g2:((V:Nat):Rat)<(((q+1)*2^226:Nat):Rat):=by
  rw [Rat.natCast_mul];have e1:((q+1:Nat):Rat)=(q:Rat)+1:=by rw [Rat.natCast_add];rfl
  rw [e1];generalize ((2^226:Nat):Rat)=A at *
  generalize (q:Rat)=r at *
  generalize (V:Rat)=V at *
  generalize aU=d at *
  have:V*d<(r+1)*A*d:=by grind
  exact Rat.lt_of_mul_lt_mul_right this (Rat.le_of_lt hd)
 have k1:q*2^226<V:=by exact_mod_cast g1
 have k2:V<(q+1)*2^226:=by exact_mod_cast g2
 apply Nat.div_eq_of_lt_le
 . omega
 . omega
theorem FQ:100*aU+bM<mg:=by unfold bM aU mg;decide +kernel
theorem PW (n:Nat) (h:n<=2700000) (q:Nat) (hq:FlR (zs n) q):mV n/2^226=q:=by
 obtain ⟨h1,_⟩:=near n h;obtain ⟨a,b⟩:=JM n h;have:=FQ;apply Ig (zs n) _ _ _ hq rfl<;>grind
theorem PN (n:Nat) (h:n<=2700000) (q:Nat) (hq:FlR (zc n) q):jG n%W/2^226=q:=by
 obtain ⟨_,h1⟩:=near n h;obtain ⟨a,b⟩:=JI n h;have hh:=FQ;have e:jG n/2^226=q:=by apply Ig (zc n) _ _ _ hq rfl<;>grind
 have zl:=(gB n).2;have hq2:q<2^30:=by
  have h1:=hq.1;have hm:0<mg:=by unfold mg;decide +kernel
  have hu:u30*((2^30:Nat):Rat)=1:=by unfold u30;decide +kernel
  have hup:0<u30:=by unfold u30;decide +kernel
  have:((q:Nat):Rat)<((2^30:Nat):Rat):=by
   have eq:(((q:Nat):Int):Rat)=(q:Rat):=rfl;rw [eq] at h1;apply Rat.lt_of_mul_lt_mul_right (c:=u30) _ (Rat.le_of_lt hup);generalize ((2^30:Nat):Rat)=T at *
   grind
  exact_mod_cast this
 have hlt:jG n<W:=by
  have hW:W=2^226*2^30:=by unfold W;decide +kernel
  rw [hW];have:=Nat.lt_div_mul_add (a:=jG n) (b:=2^226) (by decide)
  have h3:jG n/2^226<2^30:=by omega
  rw [Nat.mul_comm];exact (Nat.div_lt_iff_lt_mul (Nat.two_pow_pos 226)).1 h3
 rw [Nat.mod_eq_of_lt hlt];exact e
end Alm
namespace Alm
def kZ (a b:Nat):Nat:=(a/2147483648)*(b/2147483648)+(a/2147483648)*(b%2147483648)/2147483648+(a%2147483648)*(b/2147483648)/2147483648
theorem NY (a b:Nat):kZ a b*2^62<=a*b/\a*b<(kZ a b+3)*2^62:=by
 have ha:=Nat.div_add_mod a 2147483648;have hb:=Nat.div_add_mod b 2147483648;have la:=Nat.mod_lt a (show 2147483648>0 by decide)
 have lb:=Nat.mod_lt b (show 2147483648>0 by decide)
 unfold kZ;generalize a/2147483648=a1 at *
 generalize a%2147483648=a0 at *
 generalize b/2147483648=b1 at *
 generalize b%2147483648=b0 at *
 subst ha hb;have h1:=Nat.div_add_mod (a1*b0) 2147483648;have h2:=Nat.div_add_mod (a0*b1) 2147483648;have l1:=Nat.mod_lt (a1*b0) (show 2147483648>0 by decide)
 have l2:=Nat.mod_lt (a0*b1) (show 2147483648>0 by decide)
 have h0:a0*b0<=2147483647*2147483647:=Nat.mul_le_mul (by omega) (by omega)
 have e:(2147483648*a1+a0)*(2147483648*b1+b0)=4611686018427387904*(a1*b1)+2147483648*(a1*b0)+2147483648*(a0*b1)+a0*b0:=by grind
 rw [e];generalize a1*b0/2147483648=q1 at *
 generalize a1*b0%2147483648=r1 at *
 generalize a0*b1/2147483648=q2 at *
 generalize a0*b1%2147483648=r2 at *
 generalize a1*b0=m1 at *
 generalize a0*b1=m2 at *
 generalize a1*b1=m3 at *
 generalize a0*b0=m4 at *
 constructor<;>omega
theorem Bc (a b:Nat) (h:b<=2^62):kZ a b<=a:=by
 have h1:=(NY a b).1;have h2:a*b<=a*2^62:=Nat.mul_le_mul_left _ h;exact Nat.le_of_mul_le_mul_right (Nat.le_trans h1 h2) (by decide)
attribute [irreducible] kZ
def xq (r:Nat):Nat:=r*2620088056*512+r*658911831/4194304
def e62:Rat:=1/((2^62:Int):Rat)
theorem Kr (r:Nat) (h:r<=2700000):xq r<=2^62:=by unfold xq;omega
def Jp (r:Nat):Nat:=kZ (xq r) (xq r)
theorem GQ (r:Nat) (h:r<=2700000):Jp r<=2^62:=by unfold Jp;have:=Bc (xq r) (xq r) (Kr r h);have:=Kr r h;omega
def aN:Nat->Nat->Nat->Nat->Int
 | 0,T,_,_=>T
 | m+1,T,s,j=>T-aN m (kZ T s/((j+1)*(j+2))) s (j+2)
theorem Po (m T s j:Nat):aN (m+1) T s j=T-aN m (kZ T s/((j+1)*(j+2))) s (j+2):=rfl
def T9 (r:Nat):Int:=aN 34 (xq r) (Jp r) 1
def Ut (r:Nat):Int:=aN 34 (2^62) (Jp r) 0
end Alm
namespace Alm
