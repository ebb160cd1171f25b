/- Exact points of the unit circle near all angles: the enclosures of sine and cosine hold them. -/
import Derived.Test.YtbdlccacamalpaaZSides
import Derived.Test.YtbdlccacamalpaaZSp
set_option linter.unusedVariables false
set_option linter.unusedSimpArgs false
namespace Go.Proofs.Ytbdlccacamalpaa
open Alm
def ee:Rat:=1/1606938044258990275541962092341162602522202993782792835301376
theorem bC:0<ee:=by unfold ee;decide +kernel
theorem lw:4*bF<=1/4*ee:=by unfold bF aM ee;decide +kernel
theorem Ib:((ev sP 1800000*2-L0).natAbs:Int)*2^201<=L0*2:=by decide +kernel
theorem MZ (n:Nat) (hn:n=1800000):-ee<=zs n-1/2/\zs n-1/2<=ee:=by
 have h:=(near n (by omega)).1
 have d:=lw;have dp:0<bF:=by unfold bF aM;decide +kernel
 have p:-(1/2*ee)<=ps n-1/2/\ps n-1/2<=1/2*ee:=by
  have m:=iR n;have q:=Ib;have l:=lI;rw [<-show ((n:Nat):Int)=1800000 by omega] at q
  generalize ev sP (n:Int)=E at *
  have q1:((E*2-L0)*2^201<=L0*2)/\(-(L0*2)<=(E*2-L0)*2^201):=by omega
  have r1:(((E*2-L0)*2^201:Int):Rat)<=((L0*2:Int):Rat):=Rat.intCast_le_intCast.2 q1.1;have r2:((-(L0*2):Int):Rat)<=(((E*2-L0)*2^201:Int):Rat):=Rat.intCast_le_intCast.2 q1.2;clear q q1 h d hn dp;generalize L0=L at *
  simp only [Rat.intCast_mul,Rat.intCast_sub,Rat.intCast_neg] at r1 r2;generalize (L:Rat)=l0 at *
  generalize ps n=x at *
  have hx:(E:Rat)=x*l0:=m.symm;rw [hx] at r1 r2;have k:(((2^201:Int)):Rat)=3213876088517980551083924184682325205044405987565585670602752:=by decide +kernel
  have k2:((2:Int):Rat)=2:=by decide +kernel
  rw [k,k2] at r1 r2;have e1:ee=1/1606938044258990275541962092341162602522202993782792835301376:=rfl;rw [e1];refine ⟨?_,?_⟩
  . refine Rat.not_lt.1 fun hh=>?_
    have:0<(1/2-1/2*(1/1606938044258990275541962092341162602522202993782792835301376)-x)*l0:=Rat.mul_pos (by grind) l
    grind
  . refine Rat.not_lt.1 fun hh=>?_
    have:0<(x-1/2-1/2*(1/1606938044258990275541962092341162602522202993782792835301376))*l0:=Rat.mul_pos (by grind) l
    grind
 have e:=bC;grind
theorem zS (n:Nat) (h:n<=5400000):-ee<=tS n-sS n/\tS n-sS n<=ee:=by
 have e:=bC;unfold tS sS
 by_cases h1:n=1800000
 . rw [if_pos h1,if_pos (by omega)]
   exact MZ n h1
 . rw [if_neg h1]
   by_cases h2:n<=2700000
   . rw [if_pos h2,if_pos (by omega)];grind
   . rw [if_neg h2,if_neg (by omega)];grind
theorem JE (n:Nat):tS n*tS n+tC n*tC n=1:=by
 unfold tS tC;split
 . have:=lN n;grind
 . have:=lN (5400000-n);grind
theorem Jl (n:Nat) (h:n<=5400000):-ee<=tC n-tS (5400000-n)/\tC n-tS (5400000-n)<=ee:=by
 have e:=bC;unfold tS tC
 by_cases h1:n=2700000
 . rw [if_pos (show n<=2700000 by omega),if_pos (show 5400000-n<=2700000 by omega)]
   have e1:5400000-n=2700000:=by omega
   have m:=gG;have d:=lw;rw [e1,h1];generalize zs 2700000=x at *
   generalize zc 2700000=y at *
   clear h h1 e1;grind
 . by_cases h2:n<=2700000
   . rw [if_pos h2,if_neg (by omega),show 5400000-(5400000-n)=n by omega];grind
   . rw [if_neg h2,if_pos (by omega)];grind
def sg (n:Int):Rat:=if bi n then -tS (aC n).toNat else tS (aC n).toNat
def cg (n:Int):Rat:=if bi (n+5400000) then -tC (aC n).toNat else tC (aC n).toNat
theorem iT (n:Int):sg n*sg n+cg n*cg n=1:=by
 have t:=JE (aC n).toNat;unfold sg cg;split<;>split<;>grind
theorem dx (n:Int):aC (n+5400000)=5400000-aC n:=by
 unfold aC ai;simp only []
 repeat' split
 all_goals omega
theorem FJ (n:Int) (x:Rat) (e:Rat) (h1:-e<=x-sS (aC n).toNat) (h2:x-sS (aC n).toNat<=e) :
 (bLo n:Rat)*u30-e<=(if bi n then -x else x)/\(if bi n then -x else x)<=(bHi n:Rat)*u30+e:=by
 have b:=fA n;have s:=Bz (aC n).toNat (by omega)
 rw [Int.toNat_of_nonneg b.1] at s;unfold bLo bHi
 by_cases q:bi n=true
 . rw [if_pos q,if_pos q,if_pos q];generalize dQ (aC n)+(if fM (aC n) then 0 else 1)=H at *
   generalize dQ (aC n)=L at *
   rw [Rat.intCast_neg,Rat.intCast_neg]
   constructor<;>grind
 . rw [if_neg q,if_neg q,if_neg q];generalize dQ (aC n)+(if fM (aC n) then 0 else 1)=H at *
   generalize dQ (aC n)=L at *
   constructor<;>grind
theorem Qw (n:Int):(bLo n:Rat)*u30-2*ee<=sg n/\sg n<=(bHi n:Rat)*u30+2*ee:=by
 have b:=fA n;have t:=zS (aC n).toNat (by omega)
 have e:=bC;exact FJ n _ (2*ee) (by grind) (by grind)
theorem Ol (n:Int):(bLo (n+5400000):Rat)*u30-2*ee<=cg n/\cg n<=(bHi (n+5400000):Rat)*u30+2*ee:=by
 have b:=fA n;have t:=Jl (aC n).toNat (by omega)
 have t2:=zS (5400000-(aC n).toNat) (by omega)
 have e:=dx n;have e2:(aC (n+5400000)).toNat=5400000-(aC n).toNat:=by rw [e];omega
 have p:=bC;exact FJ (n+5400000) _ (2*ee) (by rw [e2];grind) (by rw [e2];grind)
def InE (L H:Int) (x e:Rat):Prop:=(L:Rat)*u30-e<=x/\x<=(H:Rat)*u30+e
theorem NG (lo hi n:Int) (h:n=lo∨n=hi):InE (gu lo hi) (gq lo hi) (sg n) (2*ee):=by
 have s:=Qw n;have u:0<u30:=by rw [dm];decide +kernel
 have a:gu lo hi<=bLo n/\bHi n<=gq lo hi:=by
  have b:=ni n;unfold gu gq;rcases h with rfl|rfl<;>(constructor<;>split<;>omega)
 have c1:(gu lo hi:Rat)<=(bLo n:Rat):=Rat.intCast_le_intCast.2 a.1;have c2:(bHi n:Rat)<=(gq lo hi:Rat):=Rat.intCast_le_intCast.2 a.2;have m1:=Rat.mul_le_mul_of_nonneg_right c1 (Rat.le_of_lt u);have m2:=Rat.mul_le_mul_of_nonneg_right c2 (Rat.le_of_lt u);unfold InE
 constructor<;>grind
theorem NM (lo hi n:Int) (h:n=lo∨n=hi):InE (gu (lo+5400000) (hi+5400000)) (gq (lo+5400000) (hi+5400000)) (cg n) (2*ee):=by
 have s:=Ol n;have u:0<u30:=by rw [dm];decide +kernel
 have a:gu (lo+5400000) (hi+5400000)<=bLo (n+5400000)/\bHi (n+5400000)<=gq (lo+5400000) (hi+5400000):=by
  have b:=ni (n+5400000);unfold gu gq;rcases h with rfl|rfl<;>(constructor<;>split<;>omega)
 have c1:(gu (lo+5400000) (hi+5400000):Rat)<=(bLo (n+5400000):Rat):=Rat.intCast_le_intCast.2 a.1;have c2:(bHi (n+5400000):Rat)<=(gq (lo+5400000) (hi+5400000):Rat):=Rat.intCast_le_intCast.2 a.2;have m1:=Rat.mul_le_mul_of_nonneg_right c1 (Rat.le_of_lt u);have m2:=Rat.mul_le_mul_of_nonneg_right c2 (Rat.le_of_lt u);unfold InE
 constructor<;>grind
end Go.Proofs.Ytbdlccacamalpaa
namespace Alm
theorem AQ {m l1 h1 l2 h2 x y:Rat} (a:m<=l1*l2) (b:m<=l1*h2) (c:m<=h1*l2) (d:m<=h1*h2) (x1:l1<=x) (x2:x<=h1) (y1:l2<=y) (y2:y<=h2):m<=x*y:=by
 have key:∀ t:Rat,m<=t*l2->m<=t*h2->m<=t*y:=by
  intro t p q;rcases Rat.le_total (a:=0) (b:=t) with h|h
  . have:=Rat.mul_nonneg h (show 0<=y-l2 by grind)
    grind
  . have:=Rat.mul_nonneg (show 0<=-t by grind) (show 0<=h2-y by grind)
    grind
 have k1:=key l1 a b;have k2:=key h1 c d;rcases Rat.le_total (a:=0) (b:=y) with h|h
 . have:=Rat.mul_nonneg h (show 0<=x-l1 by grind)
   grind
 . have:=Rat.mul_nonneg (show 0<=-y by grind) (show 0<=h1-x by grind)
   grind
theorem IP {m l1 h1 l2 h2 x y:Rat} (a:l1*l2<=m) (b:l1*h2<=m) (c:h1*l2<=m) (d:h1*h2<=m) (x1:l1<=x) (x2:x<=h1) (y1:l2<=y) (y2:y<=h2):x*y<=m:=by
 have:=AQ (m:=-m) (l1:=-h1) (h1:=-l1) (l2:=l2) (h2:=h2) (x:=-x) (y:=y) (by grind) (by grind) (by grind) (by grind) (by grind) (by grind) y1 y2
 grind
theorem rA {l h x e:Rat} (lh:l<=h) (a:l-e<=x) (b:x<=h+e) (he:0<=e):∃ y,l<=y/\y<=h/\-e<=x-y/\x-y<=e:=by
 by_cases p:x<l
 . exact ⟨l,by grind,lh,by grind,by grind⟩
 . by_cases q:h<x
   . exact ⟨h,lh,by grind,by grind,by grind⟩
   . exact ⟨x,by grind,by grind,by grind,by grind⟩
theorem eG {x y:Int} (hx:-1073741824<=x/\x<=1073741824) (hy:-1073741824<=y/\y<=1073741824):-1152921504606846976<=x*y/\x*y<=1152921504606846976:=by
 have a:=Int.mul_nonneg (show 0<=1073741824-x by omega) (show 0<=1073741824-y by omega)
 have b:=Int.mul_nonneg (show 0<=1073741824+x by omega) (show 0<=1073741824+y by omega)
 have c:=Int.mul_nonneg (show 0<=1073741824-x by omega) (show 0<=1073741824+y by omega)
 have d:=Int.mul_nonneg (show 0<=1073741824+x by omega) (show 0<=1073741824-y by omega)
 constructor<;>grind
end Alm
namespace Go.Proofs.Ytbdlccacamalpaa
open Alm Sx
abbrev IV:=Int × Int
def uM (p q:IV):IV:=((az 0 [p.1,p.2,q.1,q.2]).getD 0 0,(az 0 [p.1,p.2,q.1,q.2]).getD 1 0)
def uA (p q:IV):IV:=((az 1 [p.1,p.2,q.1,q.2]).getD 0 0,(az 1 [p.1,p.2,q.1,q.2]).getD 1 0)
def uD (p q:IV):IV:=((az 2 [p.1,p.2,q.1,q.2]).getD 0 0,(az 2 [p.1,p.2,q.1,q.2]).getD 1 0)
def uS (a b:Int):IV:=(gu a b,gq a b)
def uC (a b:Int):IV:=(gu (a+5400000) (b+5400000),gq (a+5400000) (b+5400000))
def U (p:IV):Prop:=-1073741824<=p.1/\p.1<=p.2/\p.2<=1073741824
theorem U_S (a b:Int):U (uS a b):=DT a b
theorem U_C (a b:Int):U (uC a b):=DT _ _
theorem U_M {p q:IV} (hp:U p) (hq:U q):uM p q=(eD p.1 p.2 q.1 q.2,eY p.1 p.2 q.1 q.2)/\(az 0 [p.1,p.2,q.1,q.2]).getD 2 0=0/\U (uM p q):=by
 obtain ⟨a,b⟩:=p;obtain ⟨c,d⟩:=q;unfold U at hp hq;simp only at hp hq;have m1:=eG (x:=a) (y:=c) (by omega) (by omega)
 have m2:=eG (x:=a) (y:=d) (by omega) (by omega)
 have m3:=eG (x:=b) (y:=c) (by omega) (by omega)
 have m4:=eG (x:=b) (y:=d) (by omega) (by omega)
 have lo:-1073741824<=eD a b c d:=by unfold eD mn4;generalize a*c=w1 at *;generalize a*d=w2 at *;generalize b*c=w3 at *;generalize b*d=w4 at *;omega
 have hi:eY a b c d<=1073741824:=by unfold eY mx4;generalize a*c=w1 at *;generalize a*d=w2 at *;generalize b*c=w3 at *;generalize b*d=w4 at *;omega
 have le:=AX a b c d;have ok:-2147483648<=eD a b c d/\eD a b c d<=eY a b c d/\eY a b c d<=2147483648:=by omega
 have e:uM (a,b) (c,d)=(eD a b c d,eY a b c d):=by
  show (fU _ _,fJ _ _)=_;unfold fU fJ;rw [if_pos ok,if_pos ok]
 refine ⟨e,?_,?_⟩
 . show jT _ _=0;unfold jT;rw [if_pos ok]
 . rw [e];exact ⟨lo,le,hi⟩
theorem U_A {p q:IV} (hp:U p) (hq:U q):uA p q=(p.1+q.1,p.2+q.2)/\(az 1 [p.1,p.2,q.1,q.2]).getD 2 0=0/\fxV (uA p q).1 (uA p q).2=true:=by
 unfold U at hp hq;have ok:-2147483648<=p.1+q.1/\p.1+q.1<=p.2+q.2/\p.2+q.2<=2147483648:=by omega
 have e:uA p q=(p.1+q.1,p.2+q.2):=by
  show (fU _ _,fJ _ _)=_;unfold fU fJ;rw [if_pos ok,if_pos ok]
 refine ⟨e,?_,?_⟩
 . show jT _ _=0;unfold jT;rw [if_pos ok]
 . rw [e];exact (bT _ _).2 ok
theorem U_D {p q:IV} (hp:U p) (hq:U q):uD p q=(p.1-q.2,p.2-q.1)/\(az 2 [p.1,p.2,q.1,q.2]).getD 2 0=0/\fxV (uD p q).1 (uD p q).2=true:=by
 unfold U at hp hq;have ok:-2147483648<=p.1-q.2/\p.1-q.2<=p.2-q.1/\p.2-q.1<=2147483648:=by omega
 have e:uD p q=(p.1-q.2,p.2-q.1):=by
  show (fU _ _,fJ _ _)=_;unfold fU fJ;rw [if_pos ok,if_pos ok]
 refine ⟨e,?_,?_⟩
 . show jT _ _=0;unfold jT;rw [if_pos ok]
 . rw [e];exact (bT _ _).2 ok
theorem za {p:IV} (h:U p):fxV p.1 p.2=true:=(bT _ _).2 (by unfold U at h;omega)
theorem dV:0<u30:=by rw [dm];decide +kernel
theorem dz:(1073741824:Rat)*u30=1:=by rw [dm];decide +kernel
theorem NJ {a b c d m:Int} {x y:Rat} (hm:m*1073741824<=mn4 a b c d) (x1:(a:Rat)*u30<=x) (x2:x<=(b:Rat)*u30) (y1:(c:Rat)*u30<=y) (y2:y<=(d:Rat)*u30):(m:Rat)*u30<=x*y:=by
 have up:=dV;have uu:0<=u30*u30:=Rat.mul_nonneg (Rat.le_of_lt up) (Rat.le_of_lt up)
 have key:∀ s t:Int,m*1073741824<=s*t->(m:Rat)*u30<=((s:Rat)*u30)*((t:Rat)*u30):=by
  intro s t h;have h1:((m*1073741824:Int):Rat)<=((s*t:Int):Rat):=Rat.intCast_le_intCast.2 h;rw [Rat.intCast_mul,Rat.intCast_mul] at h1;have h2:=Rat.mul_le_mul_of_nonneg_right h1 uu;have h3:((1073741824:Int):Rat)*u30=1:=dz;have e1:(m:Rat)*((1073741824:Int):Rat)*(u30*u30)=(m:Rat)*u30*(((1073741824:Int):Rat)*u30):=by grind
  rw [e1,h3] at h2;grind
 have q:mn4 a b c d<=a*c/\mn4 a b c d<=a*d/\mn4 a b c d<=b*c/\mn4 a b c d<=b*d:=by unfold mn4;omega
 exact AQ (key a c (by omega)) (key a d (by omega)) (key b c (by omega)) (key b d (by omega)) x1 x2 y1 y2
theorem Nj {a b c d m:Int} {x y:Rat} (hm:mx4 a b c d<=m*1073741824) (x1:(a:Rat)*u30<=x) (x2:x<=(b:Rat)*u30) (y1:(c:Rat)*u30<=y) (y2:y<=(d:Rat)*u30):x*y<=(m:Rat)*u30:=by
 have up:=dV;have uu:0<=u30*u30:=Rat.mul_nonneg (Rat.le_of_lt up) (Rat.le_of_lt up)
 have key:∀ s t:Int,s*t<=m*1073741824->((s:Rat)*u30)*((t:Rat)*u30)<=(m:Rat)*u30:=by
  intro s t h;have h1:((s*t:Int):Rat)<=((m*1073741824:Int):Rat):=Rat.intCast_le_intCast.2 h;rw [Rat.intCast_mul,Rat.intCast_mul] at h1;have h2:=Rat.mul_le_mul_of_nonneg_right h1 uu;have h3:((1073741824:Int):Rat)*u30=1:=dz;have e1:(m:Rat)*((1073741824:Int):Rat)*(u30*u30)=(m:Rat)*u30*(((1073741824:Int):Rat)*u30):=by grind
  rw [e1,h3] at h2;grind
 have q:a*c<=mx4 a b c d/\a*d<=mx4 a b c d/\b*c<=mx4 a b c d/\b*d<=mx4 a b c d:=by unfold mx4;omega
 exact IP (key a c (by omega)) (key a d (by omega)) (key b c (by omega)) (key b d (by omega)) x1 x2 y1 y2
theorem DX {x y:Rat} (h:x*x+y*y=1):-1<=x/\x<=1:=by
 have yy:0<=y*y:=by
  rcases Rat.le_total (a:=0) (b:=y) with q|q
  . exact Rat.mul_nonneg q q
  . have:=Rat.mul_nonneg (show 0<=-y by grind) (show 0<=-y by grind)
    grind
 constructor
 . refine Rat.not_lt.1 fun hh=>?_
   have:=Rat.mul_pos (show 0 < -1-x by grind) (show 0<1-x by grind)
   grind
 . refine Rat.not_lt.1 fun hh=>?_
   have:=Rat.mul_pos (show 0<x-1 by grind) (show 0<x+1 by grind)
   grind
theorem bX (x:Rat):0<=x*x:=by
 rcases Rat.le_total (a:=0) (b:=x) with q|q
 . exact Rat.mul_nonneg q q
 . have:=Rat.mul_nonneg (show 0<=-x by grind) (show 0<=-x by grind)
   grind
