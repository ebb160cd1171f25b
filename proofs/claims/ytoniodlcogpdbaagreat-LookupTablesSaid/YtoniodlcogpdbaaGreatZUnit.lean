/- Exact points of the unit circle near all angles: the enclosures of sine and cosine hold them. -/
import Derived.Test.YtoniodlcogpdbaaGreatZSides
import Derived.Test.YtoniodlcogpdbaaGreatZSp
set_option linter.unusedVariables false
set_option linter.unusedSimpArgs false
namespace Go.Proofs.YtoniodlcogpdbaaGreat
open Alm
def ee:Rat:=1/1606938044258990275541962092341162602522202993782792835301376
theorem sG:0<ee:=by unfold ee;decide +kernel
theorem KG:4*bQ<=1/4*ee:=by unfold bQ aO ee;decide +kernel
theorem Vz:((ev sP 1800000*2-L0).natAbs:Int)*2^201<=L0*2:=by decide +kernel
theorem YD (n:Nat) (hn:n=1800000):-ee<=zs n-1/2/\zs n-1/2<=ee:=by
 have h:=(near n (by omega)).1
 have d:=KG;have dp:0<bQ:=by unfold bQ aO;decide +kernel
 have p:-(1/2*ee)<=ps n-1/2/\ps n-1/2<=1/2*ee:=by
  have m:=kR n;have q:=Vz;have l:=qg;rw [<-show ((n:Nat):Int)=1800000 by omega] at q
  generalize ev sP (n:Int)=E at *
  have q1:((E*2-L0)*2^201<=L0*2)/\(-(L0*2)<=(E*2-L0)*2^201):=by omega
  have r1:(((E*2-L0)*2^201:Int):Rat)<=((L0*2:Int):Rat):=Rat.intCast_le_intCast.2 q1.1;have r2:((-(L0*2):Int):Rat)<=(((E*2-L0)*2^201:Int):Rat):=Rat.intCast_le_intCast.2 q1.2;clear q q1 h d hn dp;generalize L0=L at *
  simp only [Rat.intCast_mul,Rat.intCast_sub,Rat.intCast_neg] at r1 r2;generalize (L:Rat)=l0 at *
  generalize ps n=x at *
  have hx:(E:Rat)=x*l0:=m.symm;rw [hx] at r1 r2;have k:(((2^201:Int)):Rat)=3213876088517980551083924184682325205044405987565585670602752:=by decide +kernel
  have k2:((2:Int):Rat)=2:=by decide +kernel
  rw [k,k2] at r1 r2;have e1:ee=1/1606938044258990275541962092341162602522202993782792835301376:=rfl;rw [e1];refine ⟨?_,?_⟩
  . refine Rat.not_lt.1 fun hh=>?_
    have:0<(1/2-1/2*(1/1606938044258990275541962092341162602522202993782792835301376)-x)*l0:=Rat.mul_pos (by grind) l
    grind
  . refine Rat.not_lt.1 fun hh=>?_
    have:0<(x-1/2-1/2*(1/1606938044258990275541962092341162602522202993782792835301376))*l0:=Rat.mul_pos (by grind) l
    grind
 have e:=sG;grind
theorem Xa (n:Nat) (h:n<=5400000):-ee<=tS n-sS n/\tS n-sS n<=ee:=by
 have e:=sG;unfold tS sS
 by_cases h1:n=1800000
 . rw [if_pos h1,if_pos (by omega)]
   exact YD n h1
 . rw [if_neg h1]
   by_cases h2:n<=2700000
   . rw [if_pos h2,if_pos (by omega)];grind
   . rw [if_neg h2,if_neg (by omega)];grind
theorem ZG (n:Nat):tS n*tS n+tC n*tC n=1:=by
 unfold tS tC;split
 . have:=ER n;grind
 . have:=ER (5400000-n);grind
theorem aaw (n:Nat) (h:n<=5400000):-ee<=tC n-tS (5400000-n)/\tC n-tS (5400000-n)<=ee:=by
 have e:=sG;unfold tS tC
 by_cases h1:n=2700000
 . rw [if_pos (show n<=2700000 by omega),if_pos (show 5400000-n<=2700000 by omega)]
   have e1:5400000-n=2700000:=by omega
   have m:=rq;have d:=KG;rw [e1,h1];generalize zs 2700000=x at *
   generalize zc 2700000=y at *
   clear h h1 e1;grind
 . by_cases h2:n<=2700000
   . rw [if_pos h2,if_neg (by omega),show 5400000-(5400000-n)=n by omega];grind
   . rw [if_neg h2,if_pos (by omega)];grind
def sg (n:Int):Rat:=if dm n then -tS (aI n).toNat else tS (aI n).toNat
def cg (n:Int):Rat:=if dm (n+5400000) then -tC (aI n).toNat else tC (aI n).toNat
theorem GY (n:Int):sg n*sg n+cg n*cg n=1:=by
 have t:=ZG (aI n).toNat;unfold sg cg;split<;>split<;>grind
theorem Aw (n:Int):aI (n+5400000)=5400000-aI n:=by
 unfold aI au;simp only []
 repeat' split
 all_goals omega
theorem Qf (n:Int) (x:Rat) (e:Rat) (h1:-e<=x-sS (aI n).toNat) (h2:x-sS (aI n).toNat<=e) :
 (bLo n:Rat)*u30-e<=(if dm n then -x else x)/\(if dm n then -x else x)<=(bHi n:Rat)*u30+e:=by
 have b:=jW n;have s:=nJ (aI n).toNat (by omega)
 rw [Int.toNat_of_nonneg b.1] at s;unfold bLo bHi
 by_cases q:dm n=true
 . rw [if_pos q,if_pos q,if_pos q];generalize cz (aI n)+(if dK (aI n) then 0 else 1)=H at *
   generalize cz (aI n)=L at *
   rw [Rat.intCast_neg,Rat.intCast_neg]
   constructor<;>grind
 . rw [if_neg q,if_neg q,if_neg q];generalize cz (aI n)+(if dK (aI n) then 0 else 1)=H at *
   generalize cz (aI n)=L at *
   constructor<;>grind
theorem acD (n:Int):(bLo n:Rat)*u30-2*ee<=sg n/\sg n<=(bHi n:Rat)*u30+2*ee:=by
 have b:=jW n;have t:=Xa (aI n).toNat (by omega)
 have e:=sG;exact Qf n _ (2*ee) (by grind) (by grind)
theorem abT (n:Int):(bLo (n+5400000):Rat)*u30-2*ee<=cg n/\cg n<=(bHi (n+5400000):Rat)*u30+2*ee:=by
 have b:=jW n;have t:=aaw (aI n).toNat (by omega)
 have t2:=Xa (5400000-(aI n).toNat) (by omega)
 have e:=Aw n;have e2:(aI (n+5400000)).toNat=5400000-(aI n).toNat:=by rw [e];omega
 have p:=sG;exact Qf (n+5400000) _ (2*ee) (by rw [e2];grind) (by rw [e2];grind)
def InE (L H:Int) (x e:Rat):Prop:=(L:Rat)*u30-e<=x/\x<=(H:Rat)*u30+e
theorem WN (lo hi n:Int) (h:n=lo∨n=hi):InE (bC lo hi) (bI lo hi) (sg n) (2*ee):=by
 have s:=acD n;have u:0<u30:=by rw [fu];decide +kernel
 have a:bC lo hi<=bLo n/\bHi n<=bI lo hi:=by
  have b:=gP n;unfold bC bI;rcases h with rfl|rfl<;>(constructor<;>split<;>omega)
 have c1:(bC lo hi:Rat)<=(bLo n:Rat):=Rat.intCast_le_intCast.2 a.1;have c2:(bHi n:Rat)<=(bI lo hi:Rat):=Rat.intCast_le_intCast.2 a.2;have m1:=Rat.mul_le_mul_of_nonneg_right c1 (Rat.le_of_lt u);have m2:=Rat.mul_le_mul_of_nonneg_right c2 (Rat.le_of_lt u);unfold InE
 constructor<;>grind
theorem Pz (lo hi n:Int) (h:n=lo∨n=hi):InE (bC (lo+5400000) (hi+5400000)) (bI (lo+5400000) (hi+5400000)) (cg n) (2*ee):=by
 have s:=abT n;have u:0<u30:=by rw [fu];decide +kernel
 have a:bC (lo+5400000) (hi+5400000)<=bLo (n+5400000)/\bHi (n+5400000)<=bI (lo+5400000) (hi+5400000):=by
  have b:=gP (n+5400000);unfold bC bI;rcases h with rfl|rfl<;>(constructor<;>split<;>omega)
 have c1:(bC (lo+5400000) (hi+5400000):Rat)<=(bLo (n+5400000):Rat):=Rat.intCast_le_intCast.2 a.1;have c2:(bHi (n+5400000):Rat)<=(bI (lo+5400000) (hi+5400000):Rat):=Rat.intCast_le_intCast.2 a.2;have m1:=Rat.mul_le_mul_of_nonneg_right c1 (Rat.le_of_lt u);have m2:=Rat.mul_le_mul_of_nonneg_right c2 (Rat.le_of_lt u);unfold InE
 constructor<;>grind
end Go.Proofs.YtoniodlcogpdbaaGreat
namespace Alm
theorem Ki {m l1 h1 l2 h2 x y:Rat} (a:m<=l1*l2) (b:m<=l1*h2) (c:m<=h1*l2) (d:m<=h1*h2) (x1:l1<=x) (x2:x<=h1) (y1:l2<=y) (y2:y<=h2):m<=x*y:=by
 have key:∀ t:Rat,m<=t*l2->m<=t*h2->m<=t*y:=by
  intro t p q;rcases Rat.le_total (a:=0) (b:=t) with h|h
  . have:=Rat.mul_nonneg h (show 0<=y-l2 by grind)
    grind
  . have:=Rat.mul_nonneg (show 0<=-t by grind) (show 0<=h2-y by grind)
    grind
 have k1:=key l1 a b;have k2:=key h1 c d;rcases Rat.le_total (a:=0) (b:=y) with h|h
 . have:=Rat.mul_nonneg h (show 0<=x-l1 by grind)
   grind
 . have:=Rat.mul_nonneg (show 0<=-y by grind) (show 0<=h1-x by grind)
   grind
theorem Vp {m l1 h1 l2 h2 x y:Rat} (a:l1*l2<=m) (b:l1*h2<=m) (c:h1*l2<=m) (d:h1*h2<=m) (x1:l1<=x) (x2:x<=h1) (y1:l2<=y) (y2:y<=h2):x*y<=m:=by
 have:=Ki (m:=-m) (l1:=-h1) (h1:=-l1) (l2:=l2) (h2:=h2) (x:=-x) (y:=y) (by grind) (by grind) (by grind) (by grind) (by grind) (by grind) y1 y2
 grind
theorem Rm {l h x e:Rat} (lh:l<=h) (a:l-e<=x) (b:x<=h+e) (he:0<=e):∃ y,l<=y/\y<=h/\-e<=x-y/\x-y<=e:=by
 by_cases p:x<l
 . exact ⟨l,by grind,lh,by grind,by grind⟩
 . by_cases q:h<x
   . exact ⟨h,lh,by grind,by grind,by grind⟩
   . exact ⟨x,by grind,by grind,by grind,by grind⟩
theorem kW {x y:Int} (hx:-1073741824<=x/\x<=1073741824) (hy:-1073741824<=y/\y<=1073741824):-1152921504606846976<=x*y/\x*y<=1152921504606846976:=by
 have a:=Int.mul_nonneg (show 0<=1073741824-x by omega) (show 0<=1073741824-y by omega)
 have b:=Int.mul_nonneg (show 0<=1073741824+x by omega) (show 0<=1073741824+y by omega)
 have c:=Int.mul_nonneg (show 0<=1073741824-x by omega) (show 0<=1073741824+y by omega)
 have d:=Int.mul_nonneg (show 0<=1073741824+x by omega) (show 0<=1073741824-y by omega)
 constructor<;>grind
end Alm
namespace Go.Proofs.YtoniodlcogpdbaaGreat
open Alm Sx
abbrev IV:=Int × Int
def uM (p q:IV):IV:=((fZ 0 [p.1,p.2,q.1,q.2]).getD 0 0,(fZ 0 [p.1,p.2,q.1,q.2]).getD 1 0)
def uA (p q:IV):IV:=((fZ 1 [p.1,p.2,q.1,q.2]).getD 0 0,(fZ 1 [p.1,p.2,q.1,q.2]).getD 1 0)
def uD (p q:IV):IV:=((fZ 2 [p.1,p.2,q.1,q.2]).getD 0 0,(fZ 2 [p.1,p.2,q.1,q.2]).getD 1 0)
def uN (p:IV):IV:=(-p.2,-p.1)
def uS (a b:Int):IV:=(bC a b,bI a b)
def uC (a b:Int):IV:=(bC (a+5400000) (b+5400000),bI (a+5400000) (b+5400000))
def U (p:IV):Prop:=-1073741824<=p.1/\p.1<=p.2/\p.2<=1073741824
theorem U_S (a b:Int):U (uS a b):=Pp a b
theorem U_C (a b:Int):U (uC a b):=Pp _ _
theorem U_N {p:IV} (h:U p):U (uN p):=by unfold U uN at *;simp only;omega
theorem U_M {p q:IV} (hp:U p) (hq:U q):uM p q=(jM p.1 p.2 q.1 q.2,jR p.1 p.2 q.1 q.2)/\(fZ 0 [p.1,p.2,q.1,q.2]).getD 2 0=0/\U (uM p q):=by
 obtain ⟨a,b⟩:=p;obtain ⟨c,d⟩:=q;unfold U at hp hq;simp only at hp hq;have m1:=kW (x:=a) (y:=c) (by omega) (by omega)
 have m2:=kW (x:=a) (y:=d) (by omega) (by omega)
 have m3:=kW (x:=b) (y:=c) (by omega) (by omega)
 have m4:=kW (x:=b) (y:=d) (by omega) (by omega)
 have lo:-1073741824<=jM a b c d:=by unfold jM mn4;generalize a*c=w1 at *;generalize a*d=w2 at *;generalize b*c=w3 at *;generalize b*d=w4 at *;omega
 have hi:jR a b c d<=1073741824:=by unfold jR mx4;generalize a*c=w1 at *;generalize a*d=w2 at *;generalize b*c=w3 at *;generalize b*d=w4 at *;omega
 have le:=IZ a b c d;have ok:-2147483648<=jM a b c d/\jM a b c d<=jR a b c d/\jR a b c d<=2147483648:=by omega
 have e:uM (a,b) (c,d)=(jM a b c d,jR a b c d):=by
  show (pO _ _,pu _ _)=_;unfold pO pu;rw [if_pos ok,if_pos ok]
 refine ⟨e,?_,?_⟩
 . show om _ _=0;unfold om;rw [if_pos ok]
 . rw [e];exact ⟨lo,le,hi⟩
theorem U_A {p q:IV} (hp:U p) (hq:U q):uA p q=(p.1+q.1,p.2+q.2)/\(fZ 1 [p.1,p.2,q.1,q.2]).getD 2 0=0/\fxV (uA p q).1 (uA p q).2=true:=by
 unfold U at hp hq;have ok:-2147483648<=p.1+q.1/\p.1+q.1<=p.2+q.2/\p.2+q.2<=2147483648:=by omega
 have e:uA p q=(p.1+q.1,p.2+q.2):=by
  show (pO _ _,pu _ _)=_;unfold pO pu;rw [if_pos ok,if_pos ok]
 refine ⟨e,?_,?_⟩
 . show om _ _=0;unfold om;rw [if_pos ok]
 . rw [e];exact (bS _ _).2 ok
theorem U_D {p q:IV} (hp:U p) (hq:U q):uD p q=(p.1-q.2,p.2-q.1)/\(fZ 2 [p.1,p.2,q.1,q.2]).getD 2 0=0/\fxV (uD p q).1 (uD p q).2=true:=by
 unfold U at hp hq;have ok:-2147483648<=p.1-q.2/\p.1-q.2<=p.2-q.1/\p.2-q.1<=2147483648:=by omega
 have e:uD p q=(p.1-q.2,p.2-q.1):=by
  show (pO _ _,pu _ _)=_;unfold pO pu;rw [if_pos ok,if_pos ok]
 refine ⟨e,?_,?_⟩
 . show om _ _=0;unfold om;rw [if_pos ok]
 . rw [e];exact (bS _ _).2 ok
theorem dR {p:IV} (h:U p):fxV p.1 p.2=true:=(bS _ _).2 (by unfold U at h;omega)
theorem rA:0<u30:=by rw [fu];decide +kernel
theorem vC:(1073741824:Rat)*u30=1:=by rw [fu];decide +kernel
theorem abX {a b c d m:Int} {x y:Rat} (hm:m*1073741824<=mn4 a b c d) (x1:(a:Rat)*u30<=x) (x2:x<=(b:Rat)*u30) (y1:(c:Rat)*u30<=y) (y2:y<=(d:Rat)*u30):(m:Rat)*u30<=x*y:=by
 have up:=rA;have uu:0<=u30*u30:=Rat.mul_nonneg (Rat.le_of_lt up) (Rat.le_of_lt up)
 have key:∀ s t:Int,m*1073741824<=s*t->(m:Rat)*u30<=((s:Rat)*u30)*((t:Rat)*u30):=by
  intro s t h;have h1:((m*1073741824:Int):Rat)<=((s*t:Int):Rat):=Rat.intCast_le_intCast.2 h;rw [Rat.intCast_mul,Rat.intCast_mul] at h1;have h2:=Rat.mul_le_mul_of_nonneg_right h1 uu;have h3:((1073741824:Int):Rat)*u30=1:=vC;have e1:(m:Rat)*((1073741824:Int):Rat)*(u30*u30)=(m:Rat)*u30*(((1073741824:Int):Rat)*u30):=by grind
  rw [e1,h3] at h2;grind
 have q:mn4 a b c d<=a*c/\mn4 a b c d<=a*d/\mn4 a b c d<=b*c/\mn4 a b c d<=b*d:=by unfold mn4;omega
 exact Ki (key a c (by omega)) (key a d (by omega)) (key b c (by omega)) (key b d (by omega)) x1 x2 y1 y2
theorem acV {a b c d m:Int} {x y:Rat} (hm:mx4 a b c d<=m*1073741824) (x1:(a:Rat)*u30<=x) (x2:x<=(b:Rat)*u30) (y1:(c:Rat)*u30<=y) (y2:y<=(d:Rat)*u30):x*y<=(m:Rat)*u30:=by
 have up:=rA;have uu:0<=u30*u30:=Rat.mul_nonneg (Rat.le_of_lt up) (Rat.le_of_lt up)
 have key:∀ s t:Int,s*t<=m*1073741824->((s:Rat)*u30)*((t:Rat)*u30)<=(m:Rat)*u30:=by
  intro s t h;have h1:((s*t:Int):Rat)<=((m*1073741824:Int):Rat):=Rat.intCast_le_intCast.2 h;rw [Rat.intCast_mul,Rat.intCast_mul] at h1;have h2:=Rat.mul_le_mul_of_nonneg_right h1 uu;have h3:((1073741824:Int):Rat)*u30=1:=vC;have e1:(m:Rat)*((1073741824:Int):Rat)*(u30*u30)=(m:Rat)*u30*(((1073741824:Int):Rat)*u30):=by grind
  rw [e1,h3] at h2;grind
 have q:a*c<=mx4 a b c d/\a*d<=mx4 a b c d/\b*c<=mx4 a b c d/\b*d<=mx4 a b c d:=by unfold mx4;omega
 exact Vp (key a c (by omega)) (key a d (by omega)) (key b c (by omega)) (key b d (by omega)) x1 x2 y1 y2
theorem WS {n:Int} (h:-1073741824<=n/\n<=1073741824):-1<=(n:Rat)*u30/\(n:Rat)*u30<=1:=by
 have up:=Rat.le_of_lt rA;have h1:((-1073741824:Int):Rat)<=(n:Rat):=Rat.intCast_le_intCast.2 h.1;have h2:(n:Rat)<=((1073741824:Int):Rat):=Rat.intCast_le_intCast.2 h.2;have m1:=Rat.mul_le_mul_of_nonneg_right h1 up;have m2:=Rat.mul_le_mul_of_nonneg_right h2 up;have e1:((1073741824:Int):Rat)*u30=1:=vC;have e2:((-1073741824:Int):Rat)*u30=-1:=by rw [fu];decide +kernel
 rw [e1] at m2;rw [e2] at m1;exact ⟨m1,m2⟩
theorem OH {p q:IV} (hp:U p) (hq:U q) {x y e f:Rat} (hx:InE p.1 p.2 x e) (hy:InE q.1 q.2 y f) (he:0<=e) (hf:0<=f) (x1:-1<=x/\x<=1):InE (uM p q).1 (uM p q).2 (x*y) (e+f):=by
 rw [(U_M hp hq).1];obtain ⟨a,b⟩:=p;obtain ⟨c,d⟩:=q;unfold U at hp hq;unfold InE at *
 simp only at hp hq hx hy ⊢
 have up:=Rat.le_of_lt rA;have k1:=Rat.mul_le_mul_of_nonneg_right (Rat.intCast_le_intCast.2 hp.2.1) up;have k2:=Rat.mul_le_mul_of_nonneg_right (Rat.intCast_le_intCast.2 hq.2.1) up;obtain ⟨x',a1,a2,a3,a4⟩:=Rm k1 hx.1 hx.2 he;obtain ⟨y',b1,b2,b3,b4⟩:=Rm k2 hy.1 hy.2 hf;have lo:=abX (m:=jM a b c d) (by unfold jM;omega) a1 a2 b1 b2
 have hi:=acV (m:=jR a b c d) (by unfold jR;omega) a1 a2 b1 b2
 have o1:=WS (n:=c) (by omega)
 have o2:=WS (n:=d) (by omega)
 have y1:-1<=y'/\y'<=1:=by constructor<;>grind
 have w1:=Rat.mul_nonneg (show 0<=1-x by grind) (show 0<=f-(y-y') by grind)
 have w2:=Rat.mul_nonneg (show 0<=1-x by grind) (show 0<=f+(y-y') by grind)
 have w3:=Rat.mul_nonneg (show 0<=1+x by grind) (show 0<=f-(y-y') by grind)
 have w4:=Rat.mul_nonneg (show 0<=1+x by grind) (show 0<=f+(y-y') by grind)
 have v1:=Rat.mul_nonneg (show 0<=1-y' by grind) (show 0<=e-(x-x') by grind)
 have v2:=Rat.mul_nonneg (show 0<=1-y' by grind) (show 0<=e+(x-x') by grind)
 have v3:=Rat.mul_nonneg (show 0<=1+y' by grind) (show 0<=e-(x-x') by grind)
 have v4:=Rat.mul_nonneg (show 0<=1+y' by grind) (show 0<=e+(x-x') by grind)
 constructor<;>grind
theorem aaS {p q:IV} (hp:U p) (hq:U q) {x y e f:Rat} (hx:InE p.1 p.2 x e) (hy:InE q.1 q.2 y f):InE (uA p q).1 (uA p q).2 (x+y) (e+f):=by
 rw [(U_A hp hq).1];unfold InE at *
 simp only [Rat.intCast_add] at *
 constructor<;>grind
theorem Bt {x y:Rat} (h:x*x+y*y=1):-1<=x/\x<=1:=by
 have yy:0<=y*y:=by
  rcases Rat.le_total (a:=0) (b:=y) with q|q
  . exact Rat.mul_nonneg q q
  . have:=Rat.mul_nonneg (show 0<=-y by grind) (show 0<=-y by grind)
    grind
 constructor
 . refine Rat.not_lt.1 fun hh=>?_
   have:=Rat.mul_pos (show 0 < -1-x by grind) (show 0<1-x by grind)
   grind
 . refine Rat.not_lt.1 fun hh=>?_
   have:=Rat.mul_pos (show 0<x-1 by grind) (show 0<x+1 by grind)
   grind
theorem Fb (x:Rat):0<=x*x:=by
 rcases Rat.le_total (a:=0) (b:=x) with q|q
 . exact Rat.mul_nonneg q q
 . have:=Rat.mul_nonneg (show 0<=-x by grind) (show 0<=-x by grind)
   grind
theorem TH {a b c d f g:Rat} (h1:a*a+b*b=1) (h2:c*c+d*d=1) (h3:f*f+g*g=1):-1<=a*c+b*d*g/\a*c+b*d*g<=1:=by
 have s1:=Fb (a-c);have s2:=Fb (b-d*g);have s3:=Fb (a+c);have s4:=Fb (b+d*g);have s5:0<=d*d*(f*f):=by have:=Fb (d*f);grind
 have e5:d*d*(f*f)=d*d-d*d*(g*g):=by
  have:f*f=1-g*g:=by grind
  rw [this];grind
 constructor<;>grind
