/- Products and sums of intervals of sines and cosines: no error, and they hold the exact points. -/
import Derived.Test.YtdbaccfgkacffaaGreatZUnit
import Derived.Test.YtdbaccfgkacffaaGreatZSp
set_option linter.unusedVariables false
set_option linter.unusedSimpArgs false
namespace Alm
theorem Jk {m l1 h1 l2 h2 x y:Rat} (a:m<=l1*l2) (b:m<=l1*h2) (c:m<=h1*l2) (d:m<=h1*h2) (x1:l1<=x) (x2:x<=h1) (y1:l2<=y) (y2:y<=h2):m<=x*y:=by
 have key:∀ t:Rat,m<=t*l2->m<=t*h2->m<=t*y:=by
  intro t p q;rcases Rat.le_total (a:=0) (b:=t) with h|h
  . have:=Rat.mul_nonneg h (show 0<=y-l2 by grind)
    grind
  . have:=Rat.mul_nonneg (show 0<=-t by grind) (show 0<=h2-y by grind)
    grind
 have k1:=key l1 a b;have k2:=key h1 c d;rcases Rat.le_total (a:=0) (b:=y) with h|h
 . have:=Rat.mul_nonneg h (show 0<=x-l1 by grind)
   grind
 . have:=Rat.mul_nonneg (show 0<=-y by grind) (show 0<=h1-x by grind)
   grind
theorem Ux {m l1 h1 l2 h2 x y:Rat} (a:l1*l2<=m) (b:l1*h2<=m) (c:h1*l2<=m) (d:h1*h2<=m) (x1:l1<=x) (x2:x<=h1) (y1:l2<=y) (y2:y<=h2):x*y<=m:=by
 have:=Jk (m:=-m) (l1:=-h1) (h1:=-l1) (l2:=l2) (h2:=h2) (x:=-x) (y:=y) (by grind) (by grind) (by grind) (by grind) (by grind) (by grind) y1 y2
 grind
theorem Nn {l h x e:Rat} (lh:l<=h) (a:l-e<=x) (b:x<=h+e) (he:0<=e):∃ y,l<=y/\y<=h/\-e<=x-y/\x-y<=e:=by
 by_cases p:x<l
 . exact ⟨l,by grind,lh,by grind,by grind⟩
 . by_cases q:h<x
   . exact ⟨h,lh,by grind,by grind,by grind⟩
   . exact ⟨x,by grind,by grind,by grind,by grind⟩
theorem lw {x y:Int} (hx:-1073741824<=x/\x<=1073741824) (hy:-1073741824<=y/\y<=1073741824):-1152921504606846976<=x*y/\x*y<=1152921504606846976:=by
 have a:=Int.mul_nonneg (show 0<=1073741824-x by omega) (show 0<=1073741824-y by omega)
 have b:=Int.mul_nonneg (show 0<=1073741824+x by omega) (show 0<=1073741824+y by omega)
 have c:=Int.mul_nonneg (show 0<=1073741824-x by omega) (show 0<=1073741824+y by omega)
 have d:=Int.mul_nonneg (show 0<=1073741824+x by omega) (show 0<=1073741824-y by omega)
 constructor<;>grind
end Alm
namespace Go.Proofs.YtdbaccfgkacffaaGreat
open Alm Sx
abbrev IV:=Int × Int
def uM (p q:IV):IV:=((gq 0 [p.1,p.2,q.1,q.2]).getD 0 0,(gq 0 [p.1,p.2,q.1,q.2]).getD 1 0)
def uA (p q:IV):IV:=((gq 1 [p.1,p.2,q.1,q.2]).getD 0 0,(gq 1 [p.1,p.2,q.1,q.2]).getD 1 0)
def uD (p q:IV):IV:=((gq 2 [p.1,p.2,q.1,q.2]).getD 0 0,(gq 2 [p.1,p.2,q.1,q.2]).getD 1 0)
def uN (p:IV):IV:=(-p.2,-p.1)
def uS (a b:Int):IV:=(aX a b,bu a b)
def uC (a b:Int):IV:=(aX (a+5400000) (b+5400000),bu (a+5400000) (b+5400000))
def U (p:IV):Prop:=-1073741824<=p.1/\p.1<=p.2/\p.2<=1073741824
theorem U_S (a b:Int):U (uS a b):=PH a b
theorem U_C (a b:Int):U (uC a b):=PH _ _
theorem U_N {p:IV} (h:U p):U (uN p):=by unfold U uN at *;simp only;omega
theorem U_M {p q:IV} (hp:U p) (hq:U q):uM p q=(gY p.1 p.2 q.1 q.2,ic p.1 p.2 q.1 q.2)/\(gq 0 [p.1,p.2,q.1,q.2]).getD 2 0=0/\U (uM p q):=by
 obtain ⟨a,b⟩:=p;obtain ⟨c,d⟩:=q;unfold U at hp hq;simp only at hp hq;have m1:=lw (x:=a) (y:=c) (by omega) (by omega)
 have m2:=lw (x:=a) (y:=d) (by omega) (by omega)
 have m3:=lw (x:=b) (y:=c) (by omega) (by omega)
 have m4:=lw (x:=b) (y:=d) (by omega) (by omega)
 have lo:-1073741824<=gY a b c d:=by unfold gY mn4;generalize a*c=w1 at *;generalize a*d=w2 at *;generalize b*c=w3 at *;generalize b*d=w4 at *;omega
 have hi:ic a b c d<=1073741824:=by unfold ic mx4;generalize a*c=w1 at *;generalize a*d=w2 at *;generalize b*c=w3 at *;generalize b*d=w4 at *;omega
 have le:=JN a b c d;have ok:-2147483648<=gY a b c d/\gY a b c d<=ic a b c d/\ic a b c d<=2147483648:=by omega
 have e:uM (a,b) (c,d)=(gY a b c d,ic a b c d):=by
  show (oP _ _,og _ _)=_;unfold oP og;rw [if_pos ok,if_pos ok]
 refine ⟨e,?_,?_⟩
 . show nT _ _=0;unfold nT;rw [if_pos ok]
 . rw [e];exact ⟨lo,le,hi⟩
theorem U_A {p q:IV} (hp:U p) (hq:U q):uA p q=(p.1+q.1,p.2+q.2)/\(gq 1 [p.1,p.2,q.1,q.2]).getD 2 0=0/\fxV (uA p q).1 (uA p q).2=true:=by
 unfold U at hp hq;have ok:-2147483648<=p.1+q.1/\p.1+q.1<=p.2+q.2/\p.2+q.2<=2147483648:=by omega
 have e:uA p q=(p.1+q.1,p.2+q.2):=by
  show (oP _ _,og _ _)=_;unfold oP og;rw [if_pos ok,if_pos ok]
 refine ⟨e,?_,?_⟩
 . show nT _ _=0;unfold nT;rw [if_pos ok]
 . rw [e];exact (bR _ _).2 ok
theorem U_D {p q:IV} (hp:U p) (hq:U q):uD p q=(p.1-q.2,p.2-q.1)/\(gq 2 [p.1,p.2,q.1,q.2]).getD 2 0=0/\fxV (uD p q).1 (uD p q).2=true:=by
 unfold U at hp hq;have ok:-2147483648<=p.1-q.2/\p.1-q.2<=p.2-q.1/\p.2-q.1<=2147483648:=by omega
 have e:uD p q=(p.1-q.2,p.2-q.1):=by
  show (oP _ _,og _ _)=_;unfold oP og;rw [if_pos ok,if_pos ok]
 refine ⟨e,?_,?_⟩
 . show nT _ _=0;unfold nT;rw [if_pos ok]
 . rw [e];exact (bR _ _).2 ok
theorem dX {p:IV} (h:U p):fxV p.1 p.2=true:=(bR _ _).2 (by unfold U at h;omega)
theorem qF:0<u30:=by rw [fo];decide +kernel
theorem uI:(1073741824:Rat)*u30=1:=by rw [fo];decide +kernel
theorem abY {a b c d m:Int} {x y:Rat} (hm:m*1073741824<=mn4 a b c d) (x1:(a:Rat)*u30<=x) (x2:x<=(b:Rat)*u30) (y1:(c:Rat)*u30<=y) (y2:y<=(d:Rat)*u30):(m:Rat)*u30<=x*y:=by
 have up:=qF;have uu:0<=u30*u30:=Rat.mul_nonneg (Rat.le_of_lt up) (Rat.le_of_lt up)
 have key:∀ s t:Int,m*1073741824<=s*t->(m:Rat)*u30<=((s:Rat)*u30)*((t:Rat)*u30):=by
  intro s t h;have h1:((m*1073741824:Int):Rat)<=((s*t:Int):Rat):=Rat.intCast_le_intCast.2 h;rw [Rat.intCast_mul,Rat.intCast_mul] at h1;have h2:=Rat.mul_le_mul_of_nonneg_right h1 uu;have h3:((1073741824:Int):Rat)*u30=1:=uI;have e1:(m:Rat)*((1073741824:Int):Rat)*(u30*u30)=(m:Rat)*u30*(((1073741824:Int):Rat)*u30):=by grind
  rw [e1,h3] at h2;grind
 have q:mn4 a b c d<=a*c/\mn4 a b c d<=a*d/\mn4 a b c d<=b*c/\mn4 a b c d<=b*d:=by unfold mn4;omega
 exact Jk (key a c (by omega)) (key a d (by omega)) (key b c (by omega)) (key b d (by omega)) x1 x2 y1 y2
theorem aaA {a b c d m:Int} {x y:Rat} (hm:mx4 a b c d<=m*1073741824) (x1:(a:Rat)*u30<=x) (x2:x<=(b:Rat)*u30) (y1:(c:Rat)*u30<=y) (y2:y<=(d:Rat)*u30):x*y<=(m:Rat)*u30:=by
 have up:=qF;have uu:0<=u30*u30:=Rat.mul_nonneg (Rat.le_of_lt up) (Rat.le_of_lt up)
 have key:∀ s t:Int,s*t<=m*1073741824->((s:Rat)*u30)*((t:Rat)*u30)<=(m:Rat)*u30:=by
  intro s t h;have h1:((s*t:Int):Rat)<=((m*1073741824:Int):Rat):=Rat.intCast_le_intCast.2 h;rw [Rat.intCast_mul,Rat.intCast_mul] at h1;have h2:=Rat.mul_le_mul_of_nonneg_right h1 uu;have h3:((1073741824:Int):Rat)*u30=1:=uI;have e1:(m:Rat)*((1073741824:Int):Rat)*(u30*u30)=(m:Rat)*u30*(((1073741824:Int):Rat)*u30):=by grind
  rw [e1,h3] at h2;grind
 have q:a*c<=mx4 a b c d/\a*d<=mx4 a b c d/\b*c<=mx4 a b c d/\b*d<=mx4 a b c d:=by unfold mx4;omega
 exact Ux (key a c (by omega)) (key a d (by omega)) (key b c (by omega)) (key b d (by omega)) x1 x2 y1 y2
theorem Ww {n:Int} (h:-1073741824<=n/\n<=1073741824):-1<=(n:Rat)*u30/\(n:Rat)*u30<=1:=by
 have up:=Rat.le_of_lt qF;have h1:((-1073741824:Int):Rat)<=(n:Rat):=Rat.intCast_le_intCast.2 h.1;have h2:(n:Rat)<=((1073741824:Int):Rat):=Rat.intCast_le_intCast.2 h.2;have m1:=Rat.mul_le_mul_of_nonneg_right h1 up;have m2:=Rat.mul_le_mul_of_nonneg_right h2 up;have e1:((1073741824:Int):Rat)*u30=1:=uI;have e2:((-1073741824:Int):Rat)*u30=-1:=by rw [fo];decide +kernel
 rw [e1] at m2;rw [e2] at m1;exact ⟨m1,m2⟩
theorem Nf {p q:IV} (hp:U p) (hq:U q) {x y e f:Rat} (hx:InE p.1 p.2 x e) (hy:InE q.1 q.2 y f) (he:0<=e) (hf:0<=f) (x1:-1<=x/\x<=1):InE (uM p q).1 (uM p q).2 (x*y) (e+f):=by
 rw [(U_M hp hq).1];obtain ⟨a,b⟩:=p;obtain ⟨c,d⟩:=q;unfold U at hp hq;unfold InE at *
 simp only at hp hq hx hy ⊢
 have up:=Rat.le_of_lt qF;have k1:=Rat.mul_le_mul_of_nonneg_right (Rat.intCast_le_intCast.2 hp.2.1) up;have k2:=Rat.mul_le_mul_of_nonneg_right (Rat.intCast_le_intCast.2 hq.2.1) up;obtain ⟨x',a1,a2,a3,a4⟩:=Nn k1 hx.1 hx.2 he;obtain ⟨y',b1,b2,b3,b4⟩:=Nn k2 hy.1 hy.2 hf;have lo:=abY (m:=gY a b c d) (by unfold gY;omega) a1 a2 b1 b2
 have hi:=aaA (m:=ic a b c d) (by unfold ic;omega) a1 a2 b1 b2
 have o1:=Ww (n:=c) (by omega)
 have o2:=Ww (n:=d) (by omega)
 have y1:-1<=y'/\y'<=1:=by constructor<;>grind
 have w1:=Rat.mul_nonneg (show 0<=1-x by grind) (show 0<=f-(y-y') by grind)
 have w2:=Rat.mul_nonneg (show 0<=1-x by grind) (show 0<=f+(y-y') by grind)
 have w3:=Rat.mul_nonneg (show 0<=1+x by grind) (show 0<=f-(y-y') by grind)
 have w4:=Rat.mul_nonneg (show 0<=1+x by grind) (show 0<=f+(y-y') by grind)
 have v1:=Rat.mul_nonneg (show 0<=1-y' by grind) (show 0<=e-(x-x') by grind)
 have v2:=Rat.mul_nonneg (show 0<=1-y' by grind) (show 0<=e+(x-x') by grind)
 have v3:=Rat.mul_nonneg (show 0<=1+y' by grind) (show 0<=e-(x-x') by grind)
 have v4:=Rat.mul_nonneg (show 0<=1+y' by grind) (show 0<=e+(x-x') by grind)
 constructor<;>grind
theorem acW {p q:IV} (hp:U p) (hq:U q) {x y e f:Rat} (hx:InE p.1 p.2 x e) (hy:InE q.1 q.2 y f):InE (uA p q).1 (uA p q).2 (x+y) (e+f):=by
 rw [(U_A hp hq).1];unfold InE at *
 simp only [Rat.intCast_add] at *
 constructor<;>grind
theorem Ab {x y:Rat} (h:x*x+y*y=1):-1<=x/\x<=1:=by
 have yy:0<=y*y:=by
  rcases Rat.le_total (a:=0) (b:=y) with q|q
  . exact Rat.mul_nonneg q q
  . have:=Rat.mul_nonneg (show 0<=-y by grind) (show 0<=-y by grind)
    grind
 constructor
 . refine Rat.not_lt.1 fun hh=>?_
   have:=Rat.mul_pos (show 0 < -1-x by grind) (show 0<1-x by grind)
   grind
 . refine Rat.not_lt.1 fun hh=>?_
   have:=Rat.mul_pos (show 0<x-1 by grind) (show 0<x+1 by grind)
   grind
theorem DX (x:Rat):0<=x*x:=by
 rcases Rat.le_total (a:=0) (b:=x) with q|q
 . exact Rat.mul_nonneg q q
 . have:=Rat.mul_nonneg (show 0<=-x by grind) (show 0<=-x by grind)
   grind
theorem TZ {a b c d f g:Rat} (h1:a*a+b*b=1) (h2:c*c+d*d=1) (h3:f*f+g*g=1):-1<=a*c+b*d*g/\a*c+b*d*g<=1:=by
 have s1:=DX (a-c);have s2:=DX (b-d*g);have s3:=DX (a+c);have s4:=DX (b+d*g);have s5:0<=d*d*(f*f):=by have:=DX (d*f);grind
 have e5:d*d*(f*f)=d*d-d*d*(g*g):=by
  have:f*f=1-g*g:=by grind
  rw [this];grind
 constructor<;>grind
