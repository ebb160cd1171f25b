/- Exact points of the unit circle near all angles: the enclosures of sine and cosine hold them. -/
import Derived.Test.YtmldbeipmappnaaZSides
import Derived.Test.YtmldbeipmappnaaZSp
set_option linter.unusedVariables false
set_option linter.unusedSimpArgs false
namespace Go.Proofs.Ytmldbeipmappnaa
open Alm
def ee:Rat:=1/1606938044258990275541962092341162602522202993782792835301376
theorem bB:0<ee:=by unfold ee;decide +kernel
theorem mJ:4*bM<=1/4*ee:=by unfold bM aT ee;decide +kernel
theorem NV:((ev sP 1800000*2-L0).natAbs:Int)*2^201<=L0*2:=by decide +kernel
theorem Qe (n:Nat) (hn:n=1800000):-ee<=zs n-1/2/\zs n-1/2<=ee:=by
 have h:=(near n (by omega)).1
 have d:=mJ;have dp:0<bM:=by unfold bM aT;decide +kernel
 have p:-(1/2*ee)<=ps n-1/2/\ps n-1/2<=1/2*ee:=by
  have m:=iW n;have q:=NV;have l:=nK;rw [<-show ((n:Nat):Int)=1800000 by omega] at q
  generalize ev sP (n:Int)=E at *
  have q1:((E*2-L0)*2^201<=L0*2)/\(-(L0*2)<=(E*2-L0)*2^201):=by omega
  have r1:(((E*2-L0)*2^201:Int):Rat)<=((L0*2:Int):Rat):=Rat.intCast_le_intCast.2 q1.1;have r2:((-(L0*2):Int):Rat)<=(((E*2-L0)*2^201:Int):Rat):=Rat.intCast_le_intCast.2 q1.2;clear q q1 h d hn dp;generalize L0=L at *
  simp only [Rat.intCast_mul,Rat.intCast_sub,Rat.intCast_neg] at r1 r2;generalize (L:Rat)=l0 at *
  generalize ps n=x at *
  have hx:(E:Rat)=x*l0:=m.symm;rw [hx] at r1 r2;have k:(((2^201:Int)):Rat)=3213876088517980551083924184682325205044405987565585670602752:=by decide +kernel
  have k2:((2:Int):Rat)=2:=by decide +kernel
  rw [k,k2] at r1 r2;have e1:ee=1/1606938044258990275541962092341162602522202993782792835301376:=rfl;rw [e1];refine ⟨?_,?_⟩
  . refine Rat.not_lt.1 fun hh=>?_
    have:0<(1/2-1/2*(1/1606938044258990275541962092341162602522202993782792835301376)-x)*l0:=Rat.mul_pos (by grind) l
    grind
  . refine Rat.not_lt.1 fun hh=>?_
    have:0<(x-1/2-1/2*(1/1606938044258990275541962092341162602522202993782792835301376))*l0:=Rat.mul_pos (by grind) l
    grind
 have e:=bB;grind
theorem CK (n:Nat) (h:n<=5400000):-ee<=tS n-sS n/\tS n-sS n<=ee:=by
 have e:=bB;unfold tS sS
 by_cases h1:n=1800000
 . rw [if_pos h1,if_pos (by omega)]
   exact Qe n h1
 . rw [if_neg h1]
   by_cases h2:n<=2700000
   . rw [if_pos h2,if_pos (by omega)];grind
   . rw [if_neg h2,if_neg (by omega)];grind
theorem P6 (n:Nat):tS n*tS n+tC n*tC n=1:=by
 unfold tS tC;split
 . have:=mO n;grind
 . have:=mO (5400000-n);grind
theorem Ow (n:Nat) (h:n<=5400000):-ee<=tC n-tS (5400000-n)/\tC n-tS (5400000-n)<=ee:=by
 have e:=bB;unfold tS tC
 by_cases h1:n=2700000
 . rw [if_pos (show n<=2700000 by omega),if_pos (show 5400000-n<=2700000 by omega)]
   have e1:5400000-n=2700000:=by omega
   have m:=ig;have d:=mJ;rw [e1,h1];generalize zs 2700000=x at *
   generalize zc 2700000=y at *
   clear h h1 e1;grind
 . by_cases h2:n<=2700000
   . rw [if_pos h2,if_neg (by omega),show 5400000-(5400000-n)=n by omega];grind
   . rw [if_neg h2,if_pos (by omega)];grind
def sg (n:Int):Rat:=if aR n then -tS (aD n).toNat else tS (aD n).toNat
def cg (n:Int):Rat:=if aR (n+5400000) then -tC (aD n).toNat else tC (aD n).toNat
theorem bX (n:Int):sg n*sg n+cg n*cg n=1:=by
 have t:=P6 (aD n).toNat;unfold sg cg;split<;>split<;>grind
theorem dP (n:Int):aD (n+5400000)=5400000-aD n:=by
 unfold aD ak;simp only []
 repeat' split
 all_goals omega
theorem Kz (n:Int) (x:Rat) (e:Rat) (h1:-e<=x-sS (aD n).toNat) (h2:x-sS (aD n).toNat<=e) :
 (bLo n:Rat)*u30-e<=(if aR n then -x else x)/\(if aR n then -x else x)<=(bHi n:Rat)*u30+e:=by
 have b:=fB n;have s:=pq (aD n).toNat (by omega)
 rw [Int.toNat_of_nonneg b.1] at s;unfold bLo bHi
 by_cases q:aR n=true
 . rw [if_pos q,if_pos q,if_pos q];generalize ed (aD n)+(if fO (aD n) then 0 else 1)=H at *
   generalize ed (aD n)=L at *
   rw [Rat.intCast_neg,Rat.intCast_neg]
   constructor<;>grind
 . rw [if_neg q,if_neg q,if_neg q];generalize ed (aD n)+(if fO (aD n) then 0 else 1)=H at *
   generalize ed (aD n)=L at *
   constructor<;>grind
theorem tY (n:Int):(bLo n:Rat)*u30-2*ee<=sg n/\sg n<=(bHi n:Rat)*u30+2*ee:=by
 have b:=fB n;have t:=CK (aD n).toNat (by omega)
 have e:=bB;exact Kz n _ (2*ee) (by grind) (by grind)
theorem T9 (n:Int):(bLo (n+5400000):Rat)*u30-2*ee<=cg n/\cg n<=(bHi (n+5400000):Rat)*u30+2*ee:=by
 have b:=fB n;have t:=Ow (aD n).toNat (by omega)
 have t2:=CK (5400000-(aD n).toNat) (by omega)
 have e:=dP n;have e2:(aD (n+5400000)).toNat=5400000-(aD n).toNat:=by rw [e];omega
 have p:=bB;exact Kz (n+5400000) _ (2*ee) (by rw [e2];grind) (by rw [e2];grind)
def InE (L H:Int) (x e:Rat):Prop:=(L:Rat)*u30-e<=x/\x<=(H:Rat)*u30+e
theorem EX (lo hi n:Int) (h:n=lo∨n=hi):InE (dJ lo hi) (dN lo hi) (sg n) (2*ee):=by
 have s:=tY n;have u:0<u30:=by rw [dB];decide +kernel
 have a:dJ lo hi<=bLo n/\bHi n<=dN lo hi:=by
  have b:=jY n;unfold dJ dN;rcases h with rfl|rfl<;>(constructor<;>split<;>omega)
 have c1:(dJ lo hi:Rat)<=(bLo n:Rat):=Rat.intCast_le_intCast.2 a.1;have c2:(bHi n:Rat)<=(dN lo hi:Rat):=Rat.intCast_le_intCast.2 a.2;have m1:=Rat.mul_le_mul_of_nonneg_right c1 (Rat.le_of_lt u);have m2:=Rat.mul_le_mul_of_nonneg_right c2 (Rat.le_of_lt u);unfold InE
 constructor<;>grind
theorem kX (lo hi n:Int) (h:n=lo∨n=hi):InE (dJ (lo+5400000) (hi+5400000)) (dN (lo+5400000) (hi+5400000)) (cg n) (2*ee):=by
 have s:=T9 n;have u:0<u30:=by rw [dB];decide +kernel
 have a:dJ (lo+5400000) (hi+5400000)<=bLo (n+5400000)/\bHi (n+5400000)<=dN (lo+5400000) (hi+5400000):=by
  have b:=jY (n+5400000);unfold dJ dN;rcases h with rfl|rfl<;>(constructor<;>split<;>omega)
 have c1:(dJ (lo+5400000) (hi+5400000):Rat)<=(bLo (n+5400000):Rat):=Rat.intCast_le_intCast.2 a.1;have c2:(bHi (n+5400000):Rat)<=(dN (lo+5400000) (hi+5400000):Rat):=Rat.intCast_le_intCast.2 a.2;have m1:=Rat.mul_le_mul_of_nonneg_right c1 (Rat.le_of_lt u);have m2:=Rat.mul_le_mul_of_nonneg_right c2 (Rat.le_of_lt u);unfold InE
 constructor<;>grind
end Go.Proofs.Ytmldbeipmappnaa
namespace Alm
theorem EE {m l1 h1 l2 h2 x y:Rat} (a:m<=l1*l2) (b:m<=l1*h2) (c:m<=h1*l2) (d:m<=h1*h2) (x1:l1<=x) (x2:x<=h1) (y1:l2<=y) (y2:y<=h2):m<=x*y:=by
 have key:∀ t:Rat,m<=t*l2->m<=t*h2->m<=t*y:=by
  intro t p q;rcases Rat.le_total (a:=0) (b:=t) with h|h
  . have:=Rat.mul_nonneg h (show 0<=y-l2 by grind)
    grind
  . have:=Rat.mul_nonneg (show 0<=-t by grind) (show 0<=h2-y by grind)
    grind
 have k1:=key l1 a b;have k2:=key h1 c d;rcases Rat.le_total (a:=0) (b:=y) with h|h
 . have:=Rat.mul_nonneg h (show 0<=x-l1 by grind)
   grind
 . have:=Rat.mul_nonneg (show 0<=-y by grind) (show 0<=h1-x by grind)
   grind
theorem L6 {m l1 h1 l2 h2 x y:Rat} (a:l1*l2<=m) (b:l1*h2<=m) (c:h1*l2<=m) (d:h1*h2<=m) (x1:l1<=x) (x2:x<=h1) (y1:l2<=y) (y2:y<=h2):x*y<=m:=by
 have:=EE (m:=-m) (l1:=-h1) (h1:=-l1) (l2:=l2) (h2:=h2) (x:=-x) (y:=y) (by grind) (by grind) (by grind) (by grind) (by grind) (by grind) y1 y2
 grind
theorem pQ {l h x e:Rat} (lh:l<=h) (a:l-e<=x) (b:x<=h+e) (he:0<=e):∃ y,l<=y/\y<=h/\-e<=x-y/\x-y<=e:=by
 by_cases p:x<l
 . exact ⟨l,by grind,lh,by grind,by grind⟩
 . by_cases q:h<x
   . exact ⟨h,lh,by grind,by grind,by grind⟩
   . exact ⟨x,by grind,by grind,by grind,by grind⟩
theorem jm {x y:Int} (hx:-1073741824<=x/\x<=1073741824) (hy:-1073741824<=y/\y<=1073741824):-1152921504606846976<=x*y/\x*y<=1152921504606846976:=by
 have a:=Int.mul_nonneg (show 0<=1073741824-x by omega) (show 0<=1073741824-y by omega)
 have b:=Int.mul_nonneg (show 0<=1073741824+x by omega) (show 0<=1073741824+y by omega)
 have c:=Int.mul_nonneg (show 0<=1073741824-x by omega) (show 0<=1073741824+y by omega)
 have d:=Int.mul_nonneg (show 0<=1073741824+x by omega) (show 0<=1073741824-y by omega)
 constructor<;>grind
end Alm
namespace Go.Proofs.Ytmldbeipmappnaa
open Alm Sx
abbrev IV:=Int × Int
def uM (p q:IV):IV:=((aB 0 [p.1,p.2,q.1,q.2]).getD 0 0,(aB 0 [p.1,p.2,q.1,q.2]).getD 1 0)
def uA (p q:IV):IV:=((aB 1 [p.1,p.2,q.1,q.2]).getD 0 0,(aB 1 [p.1,p.2,q.1,q.2]).getD 1 0)
def uD (p q:IV):IV:=((aB 2 [p.1,p.2,q.1,q.2]).getD 0 0,(aB 2 [p.1,p.2,q.1,q.2]).getD 1 0)
def uN (p:IV):IV:=(-p.2,-p.1)
def uS (a b:Int):IV:=(dJ a b,dN a b)
def uC (a b:Int):IV:=(dJ (a+5400000) (b+5400000),dN (a+5400000) (b+5400000))
def U (p:IV):Prop:=-1073741824<=p.1/\p.1<=p.2/\p.2<=1073741824
theorem U_S (a b:Int):U (uS a b):=za a b
theorem U_C (a b:Int):U (uC a b):=za _ _
theorem U_N {p:IV} (h:U p):U (uN p):=by unfold U uN at *;simp only;omega
theorem U_M {p q:IV} (hp:U p) (hq:U q):uM p q=(fI p.1 p.2 q.1 q.2,gH p.1 p.2 q.1 q.2)/\(aB 0 [p.1,p.2,q.1,q.2]).getD 2 0=0/\U (uM p q):=by
 obtain ⟨a,b⟩:=p;obtain ⟨c,d⟩:=q;unfold U at hp hq;simp only at hp hq;have m1:=jm (x:=a) (y:=c) (by omega) (by omega)
 have m2:=jm (x:=a) (y:=d) (by omega) (by omega)
 have m3:=jm (x:=b) (y:=c) (by omega) (by omega)
 have m4:=jm (x:=b) (y:=d) (by omega) (by omega)
 have lo:-1073741824<=fI a b c d:=by unfold fI mn4;generalize a*c=w1 at *;generalize a*d=w2 at *;generalize b*c=w3 at *;generalize b*d=w4 at *;omega
 have hi:gH a b c d<=1073741824:=by unfold gH mx4;generalize a*c=w1 at *;generalize a*d=w2 at *;generalize b*c=w3 at *;generalize b*d=w4 at *;omega
 have le:=Mx a b c d;have ok:-2147483648<=fI a b c d/\fI a b c d<=gH a b c d/\gH a b c d<=2147483648:=by omega
 have e:uM (a,b) (c,d)=(fI a b c d,gH a b c d):=by
  show (nX _ _,ou _ _)=_;unfold nX ou;rw [if_pos ok,if_pos ok]
 refine ⟨e,?_,?_⟩
 . show lY _ _=0;unfold lY;rw [if_pos ok]
 . rw [e];exact ⟨lo,le,hi⟩
theorem U_A {p q:IV} (hp:U p) (hq:U q):uA p q=(p.1+q.1,p.2+q.2)/\(aB 1 [p.1,p.2,q.1,q.2]).getD 2 0=0/\fxV (uA p q).1 (uA p q).2=true:=by
 unfold U at hp hq;have ok:-2147483648<=p.1+q.1/\p.1+q.1<=p.2+q.2/\p.2+q.2<=2147483648:=by omega
 have e:uA p q=(p.1+q.1,p.2+q.2):=by
  show (nX _ _,ou _ _)=_;unfold nX ou;rw [if_pos ok,if_pos ok]
 refine ⟨e,?_,?_⟩
 . show lY _ _=0;unfold lY;rw [if_pos ok]
 . rw [e];exact (ek _ _).2 ok
theorem U_D {p q:IV} (hp:U p) (hq:U q):uD p q=(p.1-q.2,p.2-q.1)/\(aB 2 [p.1,p.2,q.1,q.2]).getD 2 0=0/\fxV (uD p q).1 (uD p q).2=true:=by
 unfold U at hp hq;have ok:-2147483648<=p.1-q.2/\p.1-q.2<=p.2-q.1/\p.2-q.1<=2147483648:=by omega
 have e:uD p q=(p.1-q.2,p.2-q.1):=by
  show (nX _ _,ou _ _)=_;unfold nX ou;rw [if_pos ok,if_pos ok]
 refine ⟨e,?_,?_⟩
 . show lY _ _=0;unfold lY;rw [if_pos ok]
 . rw [e];exact (ek _ _).2 ok
theorem bD {p:IV} (h:U p):fxV p.1 p.2=true:=(ek _ _).2 (by unfold U at h;omega)
theorem dQ:0<u30:=by rw [dB];decide +kernel
theorem eB:(1073741824:Rat)*u30=1:=by rw [dB];decide +kernel
theorem Vz {a b c d m:Int} {x y:Rat} (hm:m*1073741824<=mn4 a b c d) (x1:(a:Rat)*u30<=x) (x2:x<=(b:Rat)*u30) (y1:(c:Rat)*u30<=y) (y2:y<=(d:Rat)*u30):(m:Rat)*u30<=x*y:=by
 have up:=dQ;have uu:0<=u30*u30:=Rat.mul_nonneg (Rat.le_of_lt up) (Rat.le_of_lt up)
 have key:∀ s t:Int,m*1073741824<=s*t->(m:Rat)*u30<=((s:Rat)*u30)*((t:Rat)*u30):=by
  intro s t h;have h1:((m*1073741824:Int):Rat)<=((s*t:Int):Rat):=Rat.intCast_le_intCast.2 h;rw [Rat.intCast_mul,Rat.intCast_mul] at h1;have h2:=Rat.mul_le_mul_of_nonneg_right h1 uu;have h3:((1073741824:Int):Rat)*u30=1:=eB;have e1:(m:Rat)*((1073741824:Int):Rat)*(u30*u30)=(m:Rat)*u30*(((1073741824:Int):Rat)*u30):=by grind
  rw [e1,h3] at h2;grind
 have q:mn4 a b c d<=a*c/\mn4 a b c d<=a*d/\mn4 a b c d<=b*c/\mn4 a b c d<=b*d:=by unfold mn4;omega
 exact EE (key a c (by omega)) (key a d (by omega)) (key b c (by omega)) (key b d (by omega)) x1 x2 y1 y2
theorem Us {a b c d m:Int} {x y:Rat} (hm:mx4 a b c d<=m*1073741824) (x1:(a:Rat)*u30<=x) (x2:x<=(b:Rat)*u30) (y1:(c:Rat)*u30<=y) (y2:y<=(d:Rat)*u30):x*y<=(m:Rat)*u30:=by
 have up:=dQ;have uu:0<=u30*u30:=Rat.mul_nonneg (Rat.le_of_lt up) (Rat.le_of_lt up)
 have key:∀ s t:Int,s*t<=m*1073741824->((s:Rat)*u30)*((t:Rat)*u30)<=(m:Rat)*u30:=by
  intro s t h;have h1:((s*t:Int):Rat)<=((m*1073741824:Int):Rat):=Rat.intCast_le_intCast.2 h;rw [Rat.intCast_mul,Rat.intCast_mul] at h1;have h2:=Rat.mul_le_mul_of_nonneg_right h1 uu;have h3:((1073741824:Int):Rat)*u30=1:=eB;have e1:(m:Rat)*((1073741824:Int):Rat)*(u30*u30)=(m:Rat)*u30*(((1073741824:Int):Rat)*u30):=by grind
  rw [e1,h3] at h2;grind
 have q:a*c<=mx4 a b c d/\a*d<=mx4 a b c d/\b*c<=mx4 a b c d/\b*d<=mx4 a b c d:=by unfold mx4;omega
 exact L6 (key a c (by omega)) (key a d (by omega)) (key b c (by omega)) (key b d (by omega)) x1 x2 y1 y2
theorem wE {n:Int} (h:-1073741824<=n/\n<=1073741824):-1<=(n:Rat)*u30/\(n:Rat)*u30<=1:=by
 have up:=Rat.le_of_lt dQ;have h1:((-1073741824:Int):Rat)<=(n:Rat):=Rat.intCast_le_intCast.2 h.1;have h2:(n:Rat)<=((1073741824:Int):Rat):=Rat.intCast_le_intCast.2 h.2;have m1:=Rat.mul_le_mul_of_nonneg_right h1 up;have m2:=Rat.mul_le_mul_of_nonneg_right h2 up;have e1:((1073741824:Int):Rat)*u30=1:=eB;have e2:((-1073741824:Int):Rat)*u30=-1:=by rw [dB];decide +kernel
 rw [e1] at m2;rw [e2] at m1;exact ⟨m1,m2⟩
theorem jC {p q:IV} (hp:U p) (hq:U q) {x y e f:Rat} (hx:InE p.1 p.2 x e) (hy:InE q.1 q.2 y f) (he:0<=e) (hf:0<=f) (x1:-1<=x/\x<=1):InE (uM p q).1 (uM p q).2 (x*y) (e+f):=by
 rw [(U_M hp hq).1];obtain ⟨a,b⟩:=p;obtain ⟨c,d⟩:=q;unfold U at hp hq;unfold InE at *
 simp only at hp hq hx hy ⊢
 have up:=Rat.le_of_lt dQ;have k1:=Rat.mul_le_mul_of_nonneg_right (Rat.intCast_le_intCast.2 hp.2.1) up;have k2:=Rat.mul_le_mul_of_nonneg_right (Rat.intCast_le_intCast.2 hq.2.1) up;obtain ⟨x',a1,a2,a3,a4⟩:=pQ k1 hx.1 hx.2 he;obtain ⟨y',b1,b2,b3,b4⟩:=pQ k2 hy.1 hy.2 hf;have lo:=Vz (m:=fI a b c d) (by unfold fI;omega) a1 a2 b1 b2
 have hi:=Us (m:=gH a b c d) (by unfold gH;omega) a1 a2 b1 b2
 have o1:=wE (n:=c) (by omega)
 have o2:=wE (n:=d) (by omega)
 have y1:-1<=y'/\y'<=1:=by constructor<;>grind
 have w1:=Rat.mul_nonneg (show 0<=1-x by grind) (show 0<=f-(y-y') by grind)
 have w2:=Rat.mul_nonneg (show 0<=1-x by grind) (show 0<=f+(y-y') by grind)
 have w3:=Rat.mul_nonneg (show 0<=1+x by grind) (show 0<=f-(y-y') by grind)
 have w4:=Rat.mul_nonneg (show 0<=1+x by grind) (show 0<=f+(y-y') by grind)
 have v1:=Rat.mul_nonneg (show 0<=1-y' by grind) (show 0<=e-(x-x') by grind)
 have v2:=Rat.mul_nonneg (show 0<=1-y' by grind) (show 0<=e+(x-x') by grind)
 have v3:=Rat.mul_nonneg (show 0<=1+y' by grind) (show 0<=e-(x-x') by grind)
 have v4:=Rat.mul_nonneg (show 0<=1+y' by grind) (show 0<=e+(x-x') by grind)
 constructor<;>grind
theorem Jt {p q:IV} (hp:U p) (hq:U q) {x y e f:Rat} (hx:InE p.1 p.2 x e) (hy:InE q.1 q.2 y f):InE (uA p q).1 (uA p q).2 (x+y) (e+f):=by
 rw [(U_A hp hq).1];unfold InE at *
 simp only [Rat.intCast_add] at *
 constructor<;>grind
theorem pU {x y:Rat} (h:x*x+y*y=1):-1<=x/\x<=1:=by
 have yy:0<=y*y:=by
  rcases Rat.le_total (a:=0) (b:=y) with q|q
  . exact Rat.mul_nonneg q q
  . have:=Rat.mul_nonneg (show 0<=-y by grind) (show 0<=-y by grind)
    grind
 constructor
 . refine Rat.not_lt.1 fun hh=>?_
   have:=Rat.mul_pos (show 0 < -1-x by grind) (show 0<1-x by grind)
   grind
 . refine Rat.not_lt.1 fun hh=>?_
   have:=Rat.mul_pos (show 0<x-1 by grind) (show 0<x+1 by grind)
   grind
theorem dh (x:Rat):0<=x*x:=by
 rcases Rat.le_total (a:=0) (b:=x) with q|q
 . exact Rat.mul_nonneg q q
 . have:=Rat.mul_nonneg (show 0<=-x by grind) (show 0<=-x by grind)
   grind
theorem DK {a b c d f g:Rat} (h1:a*a+b*b=1) (h2:c*c+d*d=1) (h3:f*f+g*g=1):-1<=a*c+b*d*g/\a*c+b*d*g<=1:=by
 have s1:=dh (a-c);have s2:=dh (b-d*g);have s3:=dh (a+c);have s4:=dh (b+d*g);have s5:0<=d*d*(f*f):=by have:=dh (d*f);grind
 have e5:d*d*(f*f)=d*d-d*d*(g*g):=by
  have:f*f=1-g*g:=by grind
  rw [this];grind
 constructor<;>grind
