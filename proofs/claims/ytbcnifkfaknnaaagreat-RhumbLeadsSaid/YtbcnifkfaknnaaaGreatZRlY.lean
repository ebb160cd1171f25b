/- Plain: a leg from a to b by course and distance leads to a place that contains b. -/
import Derived.Test.YtbcnifkfaknnaaaGreatZRlK
import Derived.Test.YtbcnifkfaknnaaaGreatZRlD
import Derived.Test.YtbcnifkfaknnaaaGreatZLawBk
set_option linter.unusedVariables false
set_option linter.unusedSimpArgs false
namespace Go.Proofs.YtbcnifkfaknnaaaGreat
open Alm Sx
theorem Wt (n:Int):bLo (n+10800000)=-(bHi n)/\bHi (n+10800000)=-(bLo n):=by
 have hw:aj n=n%21600000:=rfl;have hw2:aj (n+10800000)=(n+10800000)%21600000:=rfl;have z0:fq 0=0:=by unfold fq;simp
 have e0:gu 0=true:=by unfold gu;simp
 by_cases hz:n%21600000=0∨n%21600000=10800000
 . have f1:aI n=0:=by unfold aI;simp only [];split<;>split<;>omega
   have f2:aI (n+10800000)=0:=by unfold aI;simp only [];split<;>split<;>omega
   unfold bLo bHi;rw [f1,f2,z0,e0];simp
 . have f:aI (n+10800000)=aI n:=by unfold aI;simp only [];split<;>split<;>split<;>split<;>omega
   unfold bLo bHi;rw [f]
   by_cases h:10800000<n%21600000
   . have s1:bu n=true:=by unfold bu;simp;omega
     have s2:bu (n+10800000)=false:=by unfold bu;simp;omega
     rw [s1,s2];simp
   . have s1:bu n=false:=by unfold bu;simp;omega
     have s2:bu (n+10800000)=true:=by unfold bu;simp;omega
     rw [s1,s2];simp
theorem Mo (lo hi n:Int):bK (lo+10800000) (hi+10800000) (n+10800000)=bK lo hi n:=by
 unfold bK;have e1:n+10800000-(lo+10800000)=n-lo:=by omega
 have e2:hi+10800000-(lo+10800000)=hi-lo:=by omega
 rw [e1,e2]
theorem I4 (lo hi:Int):bK (lo+10800000) (hi+10800000) 5400000=bK lo hi 16200000:=by
 unfold bK;have e1:aj (5400000-(lo+10800000))=aj (16200000-lo):=by unfold aj;omega
 have e2:hi+10800000-(lo+10800000)=hi-lo:=by omega
 rw [e1,e2]
theorem Wx (lo hi:Int):dF (lo+10800000) (hi+10800000)=-(dH lo hi)/\dH (lo+10800000) (hi+10800000)=-(dF lo hi):=by
 have h1:=Wt lo;have h2:=Wt hi;have m1:bK (lo+10800000) (hi+10800000) 16200000=bK lo hi 5400000:=Mo lo hi 5400000;unfold dF dH;rw [m1,I4,h1.1,h1.2,h2.1,h2.2]
 constructor
 . split<;>omega
 . split<;>omega
theorem Mk (a b k:Int):dF (a+21600000*k) (b+21600000*k)=dF a b/\dH (a+21600000*k) (b+21600000*k)=dH a b:=by
 have w:∀ n:Int,aj (n+21600000*k)=aj n:=fun n=>by unfold aj;omega
 have w2:∀ n:Int,aj (n-(a+21600000*k))=aj (n-a):=fun n=>by unfold aj;omega
 have l:∀ n:Int,bLo (n+21600000*k)=bLo n/\bHi (n+21600000*k)=bHi n:=fun n=>by
  unfold bLo bHi bu aI;rw [w];exact ⟨rfl,rfl⟩
 have d:b+21600000*k-(a+21600000*k)=b-a:=by omega
 unfold dF dH bK;rw [w2,w2,d,(l a).1,(l a).2,(l b).1,(l b).2];exact ⟨rfl,rfl⟩
theorem LY (a b:Int) (h:21600000<=b-a):dF a b=-1073741824/\dH a b=1073741824:=by
 unfold dF dH bK aj;rw [if_pos (decide_eq_true (by omega)),if_pos (decide_eq_true (by omega))]
 exact ⟨rfl,rfl⟩
theorem Gs (l u n:Int) (hl:-10800000<=l) (lu:l<=u) (hu:u<=10800000) (hn:-10680000<=n/\n<=10680000) (w:Wd l u (max n (-n))) (d:Int) (d0:0<=d) (dh:d<=rtC (n*n+aV l u*aV l u)) :
 1073741824*(min n 0-59)<=dF (aT (64*l) (64*u) (64*n) (64*n)+5400000) (bi (64*l) (64*u) (64*n) (64*n)+5400000)*d:=by
 have ml:aV (-u) (-l)=aV l u:=by unfold aV;omega
 have k:=zk (-u) (-l) (-n) (by omega) (by omega) (by omega) (by omega) (by rw [show max (-n) (- -n)=max n (-n) by omega];exact (RH _ _ _).2 w) d d0 (by rw [Int.neg_mul_neg,ml];exact dh)
 have e:dH (aT (64*-u) (64*-l) (64*-n) (64*-n)+5400000) (bi (64*-u) (64*-l) (64*-n) (64*-n)+5400000)=-dF (aT (64*l) (64*u) (64*n) (64*n)+5400000) (bi (64*l) (64*u) (64*n) (64*n)+5400000):=by
  rw [show 64*-u=-(64*u) by omega,show 64*-l=-(64*l) by omega,show 64*-n=-(64*n) by omega]
  have r:=Le (yl:=64*l) (yh:=64*u) (xl:=64*n) (xh:=64*n) (by omega) (by omega) (by omega) (by omega)
  cases ho:dX (64*l) (64*u) (64*n) (64*n)
  . rw [ho,if_neg (by decide)] at r
    have q:=(Wx (aT (64*l) (64*u) (64*n) (64*n)+5400000) (bi (64*l) (64*u) (64*n) (64*n)+5400000)).2;rw [<-q];generalize aT (64*l) (64*u) (64*n) (64*n)=L at *
    generalize bi (64*l) (64*u) (64*n) (64*n)=H at *
    rw [r.2,r.1];have s:=(Mk (L+5400000+10800000) (H+5400000+10800000) (-((L+10800000)/21600000))).2;rw [<-s]
    congr 1<;>omega
  . rw [ho,if_pos rfl] at r;have a:=(LY (aT (-(64*u)) (-(64*l)) (-(64*n)) (-(64*n))+5400000) (bi (-(64*u)) (-(64*l)) (-(64*n)) (-(64*n))+5400000) (by rw [r.1,r.2];decide)).2
    have bl:aT (64*l) (64*u) (64*n) (64*n)=0:=by unfold aT;rw [ho];rfl
    have bh:bi (64*l) (64*u) (64*n) (64*n)=21600000:=by unfold bi;rw [ho];rfl
    have b:=(LY (aT (64*l) (64*u) (64*n) (64*n)+5400000) (bi (64*l) (64*u) (64*n) (64*n)+5400000) (by rw [bl,bh];decide)).1
    rw [a,b];rfl
 rw [e,Int.neg_mul] at k;omega
theorem Hd {x d m:Int} (h:x*d<=1073741824*m):qCe x d 1073741824<=m:=by unfold qCe;omega
theorem Hm {x d m:Int} (h:1073741824*m<=x*d):m<=qFl x d 1073741824:=by unfold qFl;omega
theorem IC (l u n:Int) (hl:-10800000<=l) (lu:l<=u) (hu:u<=10800000) (hn:-10680000<=n/\n<=10680000) (w:Wd l u (max n (-n))) (g h:Int) (g0:0<=g) (gh:g<=h) (eh:h=rtC (n*n+aV l u*aV l u)) :
 min n 0-59<=ldL (uC (aT (64*l) (64*u) (64*n) (64*n)) (bi (64*l) (64*u) (64*n) (64*n))).1 (uC (aT (64*l) (64*u) (64*n) (64*n)) (bi (64*l) (64*u) (64*n) (64*n))).2 g h /\
 ldH (uC (aT (64*l) (64*u) (64*n) (64*n)) (bi (64*l) (64*u) (64*n) (64*n))).1 (uC (aT (64*l) (64*u) (64*n) (64*n)) (bi (64*l) (64*u) (64*n) (64*n))).2 g h<=max n 0+59:=by
 have a1:=zk l u n hl lu hu hn w g g0 (by omega)
 have a2:=zk l u n hl lu hu hn w h (by omega) (by omega)
 have b1:=Gs l u n hl lu hu hn w g g0 (by omega)
 have b2:=Gs l u n hl lu hu hn w h (by omega) (by omega)
 have c:=(iX (aT (64*l) (64*u) (64*n) (64*n)+5400000) (bi (64*l) (64*u) (64*n) (64*n)+5400000)).2.1;unfold uC;simp only [];generalize dF (aT (64*l) (64*u) (64*n) (64*n)+5400000) (bi (64*l) (64*u) (64*n) (64*n)+5400000)=A at *
 generalize dH (aT (64*l) (64*u) (64*n) (64*n)+5400000) (bi (64*l) (64*u) (64*n) (64*n)+5400000)=B at *
 have m1:=Int.mul_le_mul_of_nonneg_right c g0;have m2:=Int.mul_le_mul_of_nonneg_right c (show 0<=h by omega)
 have p1:=Hd a1;have p2:=Hd a2;have p3:=Hd (x:=A) (d:=g) (m:=max n 0+59) (by omega)
 have p4:=Hd (x:=A) (d:=h) (m:=max n 0+59) (by omega)
 have q1:=Hm b1;have q2:=Hm b2;have q3:=Hm (x:=B) (d:=g) (m:=min n 0-59) (by omega)
 have q4:=Hm (x:=B) (d:=h) (m:=min n 0-59) (by omega)
 unfold ldL ldH gH gU;omega
theorem Qs {q p L H l h x y R:Rat} (hq:l<=q/\q<=h) (hp:x<=p/\p<=y) (x0:0<=x) (a1:R*L<=l*x) (a2:R*L<=l*y) (b1:h*x<=R*H) (b2:h*y<=R*H):R*L<=q*p/\q*p<=R*H:=by
 have p0:0<=p:=by grind
 have u:=Rat.mul_nonneg (show 0<=q-l by grind) p0
 have v:=Rat.mul_nonneg (show 0<=h-q by grind) p0
 constructor
 . by_cases z:0<=l
   . have:=Rat.mul_nonneg z (show 0<=p-x by grind)
     grind
   . have:=Rat.mul_nonneg (show 0<=-l by grind) (show 0<=y-p by grind)
     grind
 . by_cases z:0<=h
   . have:=Rat.mul_nonneg z (show 0<=y-p by grind)
     grind
   . have:=Rat.mul_nonneg (show 0<=-h by grind) (show 0<=p-x by grind)
     grind
theorem ld_holds {l h x y:Int} {q p:Rat} (hq:(l:Rat)<=q/\q<=h) (hp:(x:Rat)<=p/\p<=y) (x0:0<=x):1073741824*(ldL l h x y:Rat)<=q*p/\q*p<=1073741824*(ldH l h x y:Rat):=by
 have f:∀ z d:Int,1073741824*qFl z d 1073741824<=z*d/\z*d<=1073741824*qCe z d 1073741824:=by
  intro z d;unfold qFl qCe;omega
 have f1:=f l x;have f2:=f l y;have f3:=f h x;have f4:=f h y
 have cc:∀ {a b c:Int},1073741824*a<=b*c->(1073741824:Rat)*a<=(b:Rat)*c:=fun {a b c} k=>by
  have:=aJ k;rw [Rat.intCast_mul,Rat.intCast_mul] at this;exact this
 have cd:∀ {a b c:Int},b*c<=1073741824*a->(b:Rat)*c<=(1073741824:Rat)*a:=fun {a b c} k=>by
  have:=aJ k;rw [Rat.intCast_mul,Rat.intCast_mul] at this;exact this
 have x0':(0:Rat)<=(x:Rat):=aJ x0;refine Qs hq hp x0' (cc ?_) (cc ?_) (cd ?_) (cd ?_)
 . unfold ldL gH;omega
 . unfold ldL gH;omega
 . unfold ldH gU;omega
 . unfold ldH gU;omega
theorem sc_holds {l h d:Int} {q:Rat} (hq:(l:Rat)<=q/\q<=h):1073741824*(gH l h d:Rat)<=q*d/\q*d<=1073741824*(gU l h d:Rat):=by
 have f:∀ z:Int,1073741824*qFl z d 1073741824<=z*d/\z*d<=1073741824*qCe z d 1073741824:=by
  intro z;unfold qFl qCe;omega
 have f1:=f l;have f2:=f h;have e1:1073741824*gH l h d<=l*d/\1073741824*gH l h d<=h*d:=by unfold gH;omega
 have e2:l*d<=1073741824*gU l h d/\h*d<=1073741824*gU l h d:=by unfold gU;omega
 have c1:=aJ e1.1;have c2:=aJ e1.2;have c3:=aJ e2.1;have c4:=aJ e2.2;rw [Rat.intCast_mul,Rat.intCast_mul,show ((1073741824:Int):Rat)=1073741824 from rfl] at c1 c2 c3 c4
 rcases Int.le_total 0 d with z|z
 . have z':(0:Rat)<=(d:Rat):=aJ z;have a:=Rat.mul_nonneg (show 0<=q-l by grind) z'
   have b:=Rat.mul_nonneg (show 0<=(h:Rat)-q by grind) z'
   constructor<;>grind
 . have z':(d:Rat)<=0:=aJ z;have a:=Rat.mul_nonneg (show 0<=q-l by grind) (show 0<=-(d:Rat) by grind)
   have b:=Rat.mul_nonneg (show 0<=(h:Rat)-q by grind) (show 0<=-(d:Rat) by grind)
   constructor<;>grind
theorem Ls {a b A c d C n q H:Rat} (hA:a<=A/\A<=b) (hC:c<=C/\C<=d) (c0:0<c) (e:q*C=A*n) (h1:a*n<=H*c) (h2:a*n<=H*d) (h3:b*n<=H*c) (h4:b*n<=H*d):q<=H:=by
 have C0:0<C:=by grind
 have up:A*n<=H*C:=by
  have m:A*n<=a*n∨A*n<=b*n:=by
   by_cases z:0<=n
   . right
     have:=Rat.mul_nonneg (show 0<=b-A by grind) z
     grind
   . left
     have:=Rat.mul_nonneg (show 0<=A-a by grind) (show 0<=-n by grind)
     grind
  have k:H*c<=H*C∨H*d<=H*C:=by
   by_cases z:0<=H
   . left
     have:=Rat.mul_nonneg z (show 0<=C-c by grind)
     grind
   . right
     have:=Rat.mul_nonneg (show 0<=-H by grind) (show 0<=d-C by grind)
     grind
  rcases m with m|m<;>rcases k with k|k<;>grind
 rw [<-e] at up;refine Rat.le_of_mul_le_mul_left (c:=C) ?_ C0;rw [Rat.mul_comm C q,Rat.mul_comm C H];exact up
theorem Oa {a b c d n:Int} {A C q:Rat} (hA:(a:Rat)<=A/\A<=b) (hC:(c:Rat)<=C/\C<=d) (h0:0<c∨d<0) (cd:c<=d) (e:q*C=A*n):q<=(qgH a b c d n:Rat):=by
 have key:∀ x z:Int,z≠0->(0<z->x*n<=qCs x n z*z)/\(z<0->-x*n<=qCs x n z*-z):=by
  intro x z hz;unfold qCs qCe
  constructor
  . intro p;rw [if_neg (by omega)]
    have:=Int.ediv_mul_le (-(x*n)) hz;rw [Int.neg_mul];omega
  . intro p;rw [if_pos p];have:=Int.ediv_mul_le (-(-x*n)) (show -z≠0 by omega)
    rw [Int.neg_mul (-(-x*n) / -z)];omega
 have z:∀ x z:Int,(x=a∨x=b)->(z=c∨z=d)->qCs x n z<=qgH a b c d n:=by
  intro x z hx hz;unfold qgH;rcases hx with rfl|rfl<;>rcases hz with rfl|rfl<;>omega
 generalize qgH a b c d n=H at *
 rcases h0 with c0|d0
 . have pos:∀ x z:Int,(x=a∨x=b)->(z=c∨z=d)->(x:Rat)*n<=(H:Rat)*z:=by
    intro x y hx hy;have y0:0<y:=by omega
    have k1:=(key x y (by omega)).1 y0
    have k2:=Int.mul_le_mul_of_nonneg_right (z x y hx hy) (show 0<=y by omega)
    have:=aJ (Int.le_trans k1 k2);rw [Rat.intCast_mul,Rat.intCast_mul] at this;exact this
   have c0':(0:Rat)<(c:Rat):=by exact_mod_cast c0
   exact Ls hA hC c0' e (pos a c (.inl rfl) (.inl rfl)) (pos a d (.inl rfl) (.inr rfl)) (pos b c (.inr rfl) (.inl rfl)) (pos b d (.inr rfl) (.inr rfl))
 . have pos:∀ x z:Int,(x=a∨x=b)->(z=c∨z=d)->-(x:Rat)*n<=(H:Rat)*-z:=by
    intro x y hx hy;have y0:y<0:=by omega
    have k1:=(key x y (by omega)).2 y0
    have k2:=Int.mul_le_mul_of_nonneg_right (z x y hx hy) (show 0<=-y by omega)
    have:=aJ (Int.le_trans k1 k2);rw [Rat.intCast_mul,Rat.intCast_mul,Rat.intCast_neg,Rat.intCast_neg] at this;exact this
   have d0':(0:Rat) < -(d:Rat):=by
    have:(d:Rat)<((0:Int):Rat):=by exact_mod_cast d0
    rw [show ((0:Int):Rat)=0 from rfl] at this
    grind
   refine Ls (a:=-(b:Rat)) (b:=-(a:Rat)) (A:=-A) (c:=-(d:Rat)) (d:=-(c:Rat)) (C:=-C) (n:=(n:Rat)) ⟨by grind,by grind⟩ ⟨by grind,by grind⟩ d0' (by grind) (pos b d (.inr rfl) (.inr rfl)) (pos b c (.inr rfl) (.inl rfl)) (pos a d (.inl rfl) (.inr rfl)) (pos a c (.inl rfl) (.inl rfl))
theorem XU (a b c d n:Int):qgL a b c d n=-qgH a b c d (-n):=by
 have f:∀ x z:Int,qFs x n z=-qCs x (-n) z:=by
  intro x z;unfold qFs qCs qFl qCe;split
  . simp only [Int.mul_neg,Int.neg_neg]
  . simp only [Int.mul_neg,Int.neg_neg]
 unfold qgL qgH;rw [f,f,f,f];omega
theorem Re {a b c d n:Int} {A C q:Rat} (hA:(a:Rat)<=A/\A<=b) (hC:(c:Rat)<=C/\C<=d) (h0:0<c∨d<0) (cd:c<=d) (e:q*C=A*n):(qgL a b c d n:Rat)<=q:=by
 rw [XU,Rat.intCast_neg];have:=Oa (q:=-q) (n:=-n) hA hC h0 cd (by rw [Rat.intCast_neg];grind)
 grind
theorem fq_holds {a b c d x y:Int} {A C q m:Rat} (hA:(a:Rat)<=A/\A<=b) (hC:(c:Rat)<=C/\C<=d) (h0:0<c∨d<0) (cd:c<=d) (hm:(x:Rat)<=m/\m<=y) (e:q*C=A*m):(fqL a b c d x y:Rat)<=q/\q<=(fqH a b c d x y:Rat):=by
 have C0:C≠0:=by
  rcases h0 with z|z
  . have:(0:Rat)<(c:Rat):=by exact_mod_cast z
    intro k;rw [k] at hC;grind
  . have:(d:Rat)<((0:Int):Rat):=by exact_mod_cast z
    rw [show ((0:Int):Rat)=0 from rfl] at this
    intro k;rw [k] at hC;grind
 have qx:(A*x/C)*C=A*x:=Rat.div_mul_cancel C0;have qy:(A*y/C)*C=A*y:=Rat.div_mul_cancel C0;have x1:=Re hA hC h0 cd qx;have x2:=Oa hA hC h0 cd qx;have y1:=Re hA hC h0 cd qy;have y2:=Oa hA hC h0 cd qy;have l1:(fqL a b c d x y:Rat)<=(qgL a b c d x:Rat):=aJ (by unfold fqL;omega)
 have l2:(fqL a b c d x y:Rat)<=(qgL a b c d y:Rat):=aJ (by unfold fqL;omega)
 have u1:(qgH a b c d x:Rat)<=(fqH a b c d x y:Rat):=aJ (by unfold fqH;omega)
 have u2:(qgH a b c d y:Rat)<=(fqH a b c d x y:Rat):=aJ (by unfold fqH;omega)
 generalize A*x/C=p at *
 generalize A*y/C=r at *
 have btw:∀ B:Rat,(p<=B->r<=B->q<=B)/\(B<=p->B<=r->B<=q):=by
  intro B;have lin:∀ z:Rat,(p-B)*z=0∨True:=fun _=>.inr trivial
  have e1:(q-p)*C=A*(m-x):=by grind
  have e2:(r-q)*C=A*(y-m):=by grind
  have cr:(q-p)*(y-m)=(r-q)*(m-x):=by
   have:((q-p)*(y-m)-(r-q)*(m-x))*C=0:=by grind
   rcases Rat.mul_eq_zero.1 this with z|z
   . grind
   . exact absurd z C0
  by_cases s:m=x
  . have:(q-p)*C=0:=by rw [e1,s];grind
    have:q=p:=by
     rcases Rat.mul_eq_zero.1 this with z|z
     . grind
     . exact absurd z C0
    constructor<;>(intro _ _;grind)
  . have mx:0<m-x:=by grind
    constructor
    . intro k1 k2;refine Rat.not_lt.1 fun k=>?_
      have a:=Rat.mul_nonneg (show 0<=q-p by grind) (show 0<=(y:Rat)-m by grind)
      have b:=Rat.mul_pos (show 0<q-r by grind) mx
      grind
    . intro k1 k2;refine Rat.not_lt.1 fun k=>?_
      have a:=Rat.mul_nonneg (show 0<=p-q by grind) (show 0<=(y:Rat)-m by grind)
      have b:=Rat.mul_pos (show 0<r-q by grind) mx
      grind
 exact ⟨(btw (fqL a b c d x y:Rat)).2 (by grind) (by grind),(btw (fqH a b c d x y:Rat)).1 (by grind) (by grind)⟩
theorem qf {a b:Int} {q e:Rat} (h1:(a:Rat)<=q) (h2:q<=(b:Rat)+e) (he:e<1):a<=b:=by
 rcases Int.lt_or_le b a with k|k
 . exfalso;have:=aJ (show b+1<=a from k)
   rw [Rat.intCast_add,show ((1:Int):Rat)=1 from rfl] at this
   grind
 . exact k
end Go.Proofs.YtbcnifkfaknnaaaGreat
namespace Go.Proofs.YtbcnifkfaknnaaaGreat
open Alm Sx
theorem kW (a0 a1 b0 b1:Int) (h0:-5340000<=a0/\a0<=5340000) (h2:-5340000<=b0/\b0<=5340000) :
 (0<=dsL a0 a1 b0 b1/\dsL a0 a1 b0 b1<=dsH a0 a1 b0 b1/\dsH a0 a1 b0 b1<=15400000) /\
 dsL a0 a1 b0 b1*dsL a0 a1 b0 b1<=(b0-a0)*(b0-a0)+aX (ivL a0 a1 b0 b1) (ivH a0 a1 b0 b1)*aX (ivL a0 a1 b0 b1) (ivH a0 a1 b0 b1) /\
 (b0-a0)*(b0-a0)+aV (ivL a0 a1 b0 b1) (ivH a0 a1 b0 b1)*aV (ivL a0 a1 b0 b1) (ivH a0 a1 b0 b1)<=dsH a0 a1 b0 b1*dsH a0 a1 b0 b1:=by
 have B:=Ae a0 a1 b0 b1 h0 h2;unfold dsL dsH;generalize ivL a0 a1 b0 b1=l at *
 generalize ivH a0 a1 b0 b1=u at *
 have le:0<=aX l u/\aX l u<=aV l u/\aV l u<=10800000:=by unfold aX aV;split<;>omega
 have n2:=jL (x:=b0-a0) (b:=10680000) (by omega)
 have nn:=isq (b0-a0);have m2:=jL (x:=aV l u) (b:=10800000) (by omega)
 have m1:=isq (aV l u);have l1:=isq (aX l u);have l2:=Int.mul_le_mul le.2.1 le.2.1 le.1 (by omega)
 have F:=U7 ((b0-a0)*(b0-a0)+aX l u*aX l u) (by omega) (by omega)
 have C:=Nt ((b0-a0)*(b0-a0)+aV l u*aV l u) (by omega) (by omega)
 generalize rtF ((b0-a0)*(b0-a0)+aX l u*aX l u)=f at *
 generalize rtC ((b0-a0)*(b0-a0)+aV l u*aV l u)=c at *
 refine ⟨⟨F.1,nR (by omega) C.1,?_⟩,F.2,C.2.1⟩
 rcases C.2.2 with z|z
 . omega
 . have:c-1<=15300000:=nR (by omega) (by omega)
   omega
def tau:Rat:=1/100000000000000000000
def tny:Rat:=1/1000000000
theorem zO:1073741824*(2*ee+8*tin)<=tau/\0<=tau/\0<=1073741824*(2*ee+8*tin):=by unfold tau ee tin;refine ⟨?_,?_,?_⟩<;>decide +kernel
theorem Pt:16000000*del<=tau/\0<=del:=by unfold tau del;constructor<;>decide +kernel
theorem iJ {f p d:Rat} (p0:0<=p) (d0:0<=d) (h:f*f<=p*p*(1+d)):f<=p+p*d:=by
 refine ja ?_ (by have:=Rat.mul_nonneg p0 d0;grind)
 have a:=Rat.mul_nonneg (Rat.mul_nonneg p0 p0) d0;have b:=Rat.mul_nonneg (Rat.mul_nonneg p0 d0) (Rat.mul_nonneg p0 d0);grind
structure PE (a0 a1 b0 b1:Int) (k M p c s:Rat):Prop where
 mn:Rk a0 b0 k M
 en:(b0:Rat)-a0=p*c
 ex:(ivD a1 b1:Rat)*k=p*s
 p0:0<=p
 pL:(dsL a0 a1 b0 b1:Rat)<=p+tau
 pH:p<=(dsH a0 a1 b0 b1:Rat)
 u1:c*c+s*s<=2
 on:Onc (bcL a0 a1 b0 b1) (bcH a0 a1 b0 b1) c s (8*tin)
theorem Mg (a0 a1 b0 b1:Int) (h0:-5340000<=a0/\a0<=5340000) (h2:-5340000<=b0/\b0<=5340000):∃ k M p c s:Rat,PE a0 a1 b0 b1 k M p c s:=by
 obtain ⟨k,M,mk⟩:=Ve a0 b0 h0 h2;have B:=Ae a0 a1 b0 b1 h0 h2;have df:=kW a0 a1 b0 b1 h0 h2;have sh:=sc_holds (d:=ivD a1 b1) ⟨mk.m0,mk.m1⟩;have sL:1073741824*(ivL a0 a1 b0 b1:Rat)<=1073741824*k*(ivD a1 b1:Rat):=sh.1;have sH:1073741824*k*(ivD a1 b1:Rat)<=1073741824*(ivH a0 a1 b0 b1:Rat):=sh.2;clear sh;have x1:(ivL a0 a1 b0 b1:Rat)<=(ivD a1 b1:Rat)*k:=by clear mk df;grind
 have x2:(ivD a1 b1:Rat)*k<=(ivH a0 a1 b0 b1:Rat):=by clear mk df;grind
 clear sL sH;generalize hx:(ivD a1 b1:Rat)*k=x at *
 have u0:=Rat.le_of_lt GU;have c64:((64:Int):Rat)=64:=rfl
 obtain ⟨r,c,s,r0,ex,ey,nn,on⟩:=Ka (yl:=64*ivL a0 a1 b0 b1) (yh:=64*ivH a0 a1 b0 b1) (xl:=64*(b0-a0)) (xh:=64*(b0-a0)) (by omega) (by omega) (by omega) (by omega) (x:=64*((b0:Rat)-a0)*u30) (y:=64*x*u30) (e:=0)
  (by unfold InE;rw [Rat.intCast_mul,c64,Rat.intCast_sub];constructor<;>grind)
  (by
   unfold InE;rw [Rat.intCast_mul,c64,Rat.intCast_mul,c64];have a:=Rat.mul_nonneg (show 0<=x-(ivL a0 a1 b0 b1:Rat) by grind) u0
   have b:=Rat.mul_nonneg (show 0<=(ivH a0 a1 b0 b1:Rat)-x by grind) u0
   constructor<;>grind)
  (by unfold eta;decide +kernel)
 have uR:=CK
 have en:(b0:Rat)-a0=r*16777216*c:=by
  have:16777216*(64*((b0:Rat)-a0)*u30)=16777216*(r*c):=by rw [ex]
  clear mk nn on ey hx x1 x2;grind
 have es:x=r*16777216*s:=by
  have:16777216*(64*x*u30)=16777216*(r*s):=by rw [ey]
  clear mk nn on ex hx x1 x2 en;grind
 obtain ⟨n1,n2⟩:=nn;unfold Nr at n1;have dt:=Pt;have p0:0<=r*16777216:=Rat.mul_nonneg r0 (by decide)
 generalize r*16777216=p at *
 clear ex ey r0;have S:((b0:Rat)-a0)*(b0-a0)+x*x=p*p*(c*c+s*s):=by rw [en,es];grind
 have pp:=Rat.mul_nonneg p0 p0
 have xm:x*x<=(aV (ivL a0 a1 b0 b1) (ivH a0 a1 b0 b1):Rat)*(aV (ivL a0 a1 b0 b1) (ivH a0 a1 b0 b1):Rat):=by
  have m1:(ivH a0 a1 b0 b1:Rat)<=(aV (ivL a0 a1 b0 b1) (ivH a0 a1 b0 b1):Rat):=aJ (by unfold aV;omega)
  have m2:((-ivL a0 a1 b0 b1:Int):Rat)<=(aV (ivL a0 a1 b0 b1) (ivH a0 a1 b0 b1):Rat):=aJ (by unfold aV;omega)
  rw [Rat.intCast_neg] at m2;generalize (aV (ivL a0 a1 b0 b1) (ivH a0 a1 b0 b1):Rat)=m at *
  have a:=Rat.mul_nonneg (show 0<=m-x by grind) (show 0<=m+x by grind)
  grind
 have xl:(aX (ivL a0 a1 b0 b1) (ivH a0 a1 b0 b1):Rat)*(aX (ivL a0 a1 b0 b1) (ivH a0 a1 b0 b1):Rat)<=x*x:=by
  rcases Int.lt_or_le 0 (ivL a0 a1 b0 b1) with z|z
  . have e:aX (ivL a0 a1 b0 b1) (ivH a0 a1 b0 b1)=ivL a0 a1 b0 b1:=by unfold aX;rw [if_pos (.inl z)];omega
    rw [e];have z':(0:Rat)<=(ivL a0 a1 b0 b1:Rat):=by have:=aJ (show 0<=ivL a0 a1 b0 b1 by omega);exact this
    have a:=Rat.mul_nonneg (show 0<=x-(ivL a0 a1 b0 b1:Rat) by grind) (show 0<=x+(ivL a0 a1 b0 b1:Rat) by grind)
    grind
  . rcases Int.lt_or_le (ivH a0 a1 b0 b1) 0 with y|y
    . have e:aX (ivL a0 a1 b0 b1) (ivH a0 a1 b0 b1)=-ivH a0 a1 b0 b1:=by unfold aX;rw [if_pos (.inr y)];omega
      rw [e,Rat.intCast_neg];have y':(ivH a0 a1 b0 b1:Rat)<=0:=by have:=aJ (show ivH a0 a1 b0 b1<=0 by omega);exact this
      have a:=Rat.mul_nonneg (show 0<=-x+(ivH a0 a1 b0 b1:Rat) by grind) (show 0<=-x-(ivH a0 a1 b0 b1:Rat) by grind)
      grind
    . have e:aX (ivL a0 a1 b0 b1) (ivH a0 a1 b0 b1)=0:=by unfold aX;rw [if_neg (by omega)]
      rw [e,show ((0:Int):Rat)=0 from rfl]
      by_cases q:0<=x
      . have:=Rat.mul_nonneg q q;grind
      . have:=Rat.mul_nonneg (show 0<=-x by grind) (show 0<=-x by grind);grind
 have f1:=aJ df.2.1;have f2:=aJ df.2.2;rw [Rat.intCast_add,Rat.intCast_mul,Rat.intCast_mul,Rat.intCast_mul,Rat.intCast_sub] at f1 f2
 have H15:(dsH a0 a1 b0 b1:Rat)<=15400000:=by
  have:=aJ df.1.2.2;exact this
 have H0:(0:Rat)<=(dsH a0 a1 b0 b1:Rat):=by have:=aJ (show 0<=dsH a0 a1 b0 b1 by omega);exact this
 generalize (aV (ivL a0 a1 b0 b1) (ivH a0 a1 b0 b1):Rat)=mo at *
 generalize (aX (ivL a0 a1 b0 b1) (ivH a0 a1 b0 b1):Rat)=lo at *
 have g1:=Rat.mul_nonneg pp (show 0<=c*c+s*s-1 by grind)
 have pH:p<=(dsH a0 a1 b0 b1:Rat):=ja (by clear mk on df;grind) H0
 refine ⟨k,M,p,c,s,mk,en,by rw [hx];exact es,p0,?_,pH,?_,on⟩
 . have g2:=Rat.mul_nonneg pp (show 0<=1+del-(c*c+s*s) by grind)
   have nu:=iJ (f:=(dsL a0 a1 b0 b1:Rat)) p0 dt.2 (by clear mk on df;grind)
   have:=Rat.mul_nonneg (show 0<=16000000-p by grind) dt.2
   clear mk on df g1 g2 f1 f2 S xm xl;grind
 . have:del<=1:=by unfold del;decide +kernel
   clear mk on df;grind
theorem lX {A R c P p t d:Rat} (h1:-t<=R*c-A/\R*c-A<=t) (h2:-t<=p-P/\p-P<=t) (hP:0<=P/\P<=15400000) (hc:-2<=c/\c<=2) (eR:R=1073741824) (t0:0<=t) (td:t*3000000000<=d):R*(p*c)-d<=A*P/\A*P<=R*(p*c)+d:=by
 subst eR;have a:=Rat.mul_nonneg (show 0<=t-(1073741824*c-A) by grind) hP.1
 have b:=Rat.mul_nonneg (show 0<=t+(1073741824*c-A) by grind) hP.1
 have e:=Rat.mul_nonneg t0 (show 0<=15400000-P by grind)
 have k1:=Rat.mul_nonneg (show 0<=t-(p-P) by grind) (show 0<=2-c by grind)
 have k2:=Rat.mul_nonneg (show 0<=t+(p-P) by grind) (show 0<=2+c by grind)
 have k3:=Rat.mul_nonneg (show 0<=t-(p-P) by grind) (show 0<=2+c by grind)
 have k4:=Rat.mul_nonneg (show 0<=t+(p-P) by grind) (show 0<=2-c by grind)
 constructor<;>grind
theorem Lh {c s:Rat} (h:c*c+s*s<=2):-2<=c/\c<=2:=by
 have q:0<=s*s:=by
  by_cases zz:0<=s
  . exact Rat.mul_nonneg zz zz
  . have:=Rat.mul_nonneg (show 0<=-s by grind) (show 0<=-s by grind)
    grind
 have a:=ja (x:=c) (b:=2) (by grind) (by decide)
 have b:=ja (x:=-c) (b:=2) (by grind) (by decide)
 exact ⟨by grind,a⟩
theorem Zm {L H:Int} {x e t:Rat} (h:InE L H x e) (he:1073741824*e<=t):(L:Rat)-t<=1073741824*x/\1073741824*x<=(H:Rat)+t:=by
 have u:=CK;unfold InE at h;have a:(L:Rat)*u30*1073741824=(L:Rat):=by rw [Rat.mul_assoc,Rat.mul_comm u30,u,Rat.mul_one]
 have b:(H:Rat)*u30*1073741824=(H:Rat):=by rw [Rat.mul_assoc,Rat.mul_comm u30,u,Rat.mul_one]
 generalize (L:Rat)*u30=A at *
 generalize (H:Rat)*u30=B at *
 constructor<;>grind
theorem GX {a b:Int} {q e:Rat} (h1:q<=(b:Rat)) (h2:(a:Rat)-e<=q) (he:e<1):a<=b :=
 qf (q:=(a:Rat)) (e:=e) Rat.le_refl (by grind) he
theorem uo {L H:Int} {c:Rat} (lh:L<=H) (h:InE L H c (2*ee+8*tin)):∃ A:Rat,(L:Rat)<=A/\A<=(H:Rat)/\-tau<=1073741824*c-A/\1073741824*c-A<=tau:=by
 have q:=Zm h zO.1;exact vV (aJ lh) q.1 q.2 zO.2.1
theorem lat_holds {a0 a1 b0 b1:Int} {k M p c s:Rat} (h0:-5340000<=a0/\a0<=5340000) (h2:-5340000<=b0/\b0<=5340000) (R:PE a0 a1 b0 b1 k M p c s) :
 jd a0 (bcL a0 a1 b0 b1) (bcH a0 a1 b0 b1) (dsL a0 a1 b0 b1) (dsH a0 a1 b0 b1)<=b0/\b0<=je a0 (bcL a0 a1 b0 b1) (bcH a0 a1 b0 b1) (dsL a0 a1 b0 b1) (dsH a0 a1 b0 b1) /\
 1073741824*(tL (bcL a0 a1 b0 b1) (bcH a0 a1 b0 b1) (dsL a0 a1 b0 b1) (dsH a0 a1 b0 b1):Rat)<=1073741824*(ivD a1 b1*k)+tny/\1073741824*(ivD a1 b1*k)-tny<=1073741824*(tN (bcL a0 a1 b0 b1) (bcH a0 a1 b0 b1) (dsL a0 a1 b0 b1) (dsH a0 a1 b0 b1):Rat):=by
 have df:=kW a0 a1 b0 b1 h0 h2;have t:=zO;have cb:=Lh R.u1;have sb:=Lh (c:=s) (s:=c) (by have:=R.u1;clear R df t cb;grind)
 obtain ⟨P,P1,P2,P3,P4⟩:=vV (x:=p) (e:=tau) (aJ df.1.2.1) (by have:=R.pL;clear R df cb sb;grind) (by have:=R.pH;clear R df cb sb;grind) t.2.1
 obtain ⟨A,A1,A2,A3,A4⟩:=uo (iX _ _).2.1 R.on.cos;obtain ⟨E,E1,E2,E3,E4⟩:=uo (iX _ _).2.1 R.on.sin
 have PP:0<=P/\P<=15400000:=by
  have x0:(0:Rat)<=(dsL a0 a1 b0 b1:Rat):=by have:=aJ df.1.1;exact this
  have x1:(dsH a0 a1 b0 b1:Rat)<=15400000:=by have:=aJ df.1.2.2;exact this
  clear R df cb sb A3 A4 E3 E4;exact ⟨by grind,by grind⟩
 have td:tau*3000000000<=tny:=by unfold tau tny;decide +kernel
 have nc:=lX ⟨A3,A4⟩ ⟨P3,P4⟩ PP cb rfl t.2.1 td;have ns:=lX ⟨E3,E4⟩ ⟨P3,P4⟩ PP sb rfl t.2.1 td;have lc:=ld_holds ⟨A1,A2⟩ ⟨P1,P2⟩ df.1.1;have ls:=ld_holds ⟨E1,E2⟩ ⟨P1,P2⟩ df.1.1;rw [<-R.en] at nc;rw [<-R.ex] at ns;have ty:0<tny/\tny<1:=by unfold tny;constructor<;>decide +kernel
 have y0:ldL (uC (bcL a0 a1 b0 b1) (bcH a0 a1 b0 b1)).1 (uC (bcL a0 a1 b0 b1) (bcH a0 a1 b0 b1)).2 (dsL a0 a1 b0 b1) (dsH a0 a1 b0 b1)<=b0-a0:=by
  refine qf (q:=(ldL (uC (bcL a0 a1 b0 b1) (bcH a0 a1 b0 b1)).1 (uC (bcL a0 a1 b0 b1) (bcH a0 a1 b0 b1)).2 (dsL a0 a1 b0 b1) (dsH a0 a1 b0 b1):Rat)) (e:=tny) Rat.le_refl ?_ ty.2;rw [Rat.intCast_sub];have z:=lc.1;have z2:1073741824*(ldL (uC (bcL a0 a1 b0 b1) (bcH a0 a1 b0 b1)).1 (uC (bcL a0 a1 b0 b1) (bcH a0 a1 b0 b1)).2 (dsL a0 a1 b0 b1) (dsH a0 a1 b0 b1):Rat)<=1073741824*((b0:Rat)-a0)+tny:=Rat.le_trans z nc.2;clear R df cb sb A3 A4 E3 E4 lc ls nc ns z;grind
 have y1:b0-a0<=ldH (uC (bcL a0 a1 b0 b1) (bcH a0 a1 b0 b1)).1 (uC (bcL a0 a1 b0 b1) (bcH a0 a1 b0 b1)).2 (dsL a0 a1 b0 b1) (dsH a0 a1 b0 b1):=by
  refine qf (q:=((b0-a0:Int):Rat)) (e:=tny) Rat.le_refl ?_ ty.2;rw [Rat.intCast_sub];have z:=lc.2;have z2:1073741824*((b0:Rat)-a0)-tny<=1073741824*(ldH (uC (bcL a0 a1 b0 b1) (bcH a0 a1 b0 b1)).1 (uC (bcL a0 a1 b0 b1) (bcH a0 a1 b0 b1)).2 (dsL a0 a1 b0 b1) (dsH a0 a1 b0 b1):Rat):=Rat.le_trans nc.1 z;clear R df cb sb A3 A4 E3 E4 lc ls nc ns z;grind
 refine ⟨by unfold jd;omega,by unfold je;omega,Rat.le_trans ls.1 ns.2,Rat.le_trans ns.1 ls.2⟩
theorem Rb {a b:Int} (h0:-5340000<=a) (h:a<=b) (h1:b<=5340000):prL a<=prL b/\prH a<=prH b:=by
 have:=nZ a (b-a) h0 (by omega) (by omega)
 rw [show a+(b-a)=b by omega] at this
 omega
theorem JG {q m k D t:Rat} (e:q*(1073741824*k)=1073741824*m) (k4:4/1000<=k) (h1:1073741824*m<=1073741824*(D*k)+t) (h2:1073741824*(D*k)-t<=1073741824*m) (t0:0<=t):q<=D+t/\D-t<=q:=by
 have tk:=Rat.mul_nonneg t0 (show 0<=k-4/1000 by grind)
 constructor
 . refine Rat.le_of_mul_le_mul_left (c:=k) ?_ (by grind)
   grind
 . refine Rat.le_of_mul_le_mul_left (c:=k) ?_ (by grind)
   grind
theorem first_holds {a0 a1 b0 b1:Int} {k M p c s:Rat} (h0:-5340000<=a0/\a0<=5340000) (h2:-5340000<=b0/\b0<=5340000) (R:PE a0 a1 b0 b1 k M p c s)
 (nr:cB a0 (bcL a0 a1 b0 b1) (bcH a0 a1 b0 b1) (dsL a0 a1 b0 b1) (dsH a0 a1 b0 b1)) :
 5368000<=(rdQ a0 (bcL a0 a1 b0 b1) (bcH a0 a1 b0 b1) (dsL a0 a1 b0 b1) (dsH a0 a1 b0 b1)).1/\qM a0 (bcL a0 a1 b0 b1) (bcH a0 a1 b0 b1) (dsL a0 a1 b0 b1) (dsH a0 a1 b0 b1)<=ivD a1 b1/\ivD a1 b1<=rD a0 (bcL a0 a1 b0 b1) (bcH a0 a1 b0 b1) (dsL a0 a1 b0 b1) (dsH a0 a1 b0 b1):=by
 have L:=lat_holds h0 h2 R;have BS:=GI (uS (bcL a0 a1 b0 b1) (bcH a0 a1 b0 b1)).1 (uS (bcL a0 a1 b0 b1) (bcH a0 a1 b0 b1)).2 (dsL a0 a1 b0 b1) (dsH a0 a1 b0 b1) (iX _ _) (by have:=kW a0 a1 b0 b1 h0 h2;omega) (by have:=kW a0 a1 b0 b1 h0 h2;omega)
 have mn:=R.mn;have ty:0<tny/\tny<1:=by unfold tny;constructor<;>decide +kernel
 clear R;unfold cB at nr;unfold qM rD;have dd:tL (bcL a0 a1 b0 b1) (bcH a0 a1 b0 b1) (dsL a0 a1 b0 b1) (dsH a0 a1 b0 b1)<=tN (bcL a0 a1 b0 b1) (bcH a0 a1 b0 b1) (dsL a0 a1 b0 b1) (dsH a0 a1 b0 b1):=BS.2.1;have eq:rdQ a0 (bcL a0 a1 b0 b1) (bcH a0 a1 b0 b1) (dsL a0 a1 b0 b1) (dsH a0 a1 b0 b1)=(cqL (min a0 (jd a0 (bcL a0 a1 b0 b1) (bcH a0 a1 b0 b1) (dsL a0 a1 b0 b1) (dsH a0 a1 b0 b1))) (max a0 (je a0 (bcL a0 a1 b0 b1) (bcH a0 a1 b0 b1) (dsL a0 a1 b0 b1) (dsH a0 a1 b0 b1))),cqH (min a0 (jd a0 (bcL a0 a1 b0 b1) (bcH a0 a1 b0 b1) (dsL a0 a1 b0 b1) (dsH a0 a1 b0 b1))) (max a0 (je a0 (bcL a0 a1 b0 b1) (bcH a0 a1 b0 b1) (dsL a0 a1 b0 b1) (dsH a0 a1 b0 b1)))):=rfl;rw [eq];clear eq BS;generalize jd a0 (bcL a0 a1 b0 b1) (bcH a0 a1 b0 b1) (dsL a0 a1 b0 b1) (dsH a0 a1 b0 b1)=y0 at *
 generalize je a0 (bcL a0 a1 b0 b1) (bcH a0 a1 b0 b1) (dsL a0 a1 b0 b1) (dsH a0 a1 b0 b1)=y1 at *
 generalize tL (bcL a0 a1 b0 b1) (bcH a0 a1 b0 b1) (dsL a0 a1 b0 b1) (dsH a0 a1 b0 b1)=d0 at *
 generalize tN (bcL a0 a1 b0 b1) (bcH a0 a1 b0 b1) (dsL a0 a1 b0 b1) (dsH a0 a1 b0 b1)=d1 at *
 have cl:=DY (min a0 y0) (max a0 y1) (by omega) (by omega) (by omega)
 have ep:=uq (min a0 y0+5400000) (max a0 y1+5400000) (min a0 b0+5400000) (max a0 b0+5400000) (by omega) (by omega) (by omega)
 have q0:(cqL (min a0 y0) (max a0 y1):Rat)<=1073741824*k:=Rat.le_trans (aJ ep.1) mn.q0;have q1:1073741824*k<=(cqH (min a0 y0) (max a0 y1):Rat):=Rat.le_trans mn.q1 (aJ ep.2);have k4:=mn.k4;refine ⟨cl,?_⟩
 obtain ⟨m,m1,m2,m3,m4⟩:=vV (l:=(d0:Rat)) (h:=(d1:Rat)) (x:=(ivD a1 b1:Rat)*k) (e:=tny/1073741824) (aJ dd) (by
  refine Rat.le_of_mul_le_mul_left (c:=1073741824) ?_ (by decide)
  have:1073741824*(tny/1073741824)=tny:=by rw [Rat.mul_comm];exact Rat.div_mul_cancel (by decide)
  have z:=L.2.2.1;clear mn ep q0 q1 L;grind) (by
  refine Rat.le_of_mul_le_mul_left (c:=1073741824) ?_ (by decide)
  have:1073741824*(tny/1073741824)=tny:=by rw [Rat.mul_comm];exact Rat.div_mul_cancel (by decide)
  have z:=L.2.2.2;clear mn ep q0 q1 L;grind) (by unfold tny;decide +kernel)
 have et:1073741824*(tny/1073741824)=tny:=by rw [Rat.mul_comm];exact Rat.div_mul_cancel (by decide)
 have kp:k≠0:=by intro z;rw [z] at k4;exact absurd k4 (by decide +kernel)
 have eq:(m/k)*k=m:=Rat.div_mul_cancel kp;generalize tny/1073741824=t' at *
 generalize m/k=q at *
 have F:=fq_holds (a:=1073741824) (b:=1073741824) (A:=1073741824) (C:=1073741824*k) (q:=q) (m:=m) (x:=d0) (y:=d1) ⟨by decide +kernel,by decide +kernel⟩ ⟨q0,q1⟩ (.inl (by omega)) (mZ _ _).2.1 ⟨m1,m2⟩ (by clear mn ep q0 q1 L;grind)
 have fa:=JG (q:=q) (m:=m) (k:=k) (D:=(ivD a1 b1:Rat)) (t:=tny) (by clear mn ep q0 q1 L F;grind) k4 (by clear mn ep q0 q1 L F;grind) (by clear mn ep q0 q1 L F;grind) (Rat.le_of_lt ty.1)
 constructor
 . exact qf (q:=q) (e:=tny) F.1 fa.1 ty.2
 . exact GX F.2 fa.2 ty.2
theorem QH {S C M D t q:Rat} {s c:Rat} (e:q*C=S*M) (h1:-t<=1073741824*s-S/\1073741824*s-S<=t) (h2:-t<=1073741824*c-C/\1073741824*c-C<=t) (id:s*M=c*D) (hM:-300000000<=M/\M<=300000000) (hD:-300000000<=D/\D<=300000000) (t0:0<=t) (hC:1<=C∨C<=-1):q<=D+600000000*t/\D-600000000*t<=q:=by
 have key:∀ p q E A:Rat,-E<=p->p<=E->-A<=q->q<=A->0<=E->-(E*A)<=p*q/\p*q<=E*A:=by
  intro p q E A p0 p1 q0 q1 E0;have a:=Rat.mul_nonneg (show 0<=E-p by grind) (show 0<=A+q by grind)
  have b:=Rat.mul_nonneg (show 0<=E+p by grind) (show 0<=A-q by grind)
  have c:=Rat.mul_nonneg (show 0<=E-p by grind) (show 0<=A-q by grind)
  have d:=Rat.mul_nonneg (show 0<=E+p by grind) (show 0<=A+q by grind)
  constructor<;>grind
 have a:=key _ M t 300000000 h1.1 h1.2 hM.1 hM.2 t0;have b:=key _ D t 300000000 h2.1 h2.2 hD.1 hD.2 t0;have z:(q-D)*C=D*(1073741824*c-C)-M*(1073741824*s-S):=by grind
 have z1:(q-D)*C<=600000000*t:=by rw [z];grind
 have z2:-(600000000*t)<=(q-D)*C:=by rw [z];grind
 have T0:0<=600000000*t:=by grind
 generalize 600000000*t=T at *
 generalize hw:q-D=w at *
 have w1:w<=T/\-T<=w:=by
  rcases hC with g|g
  . constructor
    . by_cases y:0<=w
      . have:=Rat.mul_nonneg y (show 0<=C-1 by grind);grind
      . grind
    . by_cases y:0<=w
      . grind
      . have:=Rat.mul_nonneg (show 0<=-w by grind) (show 0<=C-1 by grind);grind
  . constructor
    . by_cases y:0<=w
      . have:=Rat.mul_nonneg y (show 0<=-C-1 by grind);grind
      . grind
    . by_cases y:0<=w
      . grind
      . have:=Rat.mul_nonneg (show 0<=-w by grind) (show 0<=-C-1 by grind);grind
 grind
theorem UG {k M p c s n D:Rat} (e1:k*M=n) (e2:n=p*c) (e3:D*k=p*s) (k0:k≠0):s*M=c*D:=by
 by_cases p0:p=0
 . have m0:k*M=0:=by rw [e1,e2,p0];grind
   have d0:D*k=0:=by rw [e3,p0];grind
   have a:M=0:=by
    rcases Rat.mul_eq_zero.1 m0 with z|z
    . exact absurd z k0
    . exact z
   have b:D=0:=by
    rcases Rat.mul_eq_zero.1 d0 with z|z
    . exact z
    . exact absurd z k0
   rw [a,b];grind
 . have:p*(s*M-c*D)=0:=by grind
   rcases Rat.mul_eq_zero.1 this with z|z
   . exact absurd z p0
   . grind
theorem sec_holds {a0 a1 b0 b1:Int} {k M p c s:Rat} (h0:-5340000<=a0/\a0<=5340000) (h2:-5340000<=b0/\b0<=5340000) (R:PE a0 a1 b0 b1 k M p c s)
 (nr:cB a0 (bcL a0 a1 b0 b1) (bcH a0 a1 b0 b1) (dsL a0 a1 b0 b1) (dsH a0 a1 b0 b1)) (sp:lF (bcL a0 a1 b0 b1) (bcH a0 a1 b0 b1)) :
 zI a0 (bcL a0 a1 b0 b1) (bcH a0 a1 b0 b1) (dsL a0 a1 b0 b1) (dsH a0 a1 b0 b1)<=ivD a1 b1/\ivD a1 b1<=zh a0 (bcL a0 a1 b0 b1) (bcH a0 a1 b0 b1) (dsL a0 a1 b0 b1) (dsH a0 a1 b0 b1):=by
 have L:=lat_holds h0 h2 R;have mn:=R.mn;have t:=zO;obtain ⟨A,A1,A2,A3,A4⟩:=uo (iX _ _).2.1 R.on.cos;obtain ⟨E,E1,E2,E3,E4⟩:=uo (iX _ _).2.1 R.on.sin;have id:=UG mn.kM R.en R.ex (by have k4:=mn.k4;intro z;rw [z] at k4;exact absurd k4 (by decide +kernel))
 clear R;unfold cB at nr;unfold zI zh tO tQ;unfold lF at sp;have cl:=(iX (bcL a0 a1 b0 b1+5400000) (bcH a0 a1 b0 b1+5400000)).2.1;have cl':(uC (bcL a0 a1 b0 b1) (bcH a0 a1 b0 b1)).1<=(uC (bcL a0 a1 b0 b1) (bcH a0 a1 b0 b1)).2:=cl;clear cl;generalize jd a0 (bcL a0 a1 b0 b1) (bcH a0 a1 b0 b1) (dsL a0 a1 b0 b1) (dsH a0 a1 b0 b1)=y0 at *
 generalize je a0 (bcL a0 a1 b0 b1) (bcH a0 a1 b0 b1) (dsL a0 a1 b0 b1) (dsH a0 a1 b0 b1)=y1 at *
 have pm0:=Rb (a:=y0) (b:=b0) (by omega) (by omega) (by omega)
 have pm1:=Rb (a:=b0) (b:=y1) (by omega) (by omega) (by omega)
 have pa:=iH a0 (by omega)
 have pb:=iH b0 (by omega)
 have M0:((prL y0-prH a0:Int):Rat)<=M:=by
  rw [Rat.intCast_sub];have a:(prL y0:Rat)<=(prL b0:Rat):=aJ pm0.1;have:=mn.p0;clear A3 A4 E3 E4 L mn;grind
 have M1:M<=((prH y1-prL a0:Int):Rat):=by
  rw [Rat.intCast_sub];have a:(prH b0:Rat)<=(prH y1:Rat):=aJ pm1.2;have:=mn.p1;clear A3 A4 E3 E4 L mn;grind
 have MB:-300000000<=M/\M<=300000000:=by
  have z0:=aJ (show -300000000<=prL b0-prH a0 by omega)
  have z1:=aJ (show prH b0-prL a0<=300000000 by omega)
  rw [Rat.intCast_sub,show ((-300000000:Int):Rat)=-300000000 from rfl] at z0
  rw [Rat.intCast_sub,show ((300000000:Int):Rat)=300000000 from rfl] at z1
  have u0:=mn.p0;have u1:=mn.p1;clear A3 A4 E3 E4 L mn M0 M1
  constructor<;>grind
 have DB:(-300000000:Rat)<=(ivD a1 b1:Rat)/\(ivD a1 b1:Rat)<=300000000:=by
  have s:=Ea (b1-a1);have z0:=aJ (show -300000000<=ivD a1 b1 by unfold ivD;omega)
  have z1:=aJ (show ivD a1 b1<=300000000 by unfold ivD;omega)
  rw [show ((-300000000:Int):Rat)=-300000000 from rfl] at z0
  rw [show ((300000000:Int):Rat)=300000000 from rfl] at z1
  exact ⟨z0,z1⟩
 have C0:1<=A∨A<=-1:=by
  rcases sp with z|z
  . left
    have:=aJ (show 1<=(uC (bcL a0 a1 b0 b1) (bcH a0 a1 b0 b1)).1 from z)
    exact Rat.le_trans (by exact this) A1
  . right
    have:=aJ (show (uC (bcL a0 a1 b0 b1) (bcH a0 a1 b0 b1)).2<=-1 by omega)
    exact Rat.le_trans A2 (by exact this)
 have A0:A≠0:=by intro z;rw [z] at C0;exact absurd C0 (by decide +kernel)
 have eq:(E*M/A)*A=E*M:=Rat.div_mul_cancel A0;generalize E*M/A=q at *
 have F:=fq_holds (A:=E) (C:=A) (q:=q) (m:=M) ⟨E1,E2⟩ ⟨A1,A2⟩ (by rcases sp with z|z;exact .inl z;exact .inr z) cl' ⟨M0,M1⟩ eq
 have sa:=QH eq ⟨E3,E4⟩ ⟨A3,A4⟩ id MB DB t.2.1 C0;have ts:600000000*tau<1:=by unfold tau;decide +kernel
 constructor
 . exact qf (q:=q) (e:=600000000*tau) F.1 sa.1 ts
 . exact GX F.2 sa.2 ts
theorem MN {c d n:Int} (hc:5368000<=c) (cd:c<=d) (hn:-15400000<=n/\n<=15400000):qgO 1073741824 1073741824 c d n:=by
 have k:∀ z:Int,5368000<=z->-4000000000<=qFs 1073741824 n z/\qFs 1073741824 n z<=4000000000/\-4000000000<=qCs 1073741824 n z/\qCs 1073741824 n z<=4000000000:=by
  intro z hz;unfold qFs qCs qFl qCe;rw [if_neg (by omega),if_neg (by omega)]
  have a1:-4000000000<=1073741824*n/z:=(Int.le_ediv_iff_mul_le (by omega)).2 (by omega)
  have a2:1073741824*n/z<=4000000000:=Int.ediv_le_of_le_mul (by omega) (by omega)
  have b1:-4000000000<=-(1073741824*n)/z:=(Int.le_ediv_iff_mul_le (by omega)).2 (by omega)
  have b2:-(1073741824*n)/z<=4000000000:=Int.ediv_le_of_le_mul (by omega) (by omega)
  omega
 have k1:=k c hc;have k2:=k d (by omega)
 unfold qgO qgL qgH cK;simp only [Bool.and_eq_true,decide_eq_true_eq];omega
theorem Dh (a0 a1 b0 b1:Int) (h0:-5340000<=a0/\a0<=5340000) (h1:-10800000<=a1/\a1<10800000) (h2:-5340000<=b0/\b0<=5340000) :
 Gp a0 a1 (bcL a0 a1 b0 b1) (bcH a0 a1 b0 b1) (dsL a0 a1 b0 b1) (dsH a0 a1 b0 b1) /\
 (cB a0 (bcL a0 a1 b0 b1) (bcH a0 a1 b0 b1) (dsL a0 a1 b0 b1) (dsH a0 a1 b0 b1)->(jd a0 (bcL a0 a1 b0 b1) (bcH a0 a1 b0 b1) (dsL a0 a1 b0 b1) (dsH a0 a1 b0 b1)<=b0/\b0<=je a0 (bcL a0 a1 b0 b1) (bcH a0 a1 b0 b1) (dsL a0 a1 b0 b1) (dsH a0 a1 b0 b1)) /\
  iW a0 (bcL a0 a1 b0 b1) (bcH a0 a1 b0 b1) (dsL a0 a1 b0 b1) (dsH a0 a1 b0 b1)<=ivD a1 b1/\ivD a1 b1<=iY a0 (bcL a0 a1 b0 b1) (bcH a0 a1 b0 b1) (dsL a0 a1 b0 b1) (dsH a0 a1 b0 b1)) /\
 (¬ cB a0 (bcL a0 a1 b0 b1) (bcH a0 a1 b0 b1) (dsL a0 a1 b0 b1) (dsH a0 a1 b0 b1)->5339940<a0∨a0 < -5339940∨5339940<b0∨b0 < -5339940):=by
 obtain ⟨k,M,p,c,s,R⟩:=Mg a0 a1 b0 b1 h0 h2;have L:=lat_holds h0 h2 R;have F:=first_holds h0 h2 R;have Sc:=sec_holds h0 h2 R;have df:=kW a0 a1 b0 b1 h0 h2;have bb:=Aa (64*ivL a0 a1 b0 b1) (64*ivH a0 a1 b0 b1) (64*(b0-a0)) (64*(b0-a0));have BS:=GI (uS (bcL a0 a1 b0 b1) (bcH a0 a1 b0 b1)).1 (uS (bcL a0 a1 b0 b1) (bcH a0 a1 b0 b1)).2 (dsL a0 a1 b0 b1) (dsH a0 a1 b0 b1) (iX _ _) (by omega) (by omega)
 have av:kL (bcL a0 a1 b0 b1) (bcH a0 a1 b0 b1)=true:=by
  unfold kL bcL bcH;simp only [Bool.and_eq_true,decide_eq_true_eq];omega
 clear R
 have G:cB a0 (bcL a0 a1 b0 b1) (bcH a0 a1 b0 b1) (dsL a0 a1 b0 b1) (dsH a0 a1 b0 b1)->iW a0 (bcL a0 a1 b0 b1) (bcH a0 a1 b0 b1) (dsL a0 a1 b0 b1) (dsH a0 a1 b0 b1)<=ivD a1 b1/\ivD a1 b1<=iY a0 (bcL a0 a1 b0 b1) (bcH a0 a1 b0 b1) (dsL a0 a1 b0 b1) (dsH a0 a1 b0 b1):=fun nr=>by
  have f:=F nr;unfold iW iY
  by_cases ok:AJ a0 (bcL a0 a1 b0 b1) (bcH a0 a1 b0 b1) (dsL a0 a1 b0 b1) (dsH a0 a1 b0 b1)
  . rw [if_pos ok,if_pos ok];have s:=Sc nr ok.1;omega
  . rw [if_neg ok,if_neg ok];exact f.2
 refine ⟨⟨h0,h1,av,df.1,fun nr=>?_⟩,fun nr=>⟨⟨L.1,L.2.1⟩,G nr⟩,fun nn=>?_⟩
 . have f:=F nr;have cd:(rdQ a0 (bcL a0 a1 b0 b1) (bcH a0 a1 b0 b1) (dsL a0 a1 b0 b1) (dsH a0 a1 b0 b1)).1<=(rdQ a0 (bcL a0 a1 b0 b1) (bcH a0 a1 b0 b1) (dsL a0 a1 b0 b1) (dsH a0 a1 b0 b1)).2:=(iX _ _).2.1;have g:=G nr;refine ⟨by omega,MN f.1 cd ?_,MN f.1 cd ?_,by omega⟩
   . unfold tL;omega
   . unfold tN;omega
 . have B:=Ae a0 a1 b0 b1 h0 h2;have w:=Qr a0 a1 b0 b1 h0 h2;have dw:=IC (ivL a0 a1 b0 b1) (ivH a0 a1 b0 b1) (b0-a0) B.1 B.2.1 B.2.2 (by omega) (by rw [show max (b0-a0) (-(b0-a0))=max a0 b0-min a0 b0 by omega];exact w) (dsL a0 a1 b0 b1) (dsH a0 a1 b0 b1) df.1.1 df.1.2.1 rfl
   have e0:min (b0-a0) 0-59<=ldL (uC (bcL a0 a1 b0 b1) (bcH a0 a1 b0 b1)).1 (uC (bcL a0 a1 b0 b1) (bcH a0 a1 b0 b1)).2 (dsL a0 a1 b0 b1) (dsH a0 a1 b0 b1):=dw.1;have e1:ldH (uC (bcL a0 a1 b0 b1) (bcH a0 a1 b0 b1)).1 (uC (bcL a0 a1 b0 b1) (bcH a0 a1 b0 b1)).2 (dsL a0 a1 b0 b1) (dsH a0 a1 b0 b1)<=max (b0-a0) 0+59:=dw.2;clear dw w B F Sc G L BS;unfold cB jd je at nn;omega
