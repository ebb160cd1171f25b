/- Plain: distances that need not be whole: which arcs hold them; arcsines of numbers that are only near. -/
import Derived.Test.YtmldbeipmappnaaZRd
set_option linter.unusedVariables false
set_option linter.unusedSimpArgs false
namespace Go.Proofs.Ytmldbeipmappnaa
open Alm Sx
def gap:Rat:=18/1000000000000000
theorem Bw:10*ee+gap<=19/1000000000000000/\0<gap:=by unfold ee gap;decide +kernel
theorem Cg (m n:Int) (h0:-5400000<=m) (h:m<n) (h1:n<=5400000):sg m+gap+8*ee<=sg n:=by
 have a:=Ei m h0 (by omega)
 have b:=Ei n (by omega) h1
 have c:=J8 m n h0 h h1;have e:=Bw;unfold Nr at a b;clear h h0 h1;grind
theorem tL (m n:Int) (h0:0<=m) (h:m<n) (h1:n<=10800000):cg n+gap<=cg m:=by
 have a:=(eG (m-5400000)).2;have b:=(eG (n-5400000)).2;rw [show m-5400000+5400000=m by omega] at a
 rw [show n-5400000+5400000=n by omega] at b
 have c:=Cg (m-5400000) (n-5400000) (by omega) (by omega) (by omega)
 have e:=bB;unfold Nr at a b;clear h h0 h1;grind
theorem D9 (m n:Int) (h0:0<=m) (h:m<=n) (h1:n<=10800000):cg n<=cg m:=by
 by_cases e:m=n
 . rw [e];exact Rat.le_refl
 . have:=tL m n h0 (by omega) h1
   have g:=Bw.2;grind
theorem EI {lo n:Int} (h0:-5400000<=n) (h1:n<=5400000) (h:(lo:Rat)*u30-gap<=sg n):fo lo<=n:=by
 refine Int.not_lt.1 fun hh=>?_
 unfold fo at hh;obtain ⟨a0,a1,a2,_⟩:=bW (max lo (-1073741824));generalize bC (max lo (-1073741824))=m at *
 have hb:bHi m<=max lo (-1073741824):=by rcases a2 with q|q<;>omega
 have hm:=yA (-5400000) m (by omega) (by omega) (by omega)
 rw [Nn] at hm;have hl:bHi m<=lo:=by omega
 have g:=Cg n m h0 (by omega) a1
 have s:=(tY m).2;have c:(bHi m:Rat)<=(lo:Rat):=Rat.intCast_le_intCast.2 hl;have u:=Rat.mul_le_mul_of_nonneg_right c (Rat.le_of_lt dQ);have e:=bB;clear hh a0 a1 a2 hb hm hl h0 h1 c;grind
theorem DR {hi n:Int} (h0:-5400000<=n) (h1:n<=5400000) (h:sg n<=(hi:Rat)*u30+gap):n<=eF hi:=by
 refine Int.not_lt.1 fun hh=>?_
 unfold eF at hh;obtain ⟨a0,a1,a2,_⟩:=bW (-(min hi 1073741824));generalize bC (-(min hi 1073741824))=m at *
 have hb:bHi m<=-(min hi 1073741824):=by rcases a2 with q|q<;>omega
 have hn:=(Si m).1;have g:=Cg (-m) n (by omega) (by omega) h1
 have s:=(tY (-m)).1;have o:=(g1 n).2.2;have e:=bB;have u1:=eB
 by_cases q:hi<=1073741824
 . have hl:hi<=bLo (-m):=by omega
   have c:(hi:Rat)<=(bLo (-m):Rat):=Rat.intCast_le_intCast.2 hl;have u:=Rat.mul_le_mul_of_nonneg_right c (Rat.le_of_lt dQ);clear hh a0 a1 a2 hb hn hl h0 h1 c q;grind
 . have hl:1073741824<=bLo (-m):=by omega
   have c:((1073741824:Int):Rat)<=(bLo (-m):Rat):=Rat.intCast_le_intCast.2 hl;have u:=Rat.mul_le_mul_of_nonneg_right c (Rat.le_of_lt dQ);have k:((1073741824:Int):Rat)=1073741824:=by decide +kernel
   rw [k,u1] at u;have gp:=Bw.2;clear hh a0 a1 a2 hb hn hl h0 h1 c q h;grind
def dsd:Rat:=1/100000000000000000000000000000000000000000000000000000000
def td:Rat:=1/100000000000000000000000000
theorem Js:100*dsd<=gap/\0<=dsd/\dsd<=1/10000/\100*(9*dsd)<=td*td/\400*ee<=dsd/\9*dsd<=td/\0<td/\0<dsd:=by unfold dsd ee td gap;decide +kernel
theorem vz {D r C S e t:Rat} (hr:0<=r) (hS:0<=S) (n:Nr (D*D+r*r) 1 e) (u:S*S+C*C=1) (h:Nr D C e) (he:0<=e) (he2:e<=1/100) (ht:0<=t) (et:100*e<=t*t) (c1:O1 C):Nr r S t:=by
 unfold Nr O1 at *
 have m1:=Rat.mul_nonneg (show 0<=e-(D-C) by grind) (show 0<=1-C by grind)
 have m2:=Rat.mul_nonneg (show 0<=e-(D-C) by grind) (show 0<=1+C by grind)
 have m3:=Rat.mul_nonneg (show 0<=e+(D-C) by grind) (show 0<=1-C by grind)
 have m4:=Rat.mul_nonneg (show 0<=e+(D-C) by grind) (show 0<=1+C by grind)
 have m5:=Rat.mul_nonneg (show 0<=e-(D-C) by grind) (show 0<=e+(D-C) by grind)
 have m6:=Rat.mul_nonneg he (show 0<=1/100-e by grind)
 have k1:D*D-C*C<=3*e:=by clear n u hr hS;grind
 have k2:-(3*e)<=D*D-C*C:=by have:=dh (D-C);clear n u hr hS k1;grind
 have q1:r*r-S*S<=10*e:=by clear m1 m2 m3 m4 m5 m6 h c1 et;grind
 have q2:S*S-r*r<=10*e:=by clear m1 m2 m3 m4 m5 m6 h c1 et;grind
 have rs:=Rat.mul_nonneg hr hS;clear m1 m2 m3 m4 m5 m6 n u h
 constructor
 . refine Rat.not_lt.1 fun k=>?_
   have x:=Rat.mul_pos (show 0<S-r-t by grind) (show 0<S-r+t by grind)
   have y:=Rat.mul_nonneg (show 0<=S-r by grind) hr
   grind
 . refine Rat.not_lt.1 fun k=>?_
   have x:=Rat.mul_pos (show 0<r-S-t by grind) (show 0<r-S+t by grind)
   have y:=Rat.mul_nonneg (show 0<=r-S by grind) hS
   grind
theorem Mt {D r:Rat} {L H:Int} (hr:0<=r) (n:Nr (D*D+r*r) 1 dsd) (hL:0<=L) (hH:H<=10800000) (hLH:L<=H) (h1:D-400*ee<=cg L) (h2:cg H<=D+400*ee):Onc L H D r td:=by
 obtain ⟨dk1,dk2,dk3,dk4,dk5,dk6,dk7,dk8⟩:=Js;have z0:sg 0=0/\cg 0=1:=by decide +kernel
 have zh:=iq 0;have ch:=jg 0;rw [show (0:Int)+10800000=10800000 by omega] at zh ch
 rw [z0.1] at zh;rw [z0.2] at ch
 obtain ⟨k,k0,k1,f1,f2⟩:=ivt (fun k=>cg k*r-sg k*D) 0 10800000 (by show 0<=cg 0*r-sg 0*D;rw [z0.1,z0.2];clear n h1 h2 zh ch z0;grind) (by
  rw [show (0:Int)+((10800000:Nat):Int)=10800000 from rfl]
  show cg 10800000*r-sg 10800000*D<=0;rw [zh,ch];clear n h1 h2 zh ch z0;grind) (by omega)
 have kh:k<10800000:=by omega
 clear z0 zh ch k1;have B:=Av k n dk2 (Rat.le_trans dk3 (by decide +kernel)) (Rat.le_refl (a:=8*dsd)) f1 f2
 have dn:=tL k (k+1) k0 (by omega) (by omega)
 have s0:=tZ k (by omega)
 have s1:=tZ (k+1) (by omega)
 have BD:cg (k+1)-8*dsd<=D/\D<=cg k+8*dsd:=by
  rcases B.2 with b|b
  . exfalso;clear B f1 f2 s0 s1 n h1 h2;grind
  . exact b
 by_cases cL:L<=k
 . by_cases cH:k+1<=H
   . exact ⟨k,k+1,by omega,by omega,B.1.le (by clear B f1 f2 s0 s1 n h1 h2;grind),B.2.le (by clear B f1 f2 s0 s1 n h1 h2;grind)⟩
   . have a:=D9 H k (by omega) (by omega) (by omega)
     have nd:Nr D (cg k) (9*dsd):=by unfold Nr;clear B f1 f2 s0 s1 n h1;constructor<;>grind
     have e:H=k:=by
      by_cases q:H=k
      . exact q
      . have g:=tL H k (by omega) (by omega) (by omega)
        exfalso;clear B f1 f2 s0 s1 n h1 nd a;grind
     have nr:=vz (t:=td) hr s0 (show Nr (D*D+r*r) 1 (9*dsd) from n.le (by clear n B;grind)) (bX k) nd (by clear n B;grind) (by clear n B nd BD;grind) (by clear n B;grind) dk4 (g1 k).1
     exact ⟨k,k,by omega,by omega,iC nr,(iC nd).le dk6⟩
 . have a:=D9 (k+1) L (by omega) (by omega) (by omega)
   have nd:Nr D (cg (k+1)) (9*dsd):=by unfold Nr;clear B f1 f2 s0 s1 n h2;constructor<;>grind
   have e:L=k+1:=by
    by_cases q:L=k+1
    . exact q
    . have g:=tL (k+1) L (by omega) (by omega) (by omega)
      exfalso;clear B f1 f2 s0 s1 n h2 nd a;grind
   have nr:=vz (t:=td) hr s1 (show Nr (D*D+r*r) 1 (9*dsd) from n.le (by clear n B;grind)) (bX (k+1)) nd (by clear n B;grind) (by clear n B nd BD;grind) (by clear n B;grind) dk4 (g1 (k+1)).1
   exact ⟨k+1,k+1,by omega,by omega,iC nr,(iC nd).le dk6⟩
theorem Qt {p q:IV} (hp:U p) (hq:U q) {x y e f:Rat} (hx:InE p.1 p.2 x e) (hy:InE q.1 q.2 y f):InE (uD p q).1 (uD p q).2 (x-y) (e+f):=by
 rw [(U_D hp hq).1];unfold InE at *
 simp only [Rat.intCast_sub]
 constructor<;>grind
theorem InE.le {L H:Int} {x e f:Rat} (h:InE L H x e) (k:e<=f):InE L H x f:=by
 unfold InE at *
 constructor<;>grind
theorem Qk {p q:IV} (hp:U p) (hq:U q) {x y e f:Rat} (hx:InE p.1 p.2 x e) (hy:InE q.1 q.2 y f) (he:0<=e) (hf:0<=f) (hf1:f<=1):InE (uM p q).1 (uM p q).2 (x*y) (2*e+f):=by
 obtain ⟨x',a1,a2,a3,a4⟩:=pQ (kS hp.2.1) hx.1 hx.2 he;obtain ⟨y',b1,b2,b3,b4⟩:=pQ (kS hq.2.1) hy.1 hy.2 hf;have o1:=wE ⟨hp.1,Int.le_trans hp.2.1 hp.2.2⟩;have o2:=wE ⟨Int.le_trans hp.1 hp.2.1,hp.2.2⟩;have o3:=wE ⟨hq.1,Int.le_trans hq.2.1 hq.2.2⟩;have o4:=wE ⟨Int.le_trans hq.1 hq.2.1,hq.2.2⟩;have xb:-1<=x'/\x'<=1:=⟨by clear hx hy b1 b2;grind,by clear hx hy b1 b2;grind⟩
 have yb:-1<=y'/\y'<=1:=⟨by clear hx hy a1 a2;grind,by clear hx hy a1 a2;grind⟩
 have P:=jC hp hq (x:=x') (y:=y') (e:=0) (f:=0) ⟨by clear hx hy;grind,by clear hx hy;grind⟩ ⟨by clear hx hy;grind,by clear hx hy;grind⟩ Rat.le_refl Rat.le_refl xb
 unfold InE at P ⊢
 clear hx hy o1 o2 o3 o4 a1 a2 b1 b2;have k1:=Rat.mul_nonneg (show 0<=e-(x-x') by grind) (show 0<=2-y by grind)
 have k2:=Rat.mul_nonneg (show 0<=e-(x-x') by grind) (show 0<=2+y by grind)
 have k3:=Rat.mul_nonneg (show 0<=e+(x-x') by grind) (show 0<=2-y by grind)
 have k4:=Rat.mul_nonneg (show 0<=e+(x-x') by grind) (show 0<=2+y by grind)
 have l1:=Rat.mul_nonneg (show 0<=f-(y-y') by grind) (show 0<=1-x' by grind)
 have l2:=Rat.mul_nonneg (show 0<=f-(y-y') by grind) (show 0<=1+x' by grind)
 have l3:=Rat.mul_nonneg (show 0<=f+(y-y') by grind) (show 0<=1-x' by grind)
 have l4:=Rat.mul_nonneg (show 0<=f+(y-y') by grind) (show 0<=1+x' by grind)
 have d1:(x-x')*y<=2*e:=by clear l1 l2 l3 l4 P;grind
 have d2:-(2*e)<=(x-x')*y:=by clear l1 l2 l3 l4 P d1;grind
 have d3:x'*(y-y')<=f:=by clear k1 k2 k3 k4 P d1 d2;grind
 have d4:-f<=x'*(y-y'):=by clear k1 k2 k3 k4 P d1 d2 d3;grind
 have z:x*y=x'*y'+(x-x')*y+x'*(y-y'):=by clear k1 k2 k3 k4 l1 l2 l3 l4 P d1 d2 d3 d4;grind
 rw [z];clear k1 k2 k3 k4 l1 l2 l3 l4 z
 constructor<;>grind
theorem IW (n:Int):InE (uS n n).1 (uS n n).2 (sg n) (2*ee):=EX n n n (.inl rfl)
theorem DZ (n:Int):InE (uC n n).1 (uC n n).2 (cg n) (2*ee):=kX n n n (.inl rfl)
def dtp (a c e:Int):Rat:=sg a*sg c+cg a*cg c*cg e
theorem I5 (a c e:Int):dtp a c e*dtp a c e+((cg a*sg c-sg a*cg c*cg e)*(cg a*sg c-sg a*cg c*cg e)+sg e*cg c*(sg e*cg c))=1:=by
 have u:=bX a;have v:=bX c;have w:=bX e;unfold dtp;generalize sg a=x at *
 generalize cg a=X at *
 generalize sg c=y at *
 generalize cg c=Y at *
 generalize sg e=z at *
 generalize cg e=Z at *
 have a1:X*X=1-x*x:=by grind
 have a2:z*z=1-Z*Z:=by grind
 have a3:Y*Y=1-y*y:=by grind
 have e1:(x*y+X*Y*Z)*(x*y+X*Y*Z)+((X*y-x*Y*Z)*(X*y-x*Y*Z)+z*Y*(z*Y))=(x*x+X*X)*(y*y)+(X*X+x*x)*(Y*Y)*(Z*Z)+z*z*(Y*Y):=by clear u v w a1 a2 a3;grind
 rw [e1,a1,a2,a3];clear u v w a1 a2 a3 e1;grind
