/- A part of a motion and of a current has its motion made good within that of the whole. -/
import Derived.Test.YtpcfajiiijndiaaZCur2
import Derived.Test.YtpcfajiiijndiaaZInc
set_option linter.unusedVariables false
set_option linter.unusedSimpArgs false
namespace Go.Proofs.Ytpcfajiiijndiaa
open Alm Sx
theorem qL {p q p' q' l h n:Int} (h1:p<=p'/\p'<=q'/\q'<=q) (h0:0<=l) (h2:l<=n/\n<=h) :
 mnV (fo p q l) (fo p q h)<=fo p' q' n/\fu p' q' n<=mxV (fu p q l) (fu p q h):=by
 have a1:=mO (a:=l) (b:=h) (x:=n) (y:=p) h2.1 h2.2;have a2:=mO (a:=l) (b:=h) (x:=n) (y:=q) h2.1 h2.2;have m:∀ {x y k:Int},x<=y->0<=k->x*k<=y*k:=fun h k=>Int.mul_le_mul_of_nonneg_right h k
 have b1:=m h1.1 (show 0<=n by omega)
 have b2:=m h1.2.1 (show 0<=n by omega)
 have b3:=m h1.2.2 (show 0<=n by omega)
 have pq:p<=q:=by omega
 have c1:=m pq h0;have c2:=m pq (show 0<=h by omega)
 rw [Int.mul_comm l p,Int.mul_comm h p,Int.mul_comm n p] at a1;rw [Int.mul_comm l q,Int.mul_comm h q,Int.mul_comm n q] at a2;unfold fo fu mnV mxV qFl qCe;generalize p*l=x1 at *
 generalize p*h=x2 at *
 generalize p*n=x3 at *
 generalize q*l=x4 at *
 generalize q*h=x5 at *
 generalize q*n=x6 at *
 generalize p'*n=x7 at *
 generalize q'*n=x8 at *
 constructor
 . split<;>omega
 . split<;>omega
theorem Et {x y z w:Int} (h1:w<=x) (h2:w<=y):w<=mnV x y:=by unfold mnV;split<;>omega
theorem D5 {x y w:Int} (h1:x<=w) (h2:y<=w):mxV x y<=w:=by unfold mxV;split<;>omega
theorem D7 {a b l h a' b' l' h':Int} (h1:a<=a'/\a'<=b'/\b'<=b) (h0:0<=l) (h2:l<=l'/\l'<=h'/\h'<=h) :
 ((paV a b l h).getD 0 0<=(paV a' b' l' h').getD 0 0/\(paV a' b' l' h').getD 1 0<=(paV a b l h).getD 1 0)/\((paV a b l h).getD 2 0<=(paV a' b' l' h').getD 2 0/\(paV a' b' l' h').getD 3 0<=(paV a b l h).getD 3 0):=by
 have c:=zf h1;have s:=Bj h1;unfold Pt uC at c;unfold Pt uS at s;simp only at c s;have c1:=qL c h0 (h:=h) (n:=l') ⟨h2.1,by omega⟩
 have c2:=qL c h0 (h:=h) (n:=h') ⟨by omega,h2.2.2⟩
 have s1:=qL s h0 (h:=h) (n:=l') ⟨h2.1,by omega⟩
 have s2:=qL s h0 (h:=h) (n:=h') ⟨by omega,h2.2.2⟩
 have e:∀ a b l h:Int,(paV a b l h).getD 0 0=mnV (fo (bM (a+5400000) (b+5400000)) (bP (a+5400000) (b+5400000)) l) (fo (bM (a+5400000) (b+5400000)) (bP (a+5400000) (b+5400000)) h)/\(paV a b l h).getD 1 0=mxV (fu (bM (a+5400000) (b+5400000)) (bP (a+5400000) (b+5400000)) l) (fu (bM (a+5400000) (b+5400000)) (bP (a+5400000) (b+5400000)) h)/\(paV a b l h).getD 2 0=mnV (fo (bM a b) (bP a b) l) (fo (bM a b) (bP a b) h)/\(paV a b l h).getD 3 0=mxV (fu (bM a b) (bP a b) l) (fu (bM a b) (bP a b) h):=fun a b l h=>⟨rfl,rfl,rfl,rfl⟩
 rw [(e a b l h).1,(e a b l h).2.1,(e a b l h).2.2.1,(e a b l h).2.2.2,(e a' b' l' h').1,(e a' b' l' h').2.1,(e a' b' l' h').2.2.1,(e a' b' l' h').2.2.2];exact ⟨⟨Et (z:=0) c1.1 c2.1,D5 c1.2 c2.2⟩,⟨Et (z:=0) s1.1 s2.1,D5 s1.2 s2.2⟩⟩
theorem G7 {n k:Int} (h0:0<=n) (h:n<=k) (h1:k<=2305843009213693952):rtV n<=rtV k:=by
 obtain ⟨a0,a1,_⟩:=lM n h0 (by omega)
 obtain ⟨b0,_,b2⟩:=lM k (by omega) h1
 refine Int.not_lt.1 fun hh=>?_
 have:=Int.mul_le_mul (show rtV k+1<=rtV n by omega) (show rtV k+1<=rtV n by omega) (by omega) a0
 omega
theorem JE (n:Int) (h0:0<=n) (h1:n<=2305843009213693952):0<=rtU n/\n<=rtU n*rtU n/\(0<rtU n->(rtU n-1)*(rtU n-1)<n):=by
 obtain ⟨a0,a1,a2⟩:=lM n h0 h1;unfold rtU
 by_cases h:rtV n*rtV n<n
 . rw [if_pos h];refine ⟨by omega,by omega,fun _=>?_⟩
   rw [show rtV n+1-1=rtV n by omega];exact h
 . rw [if_neg h];refine ⟨a0,by omega,fun p=>?_⟩
   have:(rtV n-1)*(rtV n-1)=rtV n*rtV n-2*rtV n+1:=by grind
   omega
theorem RI {n k:Int} (h0:0<=n) (h:n<=k) (h1:k<=2305843009213693952):rtU n<=rtU k:=by
 obtain ⟨a0,a1,a2⟩:=JE n h0 (by omega)
 obtain ⟨b0,b1,_⟩:=JE k (by omega) h1
 refine Int.not_lt.1 fun hh=>?_
 have:=Int.mul_le_mul (show rtU k<=rtU n-1 by omega) (show rtU k<=rtU n-1 by omega) b0 (by omega)
 have:=a2 (by omega)
 omega
theorem wD {a b:Int} (h0:0<=a) (h:a<=b):a*a<=b*b:=Int.mul_le_mul h h h0 (by omega)
theorem K8 {a b c d a' b' c' d':Int} (h1:a<=a'/\a'<=b'/\b'<=b) (h2:c<=c'/\c'<=d'/\d'<=d) (b1:-400000<=a/\b<=400000) (b2:-400000<=c/\d<=400000) :
 Wth ((coV a' b' c' d').getD 0 0) ((coV a' b' c' d').getD 1 0) ((coV a b c d).getD 0 0) ((coV a b c d).getD 1 0)/\(coV a b c d).getD 2 0<=(coV a' b' c' d').getD 2 0/\(coV a' b' c' d').getD 3 0<=(coV a b c d).getD 3 0:=by
 refine ⟨ww ⟨by omega,by omega,by omega⟩ ⟨by omega,by omega,by omega⟩ ⟨by omega,by omega⟩ ⟨by omega,by omega⟩,?_,?_⟩
 . have x:0<=cZ a b/\cZ a b<=cZ a' b'/\cZ a' b'<=400000:=by unfold cZ;omega
   have y:0<=cZ c d/\cZ c d<=cZ c' d'/\cZ c' d'<=400000:=by unfold cZ;omega
   have x1:=wD x.1 x.2.1;have y1:=wD y.1 y.2.1;have x2:=kV (show 0<=cZ a' b' by omega) x.2.2
   have y2:=kV (show 0<=cZ c' d' by omega) y.2.2
   have x3:=kV x.1 (by omega)
   have y3:=kV y.1 (by omega)
   exact G7 (by omega) (by omega) (by omega)
 . have x:0<=di a' b'/\di a' b'<=di a b/\di a b<=400000:=by unfold di;omega
   have y:0<=di c' d'/\di c' d'<=di c d/\di c d<=400000:=by unfold di;omega
   have x1:=wD x.1 x.2.1;have y1:=wD y.1 y.2.1;have x2:=kV (show 0<=di a b by omega) x.2.2
   have y2:=kV (show 0<=di c d by omega) y.2.2
   have x3:=kV x.1 (by omega)
   have y3:=kV y.1 (by omega)
   exact RI (by omega) (by omega) (by omega)
theorem Es {a b c d:Int} (b1:-400000<=a/\a<=b/\b<=400000) (b2:-400000<=c/\c<=d/\d<=400000) :
 (0<=(coV a b c d).getD 0 0/\(coV a b c d).getD 0 0<=21599999/\(coV a b c d).getD 0 0<=(coV a b c d).getD 1 0/\(coV a b c d).getD 1 0<=(coV a b c d).getD 0 0+21600000)/\((coV a b c d).getD 1 0-(coV a b c d).getD 0 0>=21600000->(coV a b c d).getD 0 0=0)/\0<=(coV a b c d).getD 2 0/\(coV a b c d).getD 2 0<=(coV a b c d).getD 3 0:=by
 refine ⟨Cy _ _ _ _,fun h=>?_,?_⟩
 . have h':bK (4096*c) (4096*d) (4096*a) (4096*b)-bf (4096*c) (4096*d) (4096*a) (4096*b)>=21600000:=h;show bf (4096*c) (4096*d) (4096*a) (4096*b)=0;cases ho:dY (4096*c) (4096*d) (4096*a) (4096*b)
   . have:=wm (yl:=4096*c) (yh:=4096*d) (xl:=4096*a) (xh:=4096*b) (by omega) (by omega) ⟨by omega,by omega⟩ ⟨by omega,by omega⟩ ho
     omega
   . unfold bf;rw [ho];rfl
 . have x:0<=cZ a b/\cZ a b<=di a b/\di a b<=400000:=by unfold cZ di;omega
   have y:0<=cZ c d/\cZ c d<=di c d/\di c d<=400000:=by unfold cZ di;omega
   have x1:=wD x.1 x.2.1;have y1:=wD y.1 y.2.1;have x2:=kV (show 0<=di a b by omega) x.2.2
   have y2:=kV (show 0<=di c d by omega) y.2.2
   have x3:=kV x.1 (by omega)
   have y3:=kV y.1 (by omega)
   have r:=G7 (n:=cZ a b*cZ a b+cZ c d*cZ c d) (k:=di a b*di a b+di c d*di c d) (by omega) (by omega) (by omega)
   have u:=lM (cZ a b*cZ a b+cZ c d*cZ c d) (by omega) (by omega)
   refine ⟨u.1,Int.le_trans r ?_⟩;show _<=rtU _;unfold rtU;split<;>omega
theorem Ev {a b c d:Int} (h:MV a b c d):(-200000<=(paV a b c d).getD 0 0/\(paV a b c d).getD 0 0<=(paV a b c d).getD 1 0/\(paV a b c d).getD 1 0<=200000)/\(-200000<=(paV a b c d).getD 2 0/\(paV a b c d).getD 2 0<=(paV a b c d).getD 3 0/\(paV a b c d).getD 3 0<=200000):=by
 have t:=zJ (a:=a) (b:=b) h.2.1 h.2.2.1;have:=h.2.2.2;omega
theorem Oo {s:List Int} (h:0<=s.getD 2 0/\s.getD 2 0<=s.getD 3 0/\s.getD 3 0<=200000):(jnV s).getD 0 0=s.getD 0 0/\(jnV s).getD 1 0=s.getD 1 0/\(jnV s).getD 2 0=s.getD 2 0/\(jnV s).getD 3 0=s.getD 3 0/\(jnV s).getD 4 0=0:=by
 unfold jnV;rw [if_pos h];exact xP _ _ _ _ _
theorem LH {a b c d e f g h a' b' c' d' e' f' g' h':Int} (hM:MV a b c d) (hD:MV e f g h) (h1:a<=a'/\a'<=b'/\b'<=b) (h2:c<=c'/\c'<=d'/\d'<=d) (h3:e<=e'/\e'<=f'/\f'<=f) (h4:g<=g'/\g'<=h'/\h'<=h) :
 (mgV a b c d e f g h).getD 4 0=5∨((mgV a b c d e f g h).getD 4 0=0/\(mgV a' b' c' d' e' f' g' h').getD 4 0=0 /\
  (mgV a b c d e f g h).getD 2 0<=(mgV a' b' c' d' e' f' g' h').getD 2 0/\(mgV a' b' c' d' e' f' g' h').getD 3 0<=(mgV a b c d e f g h).getD 3 0 /\
  Wth ((mgV a' b' c' d' e' f' g' h').getD 0 0) ((mgV a' b' c' d' e' f' g' h').getD 1 0) ((mgV a b c d e f g h).getD 0 0) ((mgV a b c d e f g h).getD 1 0) /\
  (0<=(mgV a b c d e f g h).getD 0 0/\(mgV a b c d e f g h).getD 0 0<=21599999/\(mgV a b c d e f g h).getD 0 0<=(mgV a b c d e f g h).getD 1 0/\(mgV a b c d e f g h).getD 1 0<=(mgV a b c d e f g h).getD 0 0+21600000) /\
  ((mgV a b c d e f g h).getD 1 0-(mgV a b c d e f g h).getD 0 0>=21600000->(mgV a b c d e f g h).getD 0 0=0) /\
  (0<=(mgV a' b' c' d' e' f' g' h').getD 0 0/\(mgV a' b' c' d' e' f' g' h').getD 0 0<=21599999/\(mgV a' b' c' d' e' f' g' h').getD 0 0<=(mgV a' b' c' d' e' f' g' h').getD 1 0/\(mgV a' b' c' d' e' f' g' h').getD 1 0<=(mgV a' b' c' d' e' f' g' h').getD 0 0+21600000)/\((mgV a' b' c' d' e' f' g' h').getD 1 0-(mgV a' b' c' d' e' f' g' h').getD 0 0>=21600000->(mgV a' b' c' d' e' f' g' h').getD 0 0=0)):=by
 have hM':MV a' b' c' d':=⟨(bu _ _).2 (by have:=(bu _ _).1 hM.1;omega),by have:=hM.2;omega⟩
 have hD':MV e' f' g' h':=⟨(bu _ _).2 (by have:=(bu _ _).1 hD.1;omega),by have:=hD.2;omega⟩
 have W:mgV a b c d e f g h=jnV (coS (paV a b c d) (paV e f g h)):=if_pos ⟨hM,hD⟩;have P:mgV a' b' c' d' e' f' g' h'=jnV (coS (paV a' b' c' d') (paV e' f' g' h')):=if_pos ⟨hM',hD'⟩;rw [W,P];have m1:=D7 h1 hM.2.1 h2;have m2:=D7 h3 hD.2.1 h4;have i1:=Ev hM;have i2:=Ev hD;have i3:=Ev hM'
 have i4:=Ev hD'
 have F:=Es (a:=(paV a b c d).getD 0 0+(paV e f g h).getD 0 0) (b:=(paV a b c d).getD 1 0+(paV e f g h).getD 1 0) (c:=(paV a b c d).getD 2 0+(paV e f g h).getD 2 0) (d:=(paV a b c d).getD 3 0+(paV e f g h).getD 3 0) (by omega) (by omega)
 have F':=Es (a:=(paV a' b' c' d').getD 0 0+(paV e' f' g' h').getD 0 0) (b:=(paV a' b' c' d').getD 1 0+(paV e' f' g' h').getD 1 0) (c:=(paV a' b' c' d').getD 2 0+(paV e' f' g' h').getD 2 0) (d:=(paV a' b' c' d').getD 3 0+(paV e' f' g' h').getD 3 0) (by omega) (by omega)
 have C:=K8 (a:=(paV a b c d).getD 0 0+(paV e f g h).getD 0 0) (b:=(paV a b c d).getD 1 0+(paV e f g h).getD 1 0) (c:=(paV a b c d).getD 2 0+(paV e f g h).getD 2 0) (d:=(paV a b c d).getD 3 0+(paV e f g h).getD 3 0) (a':=(paV a' b' c' d').getD 0 0+(paV e' f' g' h').getD 0 0) (b':=(paV a' b' c' d').getD 1 0+(paV e' f' g' h').getD 1 0) (c':=(paV a' b' c' d').getD 2 0+(paV e' f' g' h').getD 2 0) (d':=(paV a' b' c' d').getD 3 0+(paV e' f' g' h').getD 3 0) (by omega) (by omega) (by omega) (by omega)
 clear W P m1 m2 i1 i2 i3 i4;have S:coS (paV a b c d) (paV e f g h)=coV ((paV a b c d).getD 0 0+(paV e f g h).getD 0 0) ((paV a b c d).getD 1 0+(paV e f g h).getD 1 0) ((paV a b c d).getD 2 0+(paV e f g h).getD 2 0) ((paV a b c d).getD 3 0+(paV e f g h).getD 3 0):=rfl;have S':coS (paV a' b' c' d') (paV e' f' g' h')=coV ((paV a' b' c' d').getD 0 0+(paV e' f' g' h').getD 0 0) ((paV a' b' c' d').getD 1 0+(paV e' f' g' h').getD 1 0) ((paV a' b' c' d').getD 2 0+(paV e' f' g' h').getD 2 0) ((paV a' b' c' d').getD 3 0+(paV e' f' g' h').getD 3 0):=rfl;rw [<-S] at F C;rw [<-S'] at F' C;generalize coS (paV a b c d) (paV e f g h)=s at *
 generalize coS (paV a' b' c' d') (paV e' f' g' h')=t at *
 clear S S'
 by_cases q:s.getD 3 0<=200000
 . right
   have j:=Oo (s:=s) ⟨F.2.2.1,F.2.2.2,q⟩;have k:=Oo (s:=t) ⟨F'.2.2.1,F'.2.2.2,by omega⟩
   rw [j.1,j.2.1,j.2.2.1,j.2.2.2.1,j.2.2.2.2,k.1,k.2.1,k.2.2.1,k.2.2.2.1,k.2.2.2.2];exact ⟨rfl,rfl,C.2.1,C.2.2,C.1,F.1,F.2.1,F'.1,F'.2.1⟩
 . left
   unfold jnV;rw [if_neg (by omega)]
   rfl
