/- Plain integers: parts of arguments lead to parts of results: sine and cosine, product, sum, difference, arcsine. -/
import Derived.Test.YtgmncdmcdgkodaaZUnMB
import Derived.Test.YtgmncdmcdgkodaaZBin
set_option linter.unusedVariables false
set_option linter.unusedSimpArgs false
namespace Go.Proofs.Ytgmncdmcdgkodaa
open Go.RowKit Alm Sx
theorem Dw (m n:Int) (h0:-5400000<=m) (h:m<=n) (h1:n<=5400000):bLo m<=bLo n/\bHi m<=bHi n:=by
 rcases Int.lt_or_eq_of_le h with q|q
 . have a:=Um m n h0 q h1;have b:=mW n;have c:=mW m;exact ⟨by omega,by omega⟩
 . subst q;exact ⟨Int.le_refl _,Int.le_refl _⟩
theorem Hz (m n:Int) (h:m%21600000=n%21600000):bLo m=bLo n/\bHi m=bHi n:=by
 have e:aJ m=aJ n:=h;unfold bLo bHi ja aV;rw [e];exact ⟨rfl,rfl⟩
theorem Rq (n:Int) (h0:5400000<=n) (h1:n<=16200000):bLo n=bLo (10800000-n)/\bHi n=bHi (10800000-n):=by
 by_cases e:n=5400000
 . subst e;exact ⟨rfl,rfl⟩
 by_cases e2:n=16200000
 . subst e2;have:=Hz 16200000 (-5400000) (by decide)
   exact this
 have f:aV n=aV (10800000-n)/\(ja n=ja (10800000-n)∨n=10800000):=by
  unfold aV ja aJ;refine ⟨by simp only [];split<;>split<;>(try split)<;>(try split)<;>omega,?_⟩
  by_cases g:n=10800000
  . exact .inr g
  . left;rw [Bool.eq_iff_iff];simp only [decide_eq_true_eq];omega
 rcases f.2 with s|s
 . unfold bLo bHi;rw [f.1,s];exact ⟨rfl,rfl⟩
 . subst s;decide +kernel
theorem Vg (a x c:Int) (h0:-5400000<=a) (h1:a<=x) (h2:x<=c) (h3:c<=16200000):min (bLo a) (bLo c)<=bLo x:=by
 by_cases h:x<=5400000
 . have:=Dw a x h0 h1 h;omega
 . have r1:=Rq x (by omega) (by omega)
   have r2:=Rq c (by omega) (by omega)
   have:=Dw (10800000-c) (10800000-x) (by omega) (by omega) (by omega)
   omega
theorem RF (n:Int) (h0:-16200000<=n) (h1:n<=-5400000):bLo n=bLo (-10800000-n)/\bHi n=bHi (-10800000-n):=by
 have a:=Hz n (n+21600000) (by omega)
 have b:=Rq (n+21600000) (by omega) (by omega)
 rw [show 10800000-(n+21600000)=-10800000-n by omega] at b
 exact ⟨a.1.trans b.1,a.2.trans b.2⟩
theorem Uj (a x c:Int) (h0:-16200000<=a) (h1:a<=x) (h2:x<=c) (h3:c<=5400000):bHi x<=max (bHi a) (bHi c):=by
 by_cases h:-5400000<=x
 . have:=Dw x c h h2 h3;omega
 . have r1:=RF x (by omega) (by omega)
   have r2:=RF a (by omega) (by omega)
   have:=Dw (-10800000-x) (-10800000-a) (by omega) (by omega) (by omega)
   omega
theorem QJ (l h x:Int) (h1:l<=x) (h2:x<=h) (m:fV l h 16200000=false):min (bLo l) (bLo h)<=bLo x:=by
 unfold fV aJ at m;simp only [decide_eq_false_iff_not] at m;have e:=Int.emod_add_mul_ediv (l+5400000) 21600000;generalize (l+5400000)/21600000=k at e;have b:=Int.emod_nonneg (l+5400000) (show (21600000:Int)≠0 by decide)
 have b2:=Int.emod_lt_of_pos (l+5400000) (show (0:Int)<21600000 by decide)
 generalize (l+5400000)%21600000=a at *
 have p1:=(Hz l (l-21600000*k) (by omega)).1
 have p2:=(Hz h (h-21600000*k) (by omega)).1
 have p3:=(Hz x (x-21600000*k) (by omega)).1
 rw [p1,p2,p3];exact Vg _ _ _ (by omega) (by omega) (by omega) (by omega)
theorem QL (l h x:Int) (h1:l<=x) (h2:x<=h) (m:fV l h 5400000=false):bHi x<=max (bHi l) (bHi h):=by
 unfold fV aJ at m;simp only [decide_eq_false_iff_not] at m;have e:=Int.emod_add_mul_ediv (l+16200000) 21600000;generalize (l+16200000)/21600000=k at e;have b:=Int.emod_nonneg (l+16200000) (show (21600000:Int)≠0 by decide)
 have b2:=Int.emod_lt_of_pos (l+16200000) (show (0:Int)<21600000 by decide)
 generalize (l+16200000)%21600000=a at *
 have p1:=(Hz l (l-21600000*k) (by omega)).2
 have p2:=(Hz h (h-21600000*k) (by omega)).2
 have p3:=(Hz x (x-21600000*k) (by omega)).2
 rw [p1,p2,p3];exact Uj _ _ _ (by omega) (by omega) (by omega) (by omega)
theorem F6 (l h l' h' n:Int) (h1:l<=l') (h2:l'<=h') (h3:h'<=h) (m:fV l h n=false):fV l' h' n=false:=by
 unfold fV aJ at *
 simp only [decide_eq_false_iff_not] at *
 omega
theorem RY (l h l' h':Int) (h1:l<=l') (h2:l'<=h') (h3:h'<=h):fI l h<=fI l' h'/\fK l' h'<=fK l h:=by
 have b:=Dq l' h'
 constructor
 . cases m:fV l h 16200000
   . have m':=F6 l h l' h' _ h1 h2 h3 m;have a:=QJ l h l' h1 (by omega) m
     have c:=QJ l h h' (by omega) h3 m
     unfold fI;rw [m,m'];simp only [Bool.false_eq_true,if_false];omega
   . have:fI l h=-1073741824:=by unfold fI;rw [m];rfl
     omega
 . cases m:fV l h 5400000
   . have m':=F6 l h l' h' _ h1 h2 h3 m;have a:=QL l h l' h1 (by omega) m
     have c:=QL l h h' (by omega) h3 m
     unfold fK;rw [m,m'];simp only [Bool.false_eq_true,if_false];omega
   . have:fK l h=1073741824:=by unfold fK;rw [m];rfl
     omega
theorem QF {a b x y:Int} (h1:a<=x) (h2:x<=b):min (a*y) (b*y)<=x*y/\x*y<=max (a*y) (b*y):=by
 rcases Int.le_total 0 y with h|h
 . have p:=Int.mul_le_mul_of_nonneg_right h1 h;have q:=Int.mul_le_mul_of_nonneg_right h2 h;omega
 . have p:=Int.mul_le_mul_of_nonpos_right h1 h;have q:=Int.mul_le_mul_of_nonpos_right h2 h;omega
theorem QE {a b c d x y:Int} (h1:a<=x) (h2:x<=b) (h3:c<=y) (h4:y<=d):mn4 a b c d<=x*y/\x*y<=mx4 a b c d:=by
 have p:=QF (y:=y) h1 h2;have q:=QF (y:=a) h3 h4;have r:=QF (y:=b) h3 h4;rw [Int.mul_comm c a,Int.mul_comm d a,Int.mul_comm y a] at q;rw [Int.mul_comm c b,Int.mul_comm d b,Int.mul_comm y b] at r;unfold mn4 mx4;omega
theorem RQ {a b c d a' b' c' d':Int} (h1:a<=a'/\a'<=b'/\b'<=b) (h2:c<=c'/\c'<=d'/\d'<=d):mn4 a b c d<=mn4 a' b' c' d'/\mx4 a' b' c' d'<=mx4 a b c d:=by
 have p1:=QE (a:=a) (b:=b) (c:=c) (d:=d) (x:=a') (y:=c') (by omega) (by omega) (by omega) (by omega)
 have p2:=QE (a:=a) (b:=b) (c:=c) (d:=d) (x:=a') (y:=d') (by omega) (by omega) (by omega) (by omega)
 have p3:=QE (a:=a) (b:=b) (c:=c) (d:=d) (x:=b') (y:=c') (by omega) (by omega) (by omega) (by omega)
 have p4:=QE (a:=a) (b:=b) (c:=c) (d:=d) (x:=b') (y:=d') (by omega) (by omega) (by omega) (by omega)
 have e1:mn4 a' b' c' d'=min (min (min (a'*c') (a'*d')) (b'*c')) (b'*d'):=rfl;have e2:mx4 a' b' c' d'=max (max (max (a'*c') (a'*d')) (b'*c')) (b'*d'):=rfl;omega
theorem QM {a b c d a' b' c' d':Int} (h1:a<=a'/\a'<=b'/\b'<=b) (h2:c<=c'/\c'<=d'/\d'<=d):dV a b c d<=dV a' b' c' d'/\dW a' b' c' d'<=dW a b c d:=by
 have p:=RQ h1 h2;unfold dV dW;omega
def VH (q p:IV):Prop:=p.1<=q.1/\q.1<=q.2/\q.2<=p.2
theorem Tc {a b a' b':Int} (h:a<=a'/\a'<=b'/\b'<=b):VH (uS a' b') (uS a b):=by
 have p:=RY a b a' b' h.1 h.2.1 h.2.2;have q:=Dq a' b'
 unfold VH uS;simp only;omega
theorem Sq {a b a' b':Int} (h:a<=a'/\a'<=b'/\b'<=b):VH (uC a' b') (uC a b):=Tc (a:=a+5400000) (b:=b+5400000) (a':=a'+5400000) (b':=b'+5400000) (by omega)
theorem QK {p q p' q':IV} (up:U p) (uq:U q) (up':U p') (uq':U q') (hp:VH p' p) (hq:VH q' q):VH (uM p' q') (uM p q):=by
 have a:=QM hp hq;have b:=Gt p'.1 p'.2 q'.1 q'.2;rw [(U_M up uq).1,(U_M up' uq').1];exact ⟨a.1,b,a.2⟩
theorem VG {p q p' q':IV} (up:U p) (uq:U q) (up':U p') (uq':U q') (hp:VH p' p) (hq:VH q' q):VH (uA p' q') (uA p q):=by
 rw [(U_A up uq).1,(U_A up' uq').1];unfold VH at *
 simp only;omega
theorem VD {p q p' q':IV} (up:U p) (uq:U q) (up':U p') (uq':U q') (hp:VH p' p) (hq:VH q' q):VH (uD p' q') (uD p q):=by
 rw [(U_D up uq).1,(U_D up' uq').1];unfold VH at *
 simp only;omega
