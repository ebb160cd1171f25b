/- Plain integers: parts of arguments lead to parts of results: sine and cosine, product, sum, difference, arcsine. -/
import Derived.Test.YtmldbeipmappnaaZUnMB
import Derived.Test.YtmldbeipmappnaaZBin
set_option linter.unusedVariables false
set_option linter.unusedSimpArgs false
namespace Go.Proofs.Ytmldbeipmappnaa
open Go.RowKit Alm Sx
theorem jB (m n:Int) (h0:-5400000<=m) (h:m<=n) (h1:n<=5400000):bLo m<=bLo n/\bHi m<=bHi n:=by
 rcases Int.lt_or_eq_of_le h with q|q
 . have a:=EJ m n h0 q h1;have b:=lQ n;have c:=lQ m;exact ⟨by omega,by omega⟩
 . subst q;exact ⟨Int.le_refl _,Int.le_refl _⟩
theorem kY (m n:Int) (h:m%21600000=n%21600000):bLo m=bLo n/\bHi m=bHi n:=by
 have e:av m=av n:=h;unfold bLo bHi bv aI;rw [e];exact ⟨rfl,rfl⟩
theorem yG (n:Int) (h0:5400000<=n) (h1:n<=16200000):bLo n=bLo (10800000-n)/\bHi n=bHi (10800000-n):=by
 by_cases e:n=5400000
 . subst e;exact ⟨rfl,rfl⟩
 by_cases e2:n=16200000
 . subst e2;have:=kY 16200000 (-5400000) (by decide)
   exact this
 have f:aI n=aI (10800000-n)/\(bv n=bv (10800000-n)∨n=10800000):=by
  unfold aI bv av;refine ⟨by simp only [];split<;>split<;>(try split)<;>(try split)<;>omega,?_⟩
  by_cases g:n=10800000
  . exact .inr g
  . left;rw [Bool.eq_iff_iff];simp only [decide_eq_true_eq];omega
 rcases f.2 with s|s
 . unfold bLo bHi;rw [f.1,s];exact ⟨rfl,rfl⟩
 . subst s;decide +kernel
theorem adG (a x c:Int) (h0:-5400000<=a) (h1:a<=x) (h2:x<=c) (h3:c<=16200000):min (bLo a) (bLo c)<=bLo x:=by
 by_cases h:x<=5400000
 . have:=jB a x h0 h1 h;omega
 . have r1:=yG x (by omega) (by omega)
   have r2:=yG c (by omega) (by omega)
   have:=jB (10800000-c) (10800000-x) (by omega) (by omega) (by omega)
   omega
theorem EI (n:Int) (h0:-16200000<=n) (h1:n<=-5400000):bLo n=bLo (-10800000-n)/\bHi n=bHi (-10800000-n):=by
 have a:=kY n (n+21600000) (by omega)
 have b:=yG (n+21600000) (by omega) (by omega)
 rw [show 10800000-(n+21600000)=-10800000-n by omega] at b
 exact ⟨a.1.trans b.1,a.2.trans b.2⟩
theorem aaP (a x c:Int) (h0:-16200000<=a) (h1:a<=x) (h2:x<=c) (h3:c<=5400000):bHi x<=max (bHi a) (bHi c):=by
 by_cases h:-5400000<=x
 . have:=jB x c h h2 h3;omega
 . have r1:=EI x (by omega) (by omega)
   have r2:=EI a (by omega) (by omega)
   have:=jB (-10800000-x) (-10800000-a) (by omega) (by omega) (by omega)
   omega
theorem Cs (l h x:Int) (h1:l<=x) (h2:x<=h) (m:bV l h 16200000=false):min (bLo l) (bLo h)<=bLo x:=by
 unfold bV av at m;simp only [decide_eq_false_iff_not] at m;have e:=Int.emod_add_mul_ediv (l+5400000) 21600000;generalize (l+5400000)/21600000=k at e;have b:=Int.emod_nonneg (l+5400000) (show (21600000:Int)≠0 by decide)
 have b2:=Int.emod_lt_of_pos (l+5400000) (show (0:Int)<21600000 by decide)
 generalize (l+5400000)%21600000=a at *
 have p1:=(kY l (l-21600000*k) (by omega)).1
 have p2:=(kY h (h-21600000*k) (by omega)).1
 have p3:=(kY x (x-21600000*k) (by omega)).1
 rw [p1,p2,p3];exact adG _ _ _ (by omega) (by omega) (by omega) (by omega)
theorem Co (l h x:Int) (h1:l<=x) (h2:x<=h) (m:bV l h 5400000=false):bHi x<=max (bHi l) (bHi h):=by
 unfold bV av at m;simp only [decide_eq_false_iff_not] at m;have e:=Int.emod_add_mul_ediv (l+16200000) 21600000;generalize (l+16200000)/21600000=k at e;have b:=Int.emod_nonneg (l+16200000) (show (21600000:Int)≠0 by decide)
 have b2:=Int.emod_lt_of_pos (l+16200000) (show (0:Int)<21600000 by decide)
 generalize (l+16200000)%21600000=a at *
 have p1:=(kY l (l-21600000*k) (by omega)).2
 have p2:=(kY h (h-21600000*k) (by omega)).2
 have p3:=(kY x (x-21600000*k) (by omega)).2
 rw [p1,p2,p3];exact aaP _ _ _ (by omega) (by omega) (by omega) (by omega)
theorem vW (l h l' h' n:Int) (h1:l<=l') (h2:l'<=h') (h3:h'<=h) (m:bV l h n=false):bV l' h' n=false:=by
 unfold bV av at *
 simp only [decide_eq_false_iff_not] at *
 omega
theorem AV (l h l' h':Int) (h1:l<=l') (h2:l'<=h') (h3:h'<=h):bU l h<=bU l' h'/\bW l' h'<=bW l h:=by
 have b:=oQ l' h'
 constructor
 . cases m:bV l h 16200000
   . have m':=vW l h l' h' _ h1 h2 h3 m;have a:=Cs l h l' h1 (by omega) m
     have c:=Cs l h h' (by omega) h3 m
     unfold bU;rw [m,m'];simp only [Bool.false_eq_true,if_false];omega
   . have:bU l h=-1073741824:=by unfold bU;rw [m];rfl
     omega
 . cases m:bV l h 5400000
   . have m':=vW l h l' h' _ h1 h2 h3 m;have a:=Co l h l' h1 (by omega) m
     have c:=Co l h h' (by omega) h3 m
     unfold bW;rw [m,m'];simp only [Bool.false_eq_true,if_false];omega
   . have:bW l h=1073741824:=by unfold bW;rw [m];rfl
     omega
theorem Gq {a b x y:Int} (h1:a<=x) (h2:x<=b):min (a*y) (b*y)<=x*y/\x*y<=max (a*y) (b*y):=by
 rcases Int.le_total 0 y with h|h
 . have p:=Int.mul_le_mul_of_nonneg_right h1 h;have q:=Int.mul_le_mul_of_nonneg_right h2 h;omega
 . have p:=Int.mul_le_mul_of_nonpos_right h1 h;have q:=Int.mul_le_mul_of_nonpos_right h2 h;omega
theorem pq {a b c d x y:Int} (h1:a<=x) (h2:x<=b) (h3:c<=y) (h4:y<=d):mn4 a b c d<=x*y/\x*y<=mx4 a b c d:=by
 have p:=Gq (y:=y) h1 h2;have q:=Gq (y:=a) h3 h4;have r:=Gq (y:=b) h3 h4;rw [Int.mul_comm c a,Int.mul_comm d a,Int.mul_comm y a] at q;rw [Int.mul_comm c b,Int.mul_comm d b,Int.mul_comm y b] at r;unfold mn4 mx4;omega
theorem afh {a b c d a' b' c' d':Int} (h1:a<=a'/\a'<=b'/\b'<=b) (h2:c<=c'/\c'<=d'/\d'<=d):mn4 a b c d<=mn4 a' b' c' d'/\mx4 a' b' c' d'<=mx4 a b c d:=by
 have p1:=pq (a:=a) (b:=b) (c:=c) (d:=d) (x:=a') (y:=c') (by omega) (by omega) (by omega) (by omega)
 have p2:=pq (a:=a) (b:=b) (c:=c) (d:=d) (x:=a') (y:=d') (by omega) (by omega) (by omega) (by omega)
 have p3:=pq (a:=a) (b:=b) (c:=c) (d:=d) (x:=b') (y:=c') (by omega) (by omega) (by omega) (by omega)
 have p4:=pq (a:=a) (b:=b) (c:=c) (d:=d) (x:=b') (y:=d') (by omega) (by omega) (by omega) (by omega)
 have e1:mn4 a' b' c' d'=min (min (min (a'*c') (a'*d')) (b'*c')) (b'*d'):=rfl;have e2:mx4 a' b' c' d'=max (max (max (a'*c') (a'*d')) (b'*c')) (b'*d'):=rfl;omega
theorem afr {a b c d a' b' c' d':Int} (h1:a<=a'/\a'<=b'/\b'<=b) (h2:c<=c'/\c'<=d'/\d'<=d):iH a b c d<=iH a' b' c' d'/\ja a' b' c' d'<=ja a b c d:=by
 have p:=afh h1 h2;unfold iH ja;omega
def Pt (q p:IV):Prop:=p.1<=q.1/\q.1<=q.2/\q.2<=p.2
theorem acj {a b a' b':Int} (h:a<=a'/\a'<=b'/\b'<=b):Pt (uS a' b') (uS a b):=by
 have p:=AV a b a' b' h.1 h.2.1 h.2.2;have q:=oQ a' b'
 unfold Pt uS;simp only;omega
theorem ae6 {a b a' b':Int} (h:a<=a'/\a'<=b'/\b'<=b):Pt (uC a' b') (uC a b):=acj (a:=a+5400000) (b:=b+5400000) (a':=a'+5400000) (b':=b'+5400000) (by omega)
theorem agK {p q p' q':IV} (up:U p) (uq:U q) (up':U p') (uq':U q') (hp:Pt p' p) (hq:Pt q' q):Pt (uM p' q') (uM p q):=by
 have a:=afr hp hq;have b:=Qa p'.1 p'.2 q'.1 q'.2;rw [(U_M up uq).1,(U_M up' uq').1];exact ⟨a.1,b,a.2⟩
theorem ahZ {p q p' q':IV} (up:U p) (uq:U q) (up':U p') (uq':U q') (hp:Pt p' p) (hq:Pt q' q):Pt (uA p' q') (uA p q):=by
 rw [(U_A up uq).1,(U_A up' uq').1];unfold Pt at *
 simp only;omega
