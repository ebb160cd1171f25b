/- Plain integers: parts of arguments lead to parts of results: sine and cosine, product, sum, difference, arcsine. -/
import Derived.Test.YtmldbeipmappnaaZUnMB
import Derived.Test.YtmldbeipmappnaaZMir
set_option linter.unusedVariables false
set_option linter.unusedSimpArgs false
namespace Go.Proofs.Ytmldbeipmappnaa
open Go.RowKit Alm Sx
theorem qP (m n:Int) (h0:-5400000<=m) (h:m<=n) (h1:n<=5400000):bLo m<=bLo n/\bHi m<=bHi n:=by
 rcases Int.lt_or_eq_of_le h with q|q
 . have a:=yA m n h0 q h1;have b:=jY n;have c:=jY m;exact ⟨by omega,by omega⟩
 . subst q;exact ⟨Int.le_refl _,Int.le_refl _⟩
theorem qj (m n:Int) (h:m%21600000=n%21600000):bLo m=bLo n/\bHi m=bHi n:=by
 have e:ak m=ak n:=h;unfold bLo bHi aR aD;rw [e];exact ⟨rfl,rfl⟩
theorem JX (n:Int) (h0:5400000<=n) (h1:n<=16200000):bLo n=bLo (10800000-n)/\bHi n=bHi (10800000-n):=by
 by_cases e:n=5400000
 . subst e;exact ⟨rfl,rfl⟩
 by_cases e2:n=16200000
 . subst e2;have:=qj 16200000 (-5400000) (by decide)
   exact this
 have f:aD n=aD (10800000-n)/\(aR n=aR (10800000-n)∨n=10800000):=by
  unfold aD aR ak;refine ⟨by simp only [];split<;>split<;>(try split)<;>(try split)<;>omega,?_⟩
  by_cases g:n=10800000
  . exact .inr g
  . left;rw [Bool.eq_iff_iff];simp only [decide_eq_true_eq];omega
 rcases f.2 with s|s
 . unfold bLo bHi;rw [f.1,s];exact ⟨rfl,rfl⟩
 . subst s;decide +kernel
theorem Vm (a x c:Int) (h0:-5400000<=a) (h1:a<=x) (h2:x<=c) (h3:c<=16200000):min (bLo a) (bLo c)<=bLo x:=by
 by_cases h:x<=5400000
 . have:=qP a x h0 h1 h;omega
 . have r1:=JX x (by omega) (by omega)
   have r2:=JX c (by omega) (by omega)
   have:=qP (10800000-c) (10800000-x) (by omega) (by omega) (by omega)
   omega
theorem IA (n:Int) (h0:-16200000<=n) (h1:n<=-5400000):bLo n=bLo (-10800000-n)/\bHi n=bHi (-10800000-n):=by
 have a:=qj n (n+21600000) (by omega)
 have b:=JX (n+21600000) (by omega) (by omega)
 rw [show 10800000-(n+21600000)=-10800000-n by omega] at b
 exact ⟨a.1.trans b.1,a.2.trans b.2⟩
theorem Pw (a x c:Int) (h0:-16200000<=a) (h1:a<=x) (h2:x<=c) (h3:c<=5400000):bHi x<=max (bHi a) (bHi c):=by
 by_cases h:-5400000<=x
 . have:=qP x c h h2 h3;omega
 . have r1:=IA x (by omega) (by omega)
   have r2:=IA a (by omega) (by omega)
   have:=qP (-10800000-x) (-10800000-a) (by omega) (by omega) (by omega)
   omega
theorem Ac (l h x:Int) (h1:l<=x) (h2:x<=h) (m:bI l h 16200000=false):min (bLo l) (bLo h)<=bLo x:=by
 unfold bI ak at m;simp only [decide_eq_false_iff_not] at m;have e:=Int.emod_add_mul_ediv (l+5400000) 21600000;generalize (l+5400000)/21600000=k at e;have b:=Int.emod_nonneg (l+5400000) (show (21600000:Int)≠0 by decide)
 have b2:=Int.emod_lt_of_pos (l+5400000) (show (0:Int)<21600000 by decide)
 generalize (l+5400000)%21600000=a at *
 have p1:=(qj l (l-21600000*k) (by omega)).1
 have p2:=(qj h (h-21600000*k) (by omega)).1
 have p3:=(qj x (x-21600000*k) (by omega)).1
 rw [p1,p2,p3];exact Vm _ _ _ (by omega) (by omega) (by omega) (by omega)
theorem zK (l h x:Int) (h1:l<=x) (h2:x<=h) (m:bI l h 5400000=false):bHi x<=max (bHi l) (bHi h):=by
 unfold bI ak at m;simp only [decide_eq_false_iff_not] at m;have e:=Int.emod_add_mul_ediv (l+16200000) 21600000;generalize (l+16200000)/21600000=k at e;have b:=Int.emod_nonneg (l+16200000) (show (21600000:Int)≠0 by decide)
 have b2:=Int.emod_lt_of_pos (l+16200000) (show (0:Int)<21600000 by decide)
 generalize (l+16200000)%21600000=a at *
 have p1:=(qj l (l-21600000*k) (by omega)).2
 have p2:=(qj h (h-21600000*k) (by omega)).2
 have p3:=(qj x (x-21600000*k) (by omega)).2
 rw [p1,p2,p3];exact Pw _ _ _ (by omega) (by omega) (by omega) (by omega)
theorem uJ (l h l' h' n:Int) (h1:l<=l') (h2:l'<=h') (h3:h'<=h) (m:bI l h n=false):bI l' h' n=false:=by
 unfold bI ak at *
 simp only [decide_eq_false_iff_not] at *
 omega
theorem Dl (l h l' h':Int) (h1:l<=l') (h2:l'<=h') (h3:h'<=h):dJ l h<=dJ l' h'/\dN l' h'<=dN l h:=by
 have b:=za l' h'
 constructor
 . cases m:bI l h 16200000
   . have m':=uJ l h l' h' _ h1 h2 h3 m;have a:=Ac l h l' h1 (by omega) m
     have c:=Ac l h h' (by omega) h3 m
     unfold dJ;rw [m,m'];simp only [Bool.false_eq_true,if_false];omega
   . have:dJ l h=-1073741824:=by unfold dJ;rw [m];rfl
     omega
 . cases m:bI l h 5400000
   . have m':=uJ l h l' h' _ h1 h2 h3 m;have a:=zK l h l' h1 (by omega) m
     have c:=zK l h h' (by omega) h3 m
     unfold dN;rw [m,m'];simp only [Bool.false_eq_true,if_false];omega
   . have:dN l h=1073741824:=by unfold dN;rw [m];rfl
     omega
theorem xH {a b x y:Int} (h1:a<=x) (h2:x<=b):min (a*y) (b*y)<=x*y/\x*y<=max (a*y) (b*y):=by
 rcases Int.le_total 0 y with h|h
 . have p:=Int.mul_le_mul_of_nonneg_right h1 h;have q:=Int.mul_le_mul_of_nonneg_right h2 h;omega
 . have p:=Int.mul_le_mul_of_nonpos_right h1 h;have q:=Int.mul_le_mul_of_nonpos_right h2 h;omega
theorem Ib {a b c d x y:Int} (h1:a<=x) (h2:x<=b) (h3:c<=y) (h4:y<=d):mn4 a b c d<=x*y/\x*y<=mx4 a b c d:=by
 have p:=xH (y:=y) h1 h2;have q:=xH (y:=a) h3 h4;have r:=xH (y:=b) h3 h4;rw [Int.mul_comm c a,Int.mul_comm d a,Int.mul_comm y a] at q;rw [Int.mul_comm c b,Int.mul_comm d b,Int.mul_comm y b] at r;unfold mn4 mx4;omega
