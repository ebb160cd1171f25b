/- Plain integers: the directions of a part of a box lie within those of the box. -/
import Derived.Test.YtcfpmdndgbpfpaaZMir
import Derived.Test.YtcfpmdndgbpfpaaZUnit
set_option linter.unusedVariables false
set_option linter.unusedSimpArgs false
namespace Alm
end Alm
namespace Go.Proofs.Ytcfpmdndgbpfpaa
open Go.RowKit Alm Sx
theorem oV (m n:Int) (h0:-5400000<=m) (h:m<=n) (h1:n<=5400000):bLo m<=bLo n/\bHi m<=bHi n:=by
 rcases Int.lt_or_eq_of_le h with q|q
 . have a:=Ov m n h0 q h1;have b:=pV n;have c:=pV m;exact ⟨by omega,by omega⟩
 . subst q;exact ⟨Int.le_refl _,Int.le_refl _⟩
theorem kr (m n:Int) (h:m%21600000=n%21600000):bLo m=bLo n/\bHi m=bHi n:=by
 have e:ay m=ay n:=h;unfold bLo bHi dG aO;rw [e];exact ⟨rfl,rfl⟩
theorem Gs (n:Int) (h0:5400000<=n) (h1:n<=16200000):bLo n=bLo (10800000-n)/\bHi n=bHi (10800000-n):=by
 by_cases e:n=5400000
 . subst e;exact ⟨rfl,rfl⟩
 by_cases e2:n=16200000
 . subst e2;have:=kr 16200000 (-5400000) (by decide)
   exact this
 have f:aO n=aO (10800000-n)/\(dG n=dG (10800000-n)∨n=10800000):=by
  unfold aO dG ay;refine ⟨by simp only [];split<;>split<;>(try split)<;>(try split)<;>omega,?_⟩
  by_cases g:n=10800000
  . exact .inr g
  . left;rw [Bool.eq_iff_iff];simp only [decide_eq_true_eq];omega
 rcases f.2 with s|s
 . unfold bLo bHi;rw [f.1,s];exact ⟨rfl,rfl⟩
 . subst s;decide +kernel
theorem Sn (a x c:Int) (h0:-5400000<=a) (h1:a<=x) (h2:x<=c) (h3:c<=16200000):min (bLo a) (bLo c)<=bLo x:=by
 by_cases h:x<=5400000
 . have:=oV a x h0 h1 h;omega
 . have r1:=Gs x (by omega) (by omega)
   have r2:=Gs c (by omega) (by omega)
   have:=oV (10800000-c) (10800000-x) (by omega) (by omega) (by omega)
   omega
theorem Gf (n:Int) (h0:-16200000<=n) (h1:n<=-5400000):bLo n=bLo (-10800000-n)/\bHi n=bHi (-10800000-n):=by
 have a:=kr n (n+21600000) (by omega)
 have b:=Gs (n+21600000) (by omega) (by omega)
 rw [show 10800000-(n+21600000)=-10800000-n by omega] at b
 exact ⟨a.1.trans b.1,a.2.trans b.2⟩
theorem PN (a x c:Int) (h0:-16200000<=a) (h1:a<=x) (h2:x<=c) (h3:c<=5400000):bHi x<=max (bHi a) (bHi c):=by
 by_cases h:-5400000<=x
 . have:=oV x c h h2 h3;omega
 . have r1:=Gf x (by omega) (by omega)
   have r2:=Gf a (by omega) (by omega)
   have:=oV (-10800000-x) (-10800000-a) (by omega) (by omega) (by omega)
   omega
theorem xZ (l h x:Int) (h1:l<=x) (h2:x<=h) (m:bQ l h 16200000=false):min (bLo l) (bLo h)<=bLo x:=by
 unfold bQ ay at m;simp only [decide_eq_false_iff_not] at m;have e:=Int.emod_add_mul_ediv (l+5400000) 21600000;generalize (l+5400000)/21600000=k at e;have b:=Int.emod_nonneg (l+5400000) (show (21600000:Int)≠0 by decide)
 have b2:=Int.emod_lt_of_pos (l+5400000) (show (0:Int)<21600000 by decide)
 generalize (l+5400000)%21600000=a at *
 have p1:=(kr l (l-21600000*k) (by omega)).1
 have p2:=(kr h (h-21600000*k) (by omega)).1
 have p3:=(kr x (x-21600000*k) (by omega)).1
 rw [p1,p2,p3];exact Sn _ _ _ (by omega) (by omega) (by omega) (by omega)
theorem zA (l h x:Int) (h1:l<=x) (h2:x<=h) (m:bQ l h 5400000=false):bHi x<=max (bHi l) (bHi h):=by
 unfold bQ ay at m;simp only [decide_eq_false_iff_not] at m;have e:=Int.emod_add_mul_ediv (l+16200000) 21600000;generalize (l+16200000)/21600000=k at e;have b:=Int.emod_nonneg (l+16200000) (show (21600000:Int)≠0 by decide)
 have b2:=Int.emod_lt_of_pos (l+16200000) (show (0:Int)<21600000 by decide)
 generalize (l+16200000)%21600000=a at *
 have p1:=(kr l (l-21600000*k) (by omega)).2
 have p2:=(kr h (h-21600000*k) (by omega)).2
 have p3:=(kr x (x-21600000*k) (by omega)).2
 rw [p1,p2,p3];exact PN _ _ _ (by omega) (by omega) (by omega) (by omega)
theorem rJ (l h l' h' n:Int) (h1:l<=l') (h2:l'<=h') (h3:h'<=h) (m:bQ l h n=false):bQ l' h' n=false:=by
 unfold bQ ay at *
 simp only [decide_eq_false_iff_not] at *
 omega
theorem Lb (l h l' h':Int) (h1:l<=l') (h2:l'<=h') (h3:h'<=h):iA l h<=iA l' h'/\iW l' h'<=iW l h:=by
 have b:=Mk l' h'
 constructor
 . cases m:bQ l h 16200000
   . have m':=rJ l h l' h' _ h1 h2 h3 m;have a:=xZ l h l' h1 (by omega) m
     have c:=xZ l h h' (by omega) h3 m
     unfold iA;rw [m,m'];simp only [Bool.false_eq_true,if_false];omega
   . have:iA l h=-1073741824:=by unfold iA;rw [m];rfl
     omega
 . cases m:bQ l h 5400000
   . have m':=rJ l h l' h' _ h1 h2 h3 m;have a:=zA l h l' h1 (by omega) m
     have c:=zA l h h' (by omega) h3 m
     unfold iW;rw [m,m'];simp only [Bool.false_eq_true,if_false];omega
   . have:iW l h=1073741824:=by unfold iW;rw [m];rfl
     omega
