/- Plain integers: the directions of a part of a box lie within those of the box. -/
import Derived.Test.YtbcnifkfaknnaaaGreatZMir
import Derived.Test.YtbcnifkfaknnaaaGreatZUnit
set_option linter.unusedVariables false
set_option linter.unusedSimpArgs false
namespace Alm
theorem J5 {px py qx qy:Int} (np:¬ (px=0/\py=0)) (nq:¬ (qx=0/\qy=0)) (hc:0<=crs px py qx qy) (hpx:bU px) (hpy:bU py) (hqx:bU qx) (hqy:bU qy) :
 (qT qx qy=qT px py/\bQ px py<=bQ qx qy)∨(qT qx qy=qT px py+5400000∨qT qx qy=qT px py-16200000) ∨
 ((qT qx qy=qT px py+10800000∨qT qx qy=qT px py-10800000)/\bQ qx qy<=bQ px py/\qX px py*qY qx qy<=qY px py*qX qx qy):=by
 have dp:=iL px py np hpx hpy;have dq:=iL qx qy nq hqx hqy;have bp:=q_bd px py 2147483648 np hpx hpy;have bq:=q_bd qx qy 2147483648 nq hqx hqy
 have same:crs px py qx qy=qX px py*qY qx qy-qY px py*qX qx qy->bQ px py<=bQ qx qy:=fun e =>
  Ao ⟨bp.1,bp.2.1⟩ ⟨bp.2.2.1,bp.2.2.2⟩ ⟨bq.1,bq.2.1⟩ ⟨bq.2.2.1,bq.2.2.2⟩ (by
   have:qX qx qy*qY px py=qY px py*qX qx qy:=Int.mul_comm _ _;omega) dp dq
 have opp:crs px py qx qy=-(qX px py*qY qx qy-qY px py*qX qx qy)->bQ qx qy<=bQ px py/\qX px py*qY qx qy<=qY px py*qX qx qy:=fun e =>
  ⟨Ao ⟨bq.1,bq.2.1⟩ ⟨bq.2.2.1,bq.2.2.2⟩ ⟨bp.1,bp.2.1⟩ ⟨bp.2.2.1,bp.2.2.2⟩ (by
   have:qX qx qy*qY px py=qY px py*qX qx qy:=Int.mul_comm _ _;omega) dq dp,by omega⟩
 have turn:crs px py qx qy=-(qX px py*qX qx qy+qY px py*qY qx qy)->False:=fun e=>by
  have a:=Int.mul_pos bp.1 bq.1;have b:=Int.mul_nonneg bp.2.2.1 bq.2.2.1;omega
 have hp:=EW px py np;have hq:=EW qx qy nq;unfold crs at same turn opp;generalize qX px py=X at *
 generalize qY px py=Y at *
 generalize qX qx qy=U at *
 generalize qY qx qy=V at *
 generalize qT px py=s at *
 generalize qT qx qy=t at *
 generalize bQ px py=a at *
 generalize bQ qx qy=b at *
 clear dp dq hc hpx hpy hqx hqy np nq bp bq
 rcases hp with ⟨rfl,rfl,rfl⟩|⟨rfl,rfl,rfl⟩|⟨rfl,rfl,rfl⟩|⟨rfl,rfl,rfl⟩<;>rcases hq with ⟨rfl,rfl,rfl⟩|⟨rfl,rfl,rfl⟩|⟨rfl,rfl,rfl⟩|⟨rfl,rfl,rfl⟩ <;>
  first
  | exact .inl ⟨rfl,same (by grind)⟩
  | exact .inr (.inl (by omega))
  | exact .inr (.inr ⟨by omega,opp (by grind)⟩)
  | exact (turn (by grind)).elim
def gp (px py qx qy:Int):Int:=(aG qx qy-aG px py)%21600000
theorem Gf (x y:Int) (h:¬ (x=0/\y=0)) (hx:bU x) (hy:bU y):bQ x y<5400000:=(iL x y h hx hy).1
theorem Mj {px py qx qy:Int} (np:¬ (px=0/\py=0)) (nq:¬ (qx=0/\qy=0)) (hc:0<=crs px py qx qy) (hpx:bU px) (hpy:bU py) (hqx:bU qx) (hqy:bU qy) :
 0<=gp px py qx qy/\gp px py qx qy<=10800000/\(gp px py qx qy=10800000->(qT qx qy=qT px py+10800000∨qT qx qy=qT px py-10800000)/\qX px py*qY qx qy<=qY px py*qX qx qy):=by
 have c:=J5 np nq hc hpx hpy hqx hqy;have a:=Gf px py np hpx hpy;have b:=Gf qx qy nq hqx hqy;unfold gp aG;rcases c with ⟨h1,h2⟩|h|⟨h1,h2,h3⟩
 . refine ⟨by omega,by omega,fun e=>by omega⟩
 . refine ⟨by omega,by omega,fun e=>by omega⟩
 . refine ⟨by omega,by omega,fun e=>⟨h1,h3⟩⟩
theorem Um {px py qx qy:Int} (e:Bool):upE (aG px py) (aG qx qy) e=aG px py+gp px py qx qy+(if e then 0 else 1):=by
 have a:=jg px py;have b:=jg qx qy;unfold upE gp;cases e<;>simp only [Bool.false_eq_true,if_false,if_true]<;>split<;>omega
end Alm
namespace Go.Proofs.YtbcnifkfaknnaaaGreat
open Go.RowKit Alm Sx
theorem uk (m n:Int) (h0:-5400000<=m) (h:m<=n) (h1:n<=5400000):bLo m<=bLo n/\bHi m<=bHi n:=by
 rcases Int.lt_or_eq_of_le h with q|q
 . have a:=UB m n h0 q h1;have b:=jA n;have c:=jA m;exact ⟨by omega,by omega⟩
 . subst q;exact ⟨Int.le_refl _,Int.le_refl _⟩
theorem mY (m n:Int) (h:m%21600000=n%21600000):bLo m=bLo n/\bHi m=bHi n:=by
 have e:aj m=aj n:=h;unfold bLo bHi bu aI;rw [e];exact ⟨rfl,rfl⟩
theorem Md (n:Int) (h0:5400000<=n) (h1:n<=16200000):bLo n=bLo (10800000-n)/\bHi n=bHi (10800000-n):=by
 by_cases e:n=5400000
 . subst e;exact ⟨rfl,rfl⟩
 by_cases e2:n=16200000
 . subst e2;have:=mY 16200000 (-5400000) (by decide)
   exact this
 have f:aI n=aI (10800000-n)/\(bu n=bu (10800000-n)∨n=10800000):=by
  unfold aI bu aj;refine ⟨by simp only [];split<;>split<;>(try split)<;>(try split)<;>omega,?_⟩
  by_cases g:n=10800000
  . exact .inr g
  . left;rw [Bool.eq_iff_iff];simp only [decide_eq_true_eq];omega
 rcases f.2 with s|s
 . unfold bLo bHi;rw [f.1,s];exact ⟨rfl,rfl⟩
 . subst s;decide +kernel
theorem Wv (a x c:Int) (h0:-5400000<=a) (h1:a<=x) (h2:x<=c) (h3:c<=16200000):min (bLo a) (bLo c)<=bLo x:=by
 by_cases h:x<=5400000
 . have:=uk a x h0 h1 h;omega
 . have r1:=Md x (by omega) (by omega)
   have r2:=Md c (by omega) (by omega)
   have:=uk (10800000-c) (10800000-x) (by omega) (by omega) (by omega)
   omega
theorem ML (n:Int) (h0:-16200000<=n) (h1:n<=-5400000):bLo n=bLo (-10800000-n)/\bHi n=bHi (-10800000-n):=by
 have a:=mY n (n+21600000) (by omega)
 have b:=Md (n+21600000) (by omega) (by omega)
 rw [show 10800000-(n+21600000)=-10800000-n by omega] at b
 exact ⟨a.1.trans b.1,a.2.trans b.2⟩
theorem UN (a x c:Int) (h0:-16200000<=a) (h1:a<=x) (h2:x<=c) (h3:c<=5400000):bHi x<=max (bHi a) (bHi c):=by
 by_cases h:-5400000<=x
 . have:=uk x c h h2 h3;omega
 . have r1:=ML x (by omega) (by omega)
   have r2:=ML a (by omega) (by omega)
   have:=uk (-10800000-x) (-10800000-a) (by omega) (by omega) (by omega)
   omega
theorem Cf (l h x:Int) (h1:l<=x) (h2:x<=h) (m:bK l h 16200000=false):min (bLo l) (bLo h)<=bLo x:=by
 unfold bK aj at m;simp only [decide_eq_false_iff_not] at m;have e:=Int.emod_add_mul_ediv (l+5400000) 21600000;generalize (l+5400000)/21600000=k at e;have b:=Int.emod_nonneg (l+5400000) (show (21600000:Int)≠0 by decide)
 have b2:=Int.emod_lt_of_pos (l+5400000) (show (0:Int)<21600000 by decide)
 generalize (l+5400000)%21600000=a at *
 have p1:=(mY l (l-21600000*k) (by omega)).1
 have p2:=(mY h (h-21600000*k) (by omega)).1
 have p3:=(mY x (x-21600000*k) (by omega)).1
 rw [p1,p2,p3];exact Wv _ _ _ (by omega) (by omega) (by omega) (by omega)
theorem CZ (l h x:Int) (h1:l<=x) (h2:x<=h) (m:bK l h 5400000=false):bHi x<=max (bHi l) (bHi h):=by
 unfold bK aj at m;simp only [decide_eq_false_iff_not] at m;have e:=Int.emod_add_mul_ediv (l+16200000) 21600000;generalize (l+16200000)/21600000=k at e;have b:=Int.emod_nonneg (l+16200000) (show (21600000:Int)≠0 by decide)
 have b2:=Int.emod_lt_of_pos (l+16200000) (show (0:Int)<21600000 by decide)
 generalize (l+16200000)%21600000=a at *
 have p1:=(mY l (l-21600000*k) (by omega)).2
 have p2:=(mY h (h-21600000*k) (by omega)).2
 have p3:=(mY x (x-21600000*k) (by omega)).2
 rw [p1,p2,p3];exact UN _ _ _ (by omega) (by omega) (by omega) (by omega)
theorem wT (l h l' h' n:Int) (h1:l<=l') (h2:l'<=h') (h3:h'<=h) (m:bK l h n=false):bK l' h' n=false:=by
 unfold bK aj at *
 simp only [decide_eq_false_iff_not] at *
 omega
theorem uq (l h l' h':Int) (h1:l<=l') (h2:l'<=h') (h3:h'<=h):dF l h<=dF l' h'/\dH l' h'<=dH l h:=by
 have b:=iX l' h'
 constructor
 . cases m:bK l h 16200000
   . have m':=wT l h l' h' _ h1 h2 h3 m;have a:=Cf l h l' h1 (by omega) m
     have c:=Cf l h h' (by omega) h3 m
     unfold dF;rw [m,m'];simp only [Bool.false_eq_true,if_false];omega
   . have:dF l h=-1073741824:=by unfold dF;rw [m];rfl
     omega
 . cases m:bK l h 5400000
   . have m':=wT l h l' h' _ h1 h2 h3 m;have a:=CZ l h l' h1 (by omega) m
     have c:=CZ l h h' (by omega) h3 m
     unfold dH;rw [m,m'];simp only [Bool.false_eq_true,if_false];omega
   . have:dH l h=1073741824:=by unfold dH;rw [m];rfl
     omega
