/- Plain integers: the directions of a part of a box lie within those of the box. -/
import Derived.Test.YtgmncdmcdgkodaaZMir
import Derived.Test.YtgmncdmcdgkodaaZUnMB
set_option linter.unusedVariables false
set_option linter.unusedSimpArgs false
namespace Alm
theorem Ee {px py qx qy:Int} (np:¬ (px=0/\py=0)) (nq:¬ (qx=0/\qy=0)) (hc:0<=crs px py qx qy) (hpx:fH px) (hpy:fH py) (hqx:fH qx) (hqy:fH qy) :
 (qT qx qy=qT px py/\bg px py<=bg qx qy)∨(qT qx qy=qT px py+5400000∨qT qx qy=qT px py-16200000) ∨
 ((qT qx qy=qT px py+10800000∨qT qx qy=qT px py-10800000)/\bg qx qy<=bg px py/\qX px py*qY qx qy<=qY px py*qX qx qy):=by
 have dp:=lY px py np hpx hpy;have dq:=lY qx qy nq hqx hqy;have bp:=q_bd px py 2147483648 np hpx hpy;have bq:=q_bd qx qy 2147483648 nq hqx hqy
 have same:crs px py qx qy=qX px py*qY qx qy-qY px py*qX qx qy->bg px py<=bg qx qy:=fun e =>
  GD ⟨bp.1,bp.2.1⟩ ⟨bp.2.2.1,bp.2.2.2⟩ ⟨bq.1,bq.2.1⟩ ⟨bq.2.2.1,bq.2.2.2⟩ (by
   have:qX qx qy*qY px py=qY px py*qX qx qy:=Int.mul_comm _ _;omega) dp dq
 have opp:crs px py qx qy=-(qX px py*qY qx qy-qY px py*qX qx qy)->bg qx qy<=bg px py/\qX px py*qY qx qy<=qY px py*qX qx qy:=fun e =>
  ⟨GD ⟨bq.1,bq.2.1⟩ ⟨bq.2.2.1,bq.2.2.2⟩ ⟨bp.1,bp.2.1⟩ ⟨bp.2.2.1,bp.2.2.2⟩ (by
   have:qX qx qy*qY px py=qY px py*qX qx qy:=Int.mul_comm _ _;omega) dq dp,by omega⟩
 have turn:crs px py qx qy=-(qX px py*qX qx qy+qY px py*qY qx qy)->False:=fun e=>by
  have a:=Int.mul_pos bp.1 bq.1;have b:=Int.mul_nonneg bp.2.2.1 bq.2.2.1;omega
 have hp:=EN px py np;have hq:=EN qx qy nq;unfold crs at same turn opp;generalize qX px py=X at *
 generalize qY px py=Y at *
 generalize qX qx qy=U at *
 generalize qY qx qy=V at *
 generalize qT px py=s at *
 generalize qT qx qy=t at *
 generalize bg px py=a at *
 generalize bg qx qy=b at *
 clear dp dq hc hpx hpy hqx hqy np nq bp bq
 rcases hp with ⟨rfl,rfl,rfl⟩|⟨rfl,rfl,rfl⟩|⟨rfl,rfl,rfl⟩|⟨rfl,rfl,rfl⟩<;>rcases hq with ⟨rfl,rfl,rfl⟩|⟨rfl,rfl,rfl⟩|⟨rfl,rfl,rfl⟩|⟨rfl,rfl,rfl⟩ <;>
  first
  | exact .inl ⟨rfl,same (by grind)⟩
  | exact .inr (.inl (by omega))
  | exact .inr (.inr ⟨by omega,opp (by grind)⟩)
  | exact (turn (by grind)).elim
def gp (px py qx qy:Int):Int:=(aI qx qy-aI px py)%21600000
theorem BM (x y:Int) (h:¬ (x=0/\y=0)) (hx:fH x) (hy:fH y):bg x y<5400000:=(lY x y h hx hy).1
theorem LA {px py qx qy:Int} (np:¬ (px=0/\py=0)) (nq:¬ (qx=0/\qy=0)) (hc:0<=crs px py qx qy) (hpx:fH px) (hpy:fH py) (hqx:fH qx) (hqy:fH qy) :
 0<=gp px py qx qy/\gp px py qx qy<=10800000/\(gp px py qx qy=10800000->(qT qx qy=qT px py+10800000∨qT qx qy=qT px py-10800000)/\qX px py*qY qx qy<=qY px py*qX qx qy):=by
 have c:=Ee np nq hc hpx hpy hqx hqy;have a:=BM px py np hpx hpy;have b:=BM qx qy nq hqx hqy;unfold gp aI;rcases c with ⟨h1,h2⟩|h|⟨h1,h2,h3⟩
 . refine ⟨by omega,by omega,fun e=>by omega⟩
 . refine ⟨by omega,by omega,fun e=>by omega⟩
 . refine ⟨by omega,by omega,fun e=>⟨h1,h3⟩⟩
theorem Mt {px py qx qy:Int} (e:Bool):upE (aI px py) (aI qx qy) e=aI px py+gp px py qx qy+(if e then 0 else 1):=by
 have a:=jK px py;have b:=jK qx qy;unfold upE gp;cases e<;>simp only [Bool.false_eq_true,if_false,if_true]<;>split<;>omega
end Alm
namespace Go.Proofs.Ytgmncdmcdgkodaa
open Go.RowKit Alm Sx
theorem ou (m n:Int) (h0:-5400000<=m) (h:m<=n) (h1:n<=5400000):bLo m<=bLo n/\bHi m<=bHi n:=by
 rcases Int.lt_or_eq_of_le h with q|q
 . have a:=Oo m n h0 q h1;have b:=jg n;have c:=jg m;exact ⟨by omega,by omega⟩
 . subst q;exact ⟨Int.le_refl _,Int.le_refl _⟩
theorem nR (m n:Int) (h:m%21600000=n%21600000):bLo m=bLo n/\bHi m=bHi n:=by
 have e:ai m=ai n:=h;unfold bLo bHi aY ax;rw [e];exact ⟨rfl,rfl⟩
theorem Gf (n:Int) (h0:5400000<=n) (h1:n<=16200000):bLo n=bLo (10800000-n)/\bHi n=bHi (10800000-n):=by
 by_cases e:n=5400000
 . subst e;exact ⟨rfl,rfl⟩
 by_cases e2:n=16200000
 . subst e2;have:=nR 16200000 (-5400000) (by decide)
   exact this
 have f:ax n=ax (10800000-n)/\(aY n=aY (10800000-n)∨n=10800000):=by
  unfold ax aY ai;refine ⟨by simp only [];split<;>split<;>(try split)<;>(try split)<;>omega,?_⟩
  by_cases g:n=10800000
  . exact .inr g
  . left;rw [Bool.eq_iff_iff];simp only [decide_eq_true_eq];omega
 rcases f.2 with s|s
 . unfold bLo bHi;rw [f.1,s];exact ⟨rfl,rfl⟩
 . subst s;decide +kernel
theorem SE (a x c:Int) (h0:-5400000<=a) (h1:a<=x) (h2:x<=c) (h3:c<=16200000):min (bLo a) (bLo c)<=bLo x:=by
 by_cases h:x<=5400000
 . have:=ou a x h0 h1 h;omega
 . have r1:=Gf x (by omega) (by omega)
   have r2:=Gf c (by omega) (by omega)
   have:=ou (10800000-c) (10800000-x) (by omega) (by omega) (by omega)
   omega
theorem Gq (n:Int) (h0:-16200000<=n) (h1:n<=-5400000):bLo n=bLo (-10800000-n)/\bHi n=bHi (-10800000-n):=by
 have a:=nR n (n+21600000) (by omega)
 have b:=Gf (n+21600000) (by omega) (by omega)
 rw [show 10800000-(n+21600000)=-10800000-n by omega] at b
 exact ⟨a.1.trans b.1,a.2.trans b.2⟩
theorem PQ (a x c:Int) (h0:-16200000<=a) (h1:a<=x) (h2:x<=c) (h3:c<=5400000):bHi x<=max (bHi a) (bHi c):=by
 by_cases h:-5400000<=x
 . have:=ou x c h h2 h3;omega
 . have r1:=Gq x (by omega) (by omega)
   have r2:=Gq a (by omega) (by omega)
   have:=ou (-10800000-x) (-10800000-a) (by omega) (by omega) (by omega)
   omega
theorem yH (l h x:Int) (h1:l<=x) (h2:x<=h) (m:dH l h 16200000=false):min (bLo l) (bLo h)<=bLo x:=by
 unfold dH ai at m;simp only [decide_eq_false_iff_not] at m;have e:=Int.emod_add_mul_ediv (l+5400000) 21600000;generalize (l+5400000)/21600000=k at e;have b:=Int.emod_nonneg (l+5400000) (show (21600000:Int)≠0 by decide)
 have b2:=Int.emod_lt_of_pos (l+5400000) (show (0:Int)<21600000 by decide)
 generalize (l+5400000)%21600000=a at *
 have p1:=(nR l (l-21600000*k) (by omega)).1
 have p2:=(nR h (h-21600000*k) (by omega)).1
 have p3:=(nR x (x-21600000*k) (by omega)).1
 rw [p1,p2,p3];exact SE _ _ _ (by omega) (by omega) (by omega) (by omega)
theorem xM (l h x:Int) (h1:l<=x) (h2:x<=h) (m:dH l h 5400000=false):bHi x<=max (bHi l) (bHi h):=by
 unfold dH ai at m;simp only [decide_eq_false_iff_not] at m;have e:=Int.emod_add_mul_ediv (l+16200000) 21600000;generalize (l+16200000)/21600000=k at e;have b:=Int.emod_nonneg (l+16200000) (show (21600000:Int)≠0 by decide)
 have b2:=Int.emod_lt_of_pos (l+16200000) (show (0:Int)<21600000 by decide)
 generalize (l+16200000)%21600000=a at *
 have p1:=(nR l (l-21600000*k) (by omega)).2
 have p2:=(nR h (h-21600000*k) (by omega)).2
 have p3:=(nR x (x-21600000*k) (by omega)).2
 rw [p1,p2,p3];exact PQ _ _ _ (by omega) (by omega) (by omega) (by omega)
theorem qG (l h l' h' n:Int) (h1:l<=l') (h2:l'<=h') (h3:h'<=h) (m:dH l h n=false):dH l' h' n=false:=by
 unfold dH ai at *
 simp only [decide_eq_false_iff_not] at *
 omega
theorem Kk (l h l' h':Int) (h1:l<=l') (h2:l'<=h') (h3:h'<=h):bv l h<=bv l' h'/\bz l' h'<=bz l h:=by
 have b:=wR l' h'
 constructor
 . cases m:dH l h 16200000
   . have m':=qG l h l' h' _ h1 h2 h3 m;have a:=yH l h l' h1 (by omega) m
     have c:=yH l h h' (by omega) h3 m
     unfold bv;rw [m,m'];simp only [Bool.false_eq_true,if_false];omega
   . have:bv l h=-1073741824:=by unfold bv;rw [m];rfl
     omega
 . cases m:dH l h 5400000
   . have m':=qG l h l' h' _ h1 h2 h3 m;have a:=xM l h l' h1 (by omega) m
     have c:=xM l h h' (by omega) h3 m
     unfold bz;rw [m,m'];simp only [Bool.false_eq_true,if_false];omega
   . have:bz l h=1073741824:=by unfold bz;rw [m];rfl
     omega
theorem BS {a b x y:Int} (h1:a<=x) (h2:x<=b):min (a*y) (b*y)<=x*y/\x*y<=max (a*y) (b*y):=by
 rcases Int.le_total 0 y with h|h
 . have p:=Int.mul_le_mul_of_nonneg_right h1 h;have q:=Int.mul_le_mul_of_nonneg_right h2 h;omega
 . have p:=Int.mul_le_mul_of_nonpos_right h1 h;have q:=Int.mul_le_mul_of_nonpos_right h2 h;omega
def Pt (q p:IV):Prop:=p.1<=q.1/\q.1<=q.2/\q.2<=p.2
theorem Qf {a b a' b':Int} (h:a<=a'/\a'<=b'/\b'<=b):Pt (uS a' b') (uS a b):=by
 have p:=Kk a b a' b' h.1 h.2.1 h.2.2;have q:=wR a' b'
 unfold Pt uS;simp only;omega
theorem TF {a b a' b':Int} (h:a<=a'/\a'<=b'/\b'<=b):Pt (uC a' b') (uC a b):=Qf (a:=a+5400000) (b:=b+5400000) (a':=a'+5400000) (b':=b'+5400000) (by omega)
