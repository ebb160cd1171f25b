/- Plain integers: the directions of a box that is mirrored. -/
import Derived.Test.YtmldbeipmappnaaZDirs
set_option linter.unusedVariables false
set_option linter.unusedSimpArgs false
namespace Alm
open Go.Proofs.Ytmldbeipmappnaa
theorem Bi {yl yh xl xh u v:Int} (H:∀ px py:Int,(px=xl∨px=xh)->(py=yl∨py=yh)->0<u*px+v*py) (k j:Nat) (hj:j<k) :
 0<=crs (cX xl xh j) (cY yl yh j) (aU xl xh yl yh k).1 (aU xl xh yl yh k).2:=by
 induction k with
 | zero=>omega
 | succ k ih =>
  have pi:=qU xl xh yl yh k;have ci:=NJ xl xh yl yh k;have cj:=NJ xl xh yl yh j;rw [show aU xl xh yl yh (k+1)=if oD (aU xl xh yl yh k).1 (aU xl xh yl yh k).2 (cX xl xh k) (cY yl yh k) then (cX xl xh k,cY yl yh k) else aU xl xh yl yh k from rfl]
  have hp:=H _ _ pi.1 pi.2;have hc:=H _ _ ci.1 ci.2;have hj':=H _ _ cj.1 cj.2;rw [Dj]
  by_cases h1:0<=crs (aU xl xh yl yh k).1 (aU xl xh yl yh k).2 (cX xl xh k) (cY yl yh k)
  . rw [if_pos (by simpa using h1)]
    by_cases e:j=k
    . subst e;have:=yE (cX xl xh j) (cY yl yh j);simp only [];omega
    . exact vE hj' hp hc (ih (by omega)) h1
  . rw [if_neg (by simpa using h1)]
    by_cases e:j=k
    . subst e;have:=Al (cX xl xh j) (cY yl yh j) (aU xl xh yl yh j).1 (aU xl xh yl yh j).2;omega
    . exact ih (by omega)
theorem wG (xl xh yl yh px py:Int) (h:px=xl∨px=xh) (k:py=yl∨py=yh):∃ j,j<4/\cX xl xh j=px/\cY yl yh j=py:=by
 rcases h with rfl|rfl<;>rcases k with rfl|rfl
 . exact ⟨0,by omega,by simp [cX],by simp [cY]⟩
 . exact ⟨1,by omega,by simp [cX],by simp [cY]⟩
 . exact ⟨2,by omega,by simp [cX],by simp [cY]⟩
 . exact ⟨3,by omega,by simp [cX],by simp [cY]⟩
abbrev gu (x:Int):Prop:=-2147483648<=x/\x<=2147483648
theorem Og {u v x y:Int} (h:0<u*x+v*y):¬ (x=0/\y=0):=by rintro ⟨rfl,rfl⟩;simp at h
end Alm
namespace Alm
theorem G9 {px py qx qy:Int} (np:¬ (px=0/\py=0)) (nq:¬ (qx=0/\qy=0)) (hc:0<=crs px py qx qy) (hpx:gu px) (hpy:gu py) (hqx:gu qx) (hqy:gu qy) :
 (qT qx qy=qT px py/\bF px py<=bF qx qy)∨(qT qx qy=qT px py+5400000∨qT qx qy=qT px py-16200000) ∨
 ((qT qx qy=qT px py+10800000∨qT qx qy=qT px py-10800000)/\bF qx qy<=bF px py/\qX px py*qY qx qy<=qY px py*qX qx qy):=by
 have dp:=ny px py np hpx hpy;have dq:=ny qx qy nq hqx hqy;have bp:=q_bd px py 2147483648 np hpx hpy;have bq:=q_bd qx qy 2147483648 nq hqx hqy
 have same:crs px py qx qy=qX px py*qY qx qy-qY px py*qX qx qy->bF px py<=bF qx qy:=fun e =>
  Jg ⟨bp.1,bp.2.1⟩ ⟨bp.2.2.1,bp.2.2.2⟩ ⟨bq.1,bq.2.1⟩ ⟨bq.2.2.1,bq.2.2.2⟩ (by
   have:qX qx qy*qY px py=qY px py*qX qx qy:=Int.mul_comm _ _;omega) dp dq
 have opp:crs px py qx qy=-(qX px py*qY qx qy-qY px py*qX qx qy)->bF qx qy<=bF px py/\qX px py*qY qx qy<=qY px py*qX qx qy:=fun e =>
  ⟨Jg ⟨bq.1,bq.2.1⟩ ⟨bq.2.2.1,bq.2.2.2⟩ ⟨bp.1,bp.2.1⟩ ⟨bp.2.2.1,bp.2.2.2⟩ (by
   have:qX qx qy*qY px py=qY px py*qX qx qy:=Int.mul_comm _ _;omega) dq dp,by omega⟩
 have turn:crs px py qx qy=-(qX px py*qX qx qy+qY px py*qY qx qy)->False:=fun e=>by
  have a:=Int.mul_pos bp.1 bq.1;have b:=Int.mul_nonneg bp.2.2.1 bq.2.2.1;omega
 have hp:=GX px py np;have hq:=GX qx qy nq;unfold crs at same turn opp;generalize qX px py=X at *
 generalize qY px py=Y at *
 generalize qX qx qy=U at *
 generalize qY qx qy=V at *
 generalize qT px py=s at *
 generalize qT qx qy=t at *
 generalize bF px py=a at *
 generalize bF qx qy=b at *
 clear dp dq hc hpx hpy hqx hqy np nq bp bq
 rcases hp with ⟨rfl,rfl,rfl⟩|⟨rfl,rfl,rfl⟩|⟨rfl,rfl,rfl⟩|⟨rfl,rfl,rfl⟩<;>rcases hq with ⟨rfl,rfl,rfl⟩|⟨rfl,rfl,rfl⟩|⟨rfl,rfl,rfl⟩|⟨rfl,rfl,rfl⟩ <;>
  first
  | exact .inl ⟨rfl,same (by grind)⟩
  | exact .inr (.inl (by omega))
  | exact .inr (.inr ⟨by omega,opp (by grind)⟩)
  | exact (turn (by grind)).elim
def gp (px py qx qy:Int):Int:=(aM qx qy-aM px py)%21600000
theorem DV (x y:Int) (h:¬ (x=0/\y=0)) (hx:gu x) (hy:gu y):bF x y<5400000:=(ny x y h hx hy).1
theorem OA {px py qx qy:Int} (np:¬ (px=0/\py=0)) (nq:¬ (qx=0/\qy=0)) (hc:0<=crs px py qx qy) (hpx:gu px) (hpy:gu py) (hqx:gu qx) (hqy:gu qy) :
 0<=gp px py qx qy/\gp px py qx qy<=10800000/\(gp px py qx qy=10800000->(qT qx qy=qT px py+10800000∨qT qx qy=qT px py-10800000)/\qX px py*qY qx qy<=qY px py*qX qx qy):=by
 have c:=G9 np nq hc hpx hpy hqx hqy;have a:=DV px py np hpx hpy;have b:=DV qx qy nq hqx hqy;unfold gp aM;rcases c with ⟨h1,h2⟩|h|⟨h1,h2,h3⟩
 . refine ⟨by omega,by omega,fun e=>by omega⟩
 . refine ⟨by omega,by omega,fun e=>by omega⟩
 . refine ⟨by omega,by omega,fun e=>⟨h1,h3⟩⟩
theorem O4 {px py qx qy:Int} (e:Bool):upE (aM px py) (aM qx qy) e=aM px py+gp px py qx qy+(if e then 0 else 1):=by
 have a:=kz px py;have b:=kz qx qy;unfold upE gp;cases e<;>simp only [Bool.false_eq_true,if_false,if_true]<;>split<;>omega
