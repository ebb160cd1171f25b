/- Plain integers: the directions of a part of a box lie within those of the box. -/
import Derived.Test.YtmldbeipmappnaaZMir
set_option linter.unusedVariables false
set_option linter.unusedSimpArgs false
namespace Alm
theorem J9 {px py qx qy:Int} (np:¬ (px=0/\py=0)) (nq:¬ (qx=0/\qy=0)) (hc:0<=crs px py qx qy) (hpx:iF px) (hpy:iF py) (hqx:iF qx) (hqy:iF qy) :
 (qT qx qy=qT px py/\bZ px py<=bZ qx qy)∨(qT qx qy=qT px py+5400000∨qT qx qy=qT px py-16200000) ∨
 ((qT qx qy=qT px py+10800000∨qT qx qy=qT px py-10800000)/\bZ qx qy<=bZ px py/\qX px py*qY qx qy<=qY px py*qX qx qy):=by
 have dp:=mW px py np hpx hpy;have dq:=mW qx qy nq hqx hqy;have bp:=ahX px py 2147483648 np hpx hpy;have bq:=ahX qx qy 2147483648 nq hqx hqy
 have same:crs px py qx qy=qX px py*qY qx qy-qY px py*qX qx qy->bZ px py<=bZ qx qy:=fun e =>
  Po ⟨bp.1,bp.2.1⟩ ⟨bp.2.2.1,bp.2.2.2⟩ ⟨bq.1,bq.2.1⟩ ⟨bq.2.2.1,bq.2.2.2⟩ (by
   have:qX qx qy*qY px py=qY px py*qX qx qy:=Int.mul_comm _ _;omega) dp dq
 have opp:crs px py qx qy=-(qX px py*qY qx qy-qY px py*qX qx qy)->bZ qx qy<=bZ px py/\qX px py*qY qx qy<=qY px py*qX qx qy:=fun e =>
  ⟨Po ⟨bq.1,bq.2.1⟩ ⟨bq.2.2.1,bq.2.2.2⟩ ⟨bp.1,bp.2.1⟩ ⟨bp.2.2.1,bp.2.2.2⟩ (by
   have:qX qx qy*qY px py=qY px py*qX qx qy:=Int.mul_comm _ _;omega) dq dp,by omega⟩
 have turn:crs px py qx qy=-(qX px py*qX qx qy+qY px py*qY qx qy)->False:=fun e=>by
  have a:=Int.mul_pos bp.1 bq.1;have b:=Int.mul_nonneg bp.2.2.1 bq.2.2.1;omega
 have hp:=JB px py np;have hq:=JB qx qy nq;unfold crs at same turn opp;generalize qX px py=X at *
 generalize qY px py=Y at *
 generalize qX qx qy=U at *
 generalize qY qx qy=V at *
 generalize qT px py=s at *
 generalize qT qx qy=t at *
 generalize bZ px py=a at *
 generalize bZ qx qy=b at *
 clear dp dq hc hpx hpy hqx hqy np nq bp bq
 rcases hp with ⟨rfl,rfl,rfl⟩|⟨rfl,rfl,rfl⟩|⟨rfl,rfl,rfl⟩|⟨rfl,rfl,rfl⟩<;>rcases hq with ⟨rfl,rfl,rfl⟩|⟨rfl,rfl,rfl⟩|⟨rfl,rfl,rfl⟩|⟨rfl,rfl,rfl⟩ <;>
  first
  | exact .inl ⟨rfl,same (by grind)⟩
  | exact .inr (.inl (by omega))
  | exact .inr (.inr ⟨by omega,opp (by grind)⟩)
  | exact (turn (by grind)).elim
def gp (px py qx qy:Int):Int:=(aU qx qy-aU px py)%21600000
theorem GJ (x y:Int) (h:¬ (x=0/\y=0)) (hx:iF x) (hy:iF y):bZ x y<5400000:=(mW x y h hx hy).1
theorem Me {px py qx qy:Int} (np:¬ (px=0/\py=0)) (nq:¬ (qx=0/\qy=0)) (hc:0<=crs px py qx qy) (hpx:iF px) (hpy:iF py) (hqx:iF qx) (hqy:iF qy) :
 0<=gp px py qx qy/\gp px py qx qy<=10800000/\(gp px py qx qy=10800000->(qT qx qy=qT px py+10800000∨qT qx qy=qT px py-10800000)/\qX px py*qY qx qy<=qY px py*qX qx qy):=by
 have c:=J9 np nq hc hpx hpy hqx hqy;have a:=GJ px py np hpx hpy;have b:=GJ qx qy nq hqx hqy;unfold gp aU;rcases c with ⟨h1,h2⟩|h|⟨h1,h2,h3⟩
 . refine ⟨by omega,by omega,fun e=>by omega⟩
 . refine ⟨by omega,by omega,fun e=>by omega⟩
 . refine ⟨by omega,by omega,fun e=>⟨h1,h3⟩⟩
theorem aaG {px py qx qy:Int} (e:Bool):upE (aU px py) (aU qx qy) e=aU px py+gp px py qx qy+(if e then 0 else 1):=by
 have a:=mP px py;have b:=mP qx qy;unfold upE gp;cases e<;>simp only [Bool.false_eq_true,if_false,if_true]<;>split<;>omega
