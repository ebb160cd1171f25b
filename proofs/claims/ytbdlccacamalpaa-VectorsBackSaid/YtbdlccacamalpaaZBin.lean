/- Plain integers: the directions of a part of a box lie within those of the box. -/
import Derived.Test.YtbdlccacamalpaaZMir
set_option linter.unusedVariables false
set_option linter.unusedSimpArgs false
namespace Alm
theorem Ck {px py qx qy:Int} (np:¬ (px=0/\py=0)) (nq:¬ (qx=0/\qy=0)) (hc:0<=crs px py qx qy) (hpx:dP px) (hpy:dP py) (hqx:dP qx) (hqy:dP qy) :
 (qT qx qy=qT px py/\bn px py<=bn qx qy)∨(qT qx qy=qT px py+5400000∨qT qx qy=qT px py-16200000) ∨
 ((qT qx qy=qT px py+10800000∨qT qx qy=qT px py-10800000)/\bn qx qy<=bn px py/\qX px py*qY qx qy<=qY px py*qX qx qy):=by
 have dp:=iD px py np hpx hpy;have dq:=iD qx qy nq hqx hqy;have bp:=q_bd px py 2147483648 np hpx hpy;have bq:=q_bd qx qy 2147483648 nq hqx hqy
 have same:crs px py qx qy=qX px py*qY qx qy-qY px py*qX qx qy->bn px py<=bn qx qy:=fun e =>
  El ⟨bp.1,bp.2.1⟩ ⟨bp.2.2.1,bp.2.2.2⟩ ⟨bq.1,bq.2.1⟩ ⟨bq.2.2.1,bq.2.2.2⟩ (by
   have:qX qx qy*qY px py=qY px py*qX qx qy:=Int.mul_comm _ _;omega) dp dq
 have opp:crs px py qx qy=-(qX px py*qY qx qy-qY px py*qX qx qy)->bn qx qy<=bn px py/\qX px py*qY qx qy<=qY px py*qX qx qy:=fun e =>
  ⟨El ⟨bq.1,bq.2.1⟩ ⟨bq.2.2.1,bq.2.2.2⟩ ⟨bp.1,bp.2.1⟩ ⟨bp.2.2.1,bp.2.2.2⟩ (by
   have:qX qx qy*qY px py=qY px py*qX qx qy:=Int.mul_comm _ _;omega) dq dp,by omega⟩
 have turn:crs px py qx qy=-(qX px py*qX qx qy+qY px py*qY qx qy)->False:=fun e=>by
  have a:=Int.mul_pos bp.1 bq.1;have b:=Int.mul_nonneg bp.2.2.1 bq.2.2.1;omega
 have hp:=xX px py np;have hq:=xX qx qy nq;unfold crs at same turn opp;generalize qX px py=X at *
 generalize qY px py=Y at *
 generalize qX qx qy=U at *
 generalize qY qx qy=V at *
 generalize qT px py=s at *
 generalize qT qx qy=t at *
 generalize bn px py=a at *
 generalize bn qx qy=b at *
 clear dp dq hc hpx hpy hqx hqy np nq bp bq
 rcases hp with ⟨rfl,rfl,rfl⟩|⟨rfl,rfl,rfl⟩|⟨rfl,rfl,rfl⟩|⟨rfl,rfl,rfl⟩<;>rcases hq with ⟨rfl,rfl,rfl⟩|⟨rfl,rfl,rfl⟩|⟨rfl,rfl,rfl⟩|⟨rfl,rfl,rfl⟩ <;>
  first
  | exact .inl ⟨rfl,same (by grind)⟩
  | exact .inr (.inl (by omega))
  | exact .inr (.inr ⟨by omega,opp (by grind)⟩)
  | exact (turn (by grind)).elim
def gp (px py qx qy:Int):Int:=(aG qx qy-aG px py)%21600000
theorem A7 (x y:Int) (h:¬ (x=0/\y=0)) (hx:dP x) (hy:dP y):bn x y<5400000:=(iD x y h hx hy).1
theorem EY {px py qx qy:Int} (np:¬ (px=0/\py=0)) (nq:¬ (qx=0/\qy=0)) (hc:0<=crs px py qx qy) (hpx:dP px) (hpy:dP py) (hqx:dP qx) (hqy:dP qy) :
 0<=gp px py qx qy/\gp px py qx qy<=10800000/\(gp px py qx qy=10800000->(qT qx qy=qT px py+10800000∨qT qx qy=qT px py-10800000)/\qX px py*qY qx qy<=qY px py*qX qx qy):=by
 have c:=Ck np nq hc hpx hpy hqx hqy;have a:=A7 px py np hpx hpy;have b:=A7 qx qy nq hqx hqy;unfold gp aG;rcases c with ⟨h1,h2⟩|h|⟨h1,h2,h3⟩
 . refine ⟨by omega,by omega,fun e=>by omega⟩
 . refine ⟨by omega,by omega,fun e=>by omega⟩
 . refine ⟨by omega,by omega,fun e=>⟨h1,h3⟩⟩
theorem KM {px py qx qy:Int} (e:Bool):upE (aG px py) (aG qx qy) e=aG px py+gp px py qx qy+(if e then 0 else 1):=by
 have a:=jH px py;have b:=jH qx qy;unfold upE gp;cases e<;>simp only [Bool.false_eq_true,if_false,if_true]<;>split<;>omega
