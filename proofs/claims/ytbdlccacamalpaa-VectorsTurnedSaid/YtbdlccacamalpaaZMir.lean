/- Plain integers: the directions of a box that is mirrored. -/
import Derived.Test.YtbdlccacamalpaaZDirs
set_option linter.unusedVariables false
set_option linter.unusedSimpArgs false
namespace Alm
open Go.Proofs.Ytbdlccacamalpaa
theorem yU {yl yh xl xh u v:Int} (H:∀ px py:Int,(px=xl∨px=xh)->(py=yl∨py=yh)->0<u*px+v*py) (k j:Nat) (hj:j<k) :
 0<=crs (cX xl xh j) (cY yl yh j) (aP xl xh yl yh k).1 (aP xl xh yl yh k).2:=by
 induction k with
 | zero=>omega
 | succ k ih =>
  have pi:=oI xl xh yl yh k;have ci:=IC xl xh yl yh k;have cj:=IC xl xh yl yh j;rw [show aP xl xh yl yh (k+1)=if nE (aP xl xh yl yh k).1 (aP xl xh yl yh k).2 (cX xl xh k) (cY yl yh k) then (cX xl xh k,cY yl yh k) else aP xl xh yl yh k from rfl]
  have hp:=H _ _ pi.1 pi.2;have hc:=H _ _ ci.1 ci.2;have hj':=H _ _ cj.1 cj.2;rw [zO]
  by_cases h1:0<=crs (aP xl xh yl yh k).1 (aP xl xh yl yh k).2 (cX xl xh k) (cY yl yh k)
  . rw [if_pos (by simpa using h1)]
    by_cases e:j=k
    . subst e;have:=xO (cX xl xh j) (cY yl yh j);simp only [];omega
    . exact sG hj' hp hc (ih (by omega)) h1
  . rw [if_neg (by simpa using h1)]
    by_cases e:j=k
    . subst e;have:=xw (cX xl xh j) (cY yl yh j) (aP xl xh yl yh j).1 (aP xl xh yl yh j).2;omega
    . exact ih (by omega)
theorem tQ (xl xh yl yh px py:Int) (h:px=xl∨px=xh) (k:py=yl∨py=yh):∃ j,j<4/\cX xl xh j=px/\cY yl yh j=py:=by
 rcases h with rfl|rfl<;>rcases k with rfl|rfl
 . exact ⟨0,by omega,by simp [cX],by simp [cY]⟩
 . exact ⟨1,by omega,by simp [cX],by simp [cY]⟩
 . exact ⟨2,by omega,by simp [cX],by simp [cY]⟩
 . exact ⟨3,by omega,by simp [cX],by simp [cY]⟩
theorem SL {px py qx qy:Int} (np:¬ (px=0/\py=0)) (nq:¬ (qx=0/\qy=0)) (hc:0<=crs px py qx qy) (hpx:-2147483648<=px/\px<=2147483648) (hpy:-2147483648<=py/\py<=2147483648) (hqx:-2147483648<=qx/\qx<=2147483648) (hqy:-2147483648<=qy/\qy<=2147483648) (h:aG px py=aG qx qy) (hf:jl qx qy=true):jl px py=true:=by
 have dp:=iD px py np hpx hpy;have dq:=iD qx qy nq hqx hqy;have bp:=q_bd px py 2147483648 np hpx hpy;have bq:=q_bd qx qy 2147483648 nq hqx hqy;have lp:=dp.1;have lq:=dq.1;have hp:=xX px py np;have hq:=xX qx qy nq;unfold aG at h;have tt:qT px py=qT qx qy:=by omega
 have ll:bn px py=bn qx qy:=by omega
 have cc:crs px py qx qy=qX px py*qY qx qy-qY px py*qX qx qy:=by
  unfold crs;generalize qX px py=X at *
  generalize qY px py=Y at *
  generalize qX qx qy=U at *
  generalize qY qx qy=V at *
  generalize qT px py=s at *
  generalize qT qx qy=t at *
  clear dp dq hc hpx hpy hqx hqy np nq hf bp bq;rcases hp with ⟨rfl,rfl,rfl⟩|⟨rfl,rfl,rfl⟩|⟨rfl,rfl,rfl⟩|⟨rfl,rfl,rfl⟩<;>rcases hq with ⟨h1,rfl,rfl⟩|⟨h1,rfl,rfl⟩|⟨h1,rfl,rfl⟩|⟨h1,rfl,rfl⟩<;>first|omega|grind
 rw [cc] at hc;unfold jl at hf ⊢
 rw [ll];simp only [Bool.or_eq_true,Bool.and_eq_true,decide_eq_true_eq] at hf ⊢
 rcases hf with ⟨h1,h2⟩|⟨h1,h2⟩
 . refine .inl ⟨h1,?_⟩;rw [h2,Int.mul_zero] at hc;rcases Int.lt_or_le 0 (qY px py) with g|g
   . have:=Int.mul_pos g bq.1;omega
   . omega
 . refine .inr ⟨h1,?_⟩;have e:qX px py*qY qx qy-qY px py*qX qx qy=(qX px py-qY px py)*qX qx qy:=by rw [<-h2];grind
   rw [e] at hc;have n1:¬ (qX px py-qY px py<0):=fun g=>by have:=Int.mul_neg_of_neg_of_pos g bq.1;omega
   have n2:=dp.2.1;rw [ll,h1] at n2;unfold past at n2;rw [if_pos rfl] at n2;omega
abbrev dP (x:Int):Prop:=-2147483648<=x/\x<=2147483648
theorem Jj {u v x y:Int} (h:0<u*x+v*y):¬ (x=0/\y=0):=by rintro ⟨rfl,rfl⟩;simp at h
