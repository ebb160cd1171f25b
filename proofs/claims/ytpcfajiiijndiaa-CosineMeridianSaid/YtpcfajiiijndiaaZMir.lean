/- Plain integers: the directions of a box that is mirrored. -/
import Derived.Test.YtpcfajiiijndiaaZDirs
set_option linter.unusedVariables false
set_option linter.unusedSimpArgs false
namespace Alm
open Go.Proofs.Ytpcfajiiijndiaa
theorem Pm {px py qx qy:Int} (np:¬ (px=0/\py=0)) (nq:¬ (qx=0/\qy=0)) (hc:0<=crs px py qx qy) (hpx:-2147483648<=px/\px<=2147483648) (hpy:-2147483648<=py/\py<=2147483648) (hqx:-2147483648<=qx/\qx<=2147483648) (hqy:-2147483648<=qy/\qy<=2147483648):¬ (bX px py=0/\bX qx qy=21599999):=by
 rintro ⟨h1,h2⟩;have d1:=(eG px py np hpx hpy).1;have d2:=(eG qx qy nq hqx hqy).1;unfold bX at h1 h2
 have p1:0<px/\0<=py:=by
  refine Classical.byContradiction fun g=>?_
  have:qT px py≠0:=by
   unfold qT;rw [if_neg g];split
   . decide
   . split<;>decide
  have:0<=qT px py:=by unfold qT;split<;>(try split)<;>(try split)<;>decide
  omega
 have q1:0<=qx/\qy<0:=by
  have t:qT qx qy=16200000:=by
   unfold qT at *
   split at h2
   . omega
   . split at h2
     . omega
     . split at h2
       . omega
       . rename_i a b c
         rw [if_neg a,if_neg b,if_neg c]
  unfold qT at t;split at t
  . exact absurd t (by decide)
  . split at t
    . exact absurd t (by decide)
    . split at t
      . exact absurd t (by decide)
      . omega
 unfold crs at hc;have m1:=Int.mul_nonneg (show 0<=py by omega) q1.1
 have m2:=Int.mul_pos p1.1 (show 0 < -qy by omega)
 have e:px*-qy=-(px*qy):=by grind
 omega
theorem Bt {yl yh xl xh u v:Int} (H:∀ px py:Int,(px=xl∨px=xh)->(py=yl∨py=yh)->0<u*px+v*py) (k j:Nat) (hj:j<k) :
 0<=crs (cX xl xh j) (cY yl yh j) (aB xl xh yl yh k).1 (aB xl xh yl yh k).2:=by
 induction k with
 | zero=>omega
 | succ k ih =>
  have pi:=jy xl xh yl yh k;have ci:=NS xl xh yl yh k;have cj:=NS xl xh yl yh j;rw [show aB xl xh yl yh (k+1)=if oC (aB xl xh yl yh k).1 (aB xl xh yl yh k).2 (cX xl xh k) (cY yl yh k) then (cX xl xh k,cY yl yh k) else aB xl xh yl yh k from rfl]
  have hp:=H _ _ pi.1 pi.2;have hc:=H _ _ ci.1 ci.2;have hj':=H _ _ cj.1 cj.2;rw [Ej]
  by_cases h1:0<=crs (aB xl xh yl yh k).1 (aB xl xh yl yh k).2 (cX xl xh k) (cY yl yh k)
  . rw [if_pos (by simpa using h1)]
    by_cases e:j=k
    . subst e;have:=zO (cX xl xh j) (cY yl yh j);simp only [];omega
    . exact iQ hj' hp hc (ih (by omega)) h1
  . rw [if_neg (by simpa using h1)]
    by_cases e:j=k
    . subst e;have:=rM (cX xl xh j) (cY yl yh j) (aB xl xh yl yh j).1 (aB xl xh yl yh j).2;omega
    . exact ih (by omega)
theorem kN (xl xh yl yh px py:Int) (h:px=xl∨px=xh) (k:py=yl∨py=yh):∃ j,j<4/\cX xl xh j=px/\cY yl yh j=py:=by
 rcases h with rfl|rfl<;>rcases k with rfl|rfl
 . exact ⟨0,by omega,by simp [cX],by simp [cY]⟩
 . exact ⟨1,by omega,by simp [cX],by simp [cY]⟩
 . exact ⟨2,by omega,by simp [cX],by simp [cY]⟩
 . exact ⟨3,by omega,by simp [cX],by simp [cY]⟩
theorem GU {px py qx qy:Int} (np:¬ (px=0/\py=0)) (nq:¬ (qx=0/\qy=0)) (hc:0<=crs px py qx qy) (hpx:-2147483648<=px/\px<=2147483648) (hpy:-2147483648<=py/\py<=2147483648) (hqx:-2147483648<=qx/\qx<=2147483648) (hqy:-2147483648<=qy/\qy<=2147483648) (h:bX px py=bX qx qy) (hf:iA qx qy=true):iA px py=true:=by
 have dp:=eG px py np hpx hpy;have dq:=eG qx qy nq hqx hqy;have bp:=q_bd px py 2147483648 np hpx hpy;have bq:=q_bd qx qy 2147483648 nq hqx hqy;have lp:=dp.1;have lq:=dq.1;have hp:=xQ px py np;have hq:=xQ qx qy nq;unfold bX at h;have tt:qT px py=qT qx qy:=by omega
 have ll:gZ px py=gZ qx qy:=by omega
 have cc:crs px py qx qy=qX px py*qY qx qy-qY px py*qX qx qy:=by
  unfold crs;generalize qX px py=X at *
  generalize qY px py=Y at *
  generalize qX qx qy=U at *
  generalize qY qx qy=V at *
  generalize qT px py=s at *
  generalize qT qx qy=t at *
  clear dp dq hc hpx hpy hqx hqy np nq hf bp bq;rcases hp with ⟨rfl,rfl,rfl⟩|⟨rfl,rfl,rfl⟩|⟨rfl,rfl,rfl⟩|⟨rfl,rfl,rfl⟩<;>rcases hq with ⟨h1,rfl,rfl⟩|⟨h1,rfl,rfl⟩|⟨h1,rfl,rfl⟩|⟨h1,rfl,rfl⟩<;>first|omega|grind
 rw [cc] at hc;unfold iA at hf ⊢
 rw [ll];simp only [Bool.or_eq_true,Bool.and_eq_true,decide_eq_true_eq] at hf ⊢
 rcases hf with ⟨h1,h2⟩|⟨h1,h2⟩
 . refine .inl ⟨h1,?_⟩;rw [h2,Int.mul_zero] at hc;rcases Int.lt_or_le 0 (qY px py) with g|g
   . have:=Int.mul_pos g bq.1;omega
   . omega
 . refine .inr ⟨h1,?_⟩;have e:qX px py*qY qx qy-qY px py*qX qx qy=(qX px py-qY px py)*qX qx qy:=by rw [<-h2];grind
   rw [e] at hc;have n1:¬ (qX px py-qY px py<0):=fun g=>by have:=Int.mul_neg_of_neg_of_pos g bq.1;omega
   have n2:=dp.2.1;rw [ll,h1] at n2;unfold past at n2;rw [if_pos rfl] at n2;omega
abbrev fI (x:Int):Prop:=-2147483648<=x/\x<=2147483648
theorem mR {u v x y:Int} (h:0<u*x+v*y):¬ (x=0/\y=0):=by rintro ⟨rfl,rfl⟩;simp at h
theorem wm {yl yh xl xh:Int} (hy:yl<=yh) (hx:xl<=xh) (hy2:-2147483648<=yl/\yh<=2147483648) (hx2:-2147483648<=xl/\xh<=2147483648) (ho:dY yl yh xl xh=false) :
 bK yl yh xl xh-bf yl yh xl xh<21600000:=by
 have ho':¬ (xl<=0/\0<=xh/\yl<=0/\0<=yh):=by unfold dY at ho;simpa only [decide_eq_false_iff_not] using ho
 obtain ⟨u,v,H⟩:=zq hy hx ho'
 have fi:=iq xl xh yl yh 4;have li:=jy xl xh yl yh 4
 have cr:0<=crs (aA xl xh yl yh 4).1 (aA xl xh yl yh 4).2 (aB xl xh yl yh 4).1 (aB xl xh yl yh 4).2:=by
  obtain ⟨j,hj,e1,e2⟩:=kN xl xh yl yh _ _ li.1 li.2;rw [<-e1,<-e2];exact kv H 4 j hj
 have bnd:∀ p:Int,(p=xl∨p=xh)->fI p:=fun p h=>by unfold fI;omega
 have bnd2:∀ p:Int,(p=yl∨p=yh)->fI p:=fun p h=>by unfold fI;omega
 have np:=mR (H _ _ fi.1 fi.2);have nq:=mR (H _ _ li.1 li.2);have g:=LV np nq cr (bnd _ fi.1) (bnd2 _ fi.2) (bnd _ li.1) (bnd2 _ li.2);have k:=Pm np nq cr (bnd _ fi.1) (bnd2 _ fi.2) (bnd _ li.1) (bnd2 _ li.2);have b1:=fZ (aA xl xh yl yh 4).1 (aA xl xh yl yh 4).2;have b2:=fZ (aB xl xh yl yh 4).1 (aB xl xh yl yh 4).2;have eL:bf yl yh xl xh=bX (aA xl xh yl yh 4).1 (aA xl xh yl yh 4).2:=by unfold bf;rw [ho];rfl
 have eH:bK yl yh xl xh=upE (bf yl yh xl xh) (bX (aB xl xh yl yh 4).1 (aB xl xh yl yh 4).2) (iA (aB xl xh yl yh 4).1 (aB xl xh yl yh 4).2):=by unfold bK;rw [ho];rfl
 rw [eH,eL];generalize bX (aA xl xh yl yh 4).1 (aA xl xh yl yh 4).2=f at *
 generalize bX (aB xl xh yl yh 4).1 (aB xl xh yl yh 4).2=l at *
 generalize iA (aB xl xh yl yh 4).1 (aB xl xh yl yh 4).2=e at *
 clear fi li cr bnd bnd2 np nq H eL eH hy hx hy2 hx2 ho ho'
 unfold upE;cases e<;>simp<;>split<;>omega
