/- Plain integers: the directions of a part of a box lie within those of the box. -/
import Derived.Test.YtgmncdmcdgkodaaZMir
set_option linter.unusedVariables false
set_option linter.unusedSimpArgs false
namespace Alm
theorem Ak {px py qx qy:Int} (np:¬ (px=0/\py=0)) (nq:¬ (qx=0/\qy=0)) (hc:0<=crs px py qx qy) (hpx:bW px) (hpy:bW py) (hqx:bW qx) (hqy:bW qy) :
 (qT qx qy=qT px py/\gm px py<=gm qx qy)∨(qT qx qy=qT px py+5400000∨qT qx qy=qT px py-16200000) ∨
 ((qT qx qy=qT px py+10800000∨qT qx qy=qT px py-10800000)/\gm qx qy<=gm px py/\qX px py*qY qx qy<=qY px py*qX qx qy):=by
 have dp:=fF px py np hpx hpy;have dq:=fF qx qy nq hqx hqy;have bp:=q_bd px py 2147483648 np hpx hpy;have bq:=q_bd qx qy 2147483648 nq hqx hqy
 have same:crs px py qx qy=qX px py*qY qx qy-qY px py*qX qx qy->gm px py<=gm qx qy:=fun e =>
  ui ⟨bp.1,bp.2.1⟩ ⟨bp.2.2.1,bp.2.2.2⟩ ⟨bq.1,bq.2.1⟩ ⟨bq.2.2.1,bq.2.2.2⟩ (by
   have:qX qx qy*qY px py=qY px py*qX qx qy:=Int.mul_comm _ _;omega) dp dq
 have opp:crs px py qx qy=-(qX px py*qY qx qy-qY px py*qX qx qy)->gm qx qy<=gm px py/\qX px py*qY qx qy<=qY px py*qX qx qy:=fun e =>
  ⟨ui ⟨bq.1,bq.2.1⟩ ⟨bq.2.2.1,bq.2.2.2⟩ ⟨bp.1,bp.2.1⟩ ⟨bp.2.2.1,bp.2.2.2⟩ (by
   have:qX qx qy*qY px py=qY px py*qX qx qy:=Int.mul_comm _ _;omega) dq dp,by omega⟩
 have turn:crs px py qx qy=-(qX px py*qX qx qy+qY px py*qY qx qy)->False:=fun e=>by
  have a:=Int.mul_pos bp.1 bq.1;have b:=Int.mul_nonneg bp.2.2.1 bq.2.2.1;omega
 have hp:=wm px py np;have hq:=wm qx qy nq;unfold crs at same turn opp;generalize qX px py=X at *
 generalize qY px py=Y at *
 generalize qX qx qy=U at *
 generalize qY qx qy=V at *
 generalize qT px py=s at *
 generalize qT qx qy=t at *
 generalize gm px py=a at *
 generalize gm qx qy=b at *
 clear dp dq hc hpx hpy hqx hqy np nq bp bq
 rcases hp with ⟨rfl,rfl,rfl⟩|⟨rfl,rfl,rfl⟩|⟨rfl,rfl,rfl⟩|⟨rfl,rfl,rfl⟩<;>rcases hq with ⟨rfl,rfl,rfl⟩|⟨rfl,rfl,rfl⟩|⟨rfl,rfl,rfl⟩|⟨rfl,rfl,rfl⟩ <;>
  first
  | exact .inl ⟨rfl,same (by grind)⟩
  | exact .inr (.inl (by omega))
  | exact .inr (.inr ⟨by omega,opp (by grind)⟩)
  | exact (turn (by grind)).elim
def gp (px py qx qy:Int):Int:=(aZ qx qy-aZ px py)%21600000
theorem zx (x y:Int) (h:¬ (x=0/\y=0)) (hx:bW x) (hy:bW y):gm x y<5400000:=(fF x y h hx hy).1
theorem rT {px py qx qy:Int} (np:¬ (px=0/\py=0)) (nq:¬ (qx=0/\qy=0)) (hc:0<=crs px py qx qy) (hpx:bW px) (hpy:bW py) (hqx:bW qx) (hqy:bW qy) :
 0<=gp px py qx qy/\gp px py qx qy<=10800000/\(gp px py qx qy=10800000->(qT qx qy=qT px py+10800000∨qT qx qy=qT px py-10800000)/\qX px py*qY qx qy<=qY px py*qX qx qy):=by
 have c:=Ak np nq hc hpx hpy hqx hqy;have a:=zx px py np hpx hpy;have b:=zx qx qy nq hqx hqy;unfold gp aZ;rcases c with ⟨h1,h2⟩|h|⟨h1,h2,h3⟩
 . refine ⟨by omega,by omega,fun e=>by omega⟩
 . refine ⟨by omega,by omega,fun e=>by omega⟩
 . refine ⟨by omega,by omega,fun e=>⟨h1,h3⟩⟩
theorem D8 {u v px py qx qy rx ry:Int} (hp:0<u*px+v*py) (hq:0<u*qx+v*qy) (hr:0<u*rx+v*ry) (h1:0<=crs px py qx qy) (h2:0<=crs qx qy rx ry)
 (hpx:bW px) (hpy:bW py) (hqx:bW qx) (hqy:bW qy) (hrx:bW rx) (hry:bW ry):gp px py qx qy+gp qx qy rx ry=gp px py rx ry:=by
 have np:=lW hp;have nq:=lW hq;have nr:=lW hr;have h3:=gY hp hq hr h1 h2;have b1:=rT np nq h1 hpx hpy hqx hqy;have b2:=rT nq nr h2 hqx hqy hrx hry;have b3:=rT np nr h3 hpx hpy hrx hry
 by_cases e:gp px py qx qy=10800000/\gp qx qy rx ry=10800000
 . exfalso;obtain ⟨t1,k1⟩:=b1.2.2 e.1;obtain ⟨t2,k2⟩:=b2.2.2 e.2;have bp:=q_bd px py 2147483648 np hpx hpy;have bq:=q_bd qx qy 2147483648 nq hqx hqy;have br:=q_bd rx ry 2147483648 nr hrx hry
   have k3:qX px py*qY rx ry<=qX rx ry*qY px py:=by
    have s1:=Int.mul_le_mul_of_nonneg_left k2 (Int.le_of_lt bp.1);have s2:=Int.mul_le_mul_of_nonneg_right k1 (Int.le_of_lt br.1);have s3:qX qx qy*(qX px py*qY rx ry)<=qX qx qy*(qX rx ry*qY px py):=by grind
    exact Int.le_of_mul_le_mul_left s3 bq.1
   have Hp:=wm px py np;have Hr:=wm rx ry nr
   have t3:qT rx ry=qT px py:=by
    have Hq:=wm qx qy nq;omega
   have k4:0<=crs rx ry px py:=by
    unfold crs;generalize qX px py=X at *
    generalize qY px py=Y at *
    generalize qX rx ry=U at *
    generalize qY rx ry=V at *
    generalize qT px py=s at *
    generalize qT rx ry=t at *
    clear bp bq br k1 k2 b1 b2 b3 hpx hpy hrx hry h1 h2 h3 hp hq hr np nq nr e t1 t2;rcases Hp with ⟨rfl,rfl,rfl⟩|⟨rfl,rfl,rfl⟩|⟨rfl,rfl,rfl⟩|⟨rfl,rfl,rfl⟩<;>rcases Hr with ⟨h,rfl,rfl⟩|⟨h,rfl,rfl⟩|⟨h,rfl,rfl⟩|⟨h,rfl,rfl⟩<;>first|omega|grind
   have k5:=gY hq hr hp h2 k4;have k6:=qh px py qx qy;have s:=(Ey hp hq (by omega) hpx hpy hqx hqy).1
   have e1:=e.1;unfold gp at e1;omega
 . unfold gp at *
   omega
theorem yJ {px py qx qy:Int} (e:Bool):upE (aZ px py) (aZ qx qy) e=aZ px py+gp px py qx qy+(if e then 0 else 1):=by
 have a:=gF px py;have b:=gF qx qy;unfold upE gp;cases e<;>simp only [Bool.false_eq_true,if_false,if_true]<;>split<;>omega
theorem wB {fx fy xl xh yl yh x y:Int} (hx:xl<=x/\x<=xh) (hy:yl<=y/\y<=yh) (H:∀ px py:Int,(px=xl∨px=xh)->(py=yl∨py=yh)->0<=fx*py-fy*px):0<=fx*y-fy*x:=by
 rcases Int.le_total 0 fx with h|h<;>rcases Int.le_total 0 fy with k|k
 . have:=H xh yl (.inr rfl) (.inl rfl);have a:=Int.mul_le_mul_of_nonneg_left hy.1 h;have b:=Int.mul_le_mul_of_nonneg_left hx.2 k;omega
 . have:=H xl yl (.inl rfl) (.inl rfl);have a:=Int.mul_le_mul_of_nonneg_left hy.1 h;have b:=Int.mul_le_mul_of_nonpos_left k hx.1;omega
 . have:=H xh yh (.inr rfl) (.inr rfl);have a:=Int.mul_le_mul_of_nonpos_left h hy.2;have b:=Int.mul_le_mul_of_nonneg_left hx.2 k;omega
 . have:=H xl yh (.inl rfl) (.inr rfl);have a:=Int.mul_le_mul_of_nonpos_left h hy.2;have b:=Int.mul_le_mul_of_nonpos_left k hx.1;omega
theorem Er {u v xl xh yl yh x y:Int} (hx:xl<=x/\x<=xh) (hy:yl<=y/\y<=yh) (H:∀ px py:Int,(px=xl∨px=xh)->(py=yl∨py=yh)->0<u*px+v*py):0<u*x+v*y:=by
 rcases Int.le_total 0 u with h|h<;>rcases Int.le_total 0 v with k|k
 . have:=H xl yl (.inl rfl) (.inl rfl);have a:=Int.mul_le_mul_of_nonneg_left hx.1 h;have b:=Int.mul_le_mul_of_nonneg_left hy.1 k;omega
 . have:=H xl yh (.inl rfl) (.inr rfl);have a:=Int.mul_le_mul_of_nonneg_left hx.1 h;have b:=Int.mul_le_mul_of_nonpos_left k hy.2;omega
 . have:=H xh yl (.inr rfl) (.inl rfl);have a:=Int.mul_le_mul_of_nonpos_left h hx.2;have b:=Int.mul_le_mul_of_nonneg_left hy.1 k;omega
 . have:=H xh yh (.inr rfl) (.inr rfl);have a:=Int.mul_le_mul_of_nonpos_left h hx.2;have b:=Int.mul_le_mul_of_nonpos_left k hy.2;omega
theorem Al {yl yh xl xh yl' yh' xl' xh':Int} (hy:yl<=yl'/\yl'<=yh'/\yh'<=yh) (hx:xl<=xl'/\xl'<=xh'/\xh'<=xh) (hy2:-2147483648<=yl/\yh<=2147483648) (hx2:-2147483648<=xl/\xh<=2147483648) :
 (aU yl yh xl xh=0/\bg yl yh xl xh=21600000)∨(aU yl' yh' xl' xh'-aU yl yh xl xh)%21600000+(bg yl' yh' xl' xh'-aU yl' yh' xl' xh')<=bg yl yh xl xh-aU yl yh xl xh:=by
 by_cases ho:xl<=0/\0<=xh/\yl<=0/\0<=yh
 . have eo:bN yl yh xl xh=true:=by unfold bN;simp only [decide_eq_true_eq];exact ho
   exact .inl ⟨by unfold aU;rw [eo];rfl,by unfold bg;rw [eo];rfl⟩
 . right
   have eo:bN yl yh xl xh=false:=by unfold bN;simp only [decide_eq_false_iff_not];exact ho
   have eo':bN yl' yh' xl' xh'=false:=by unfold bN;simp only [decide_eq_false_iff_not];omega
   obtain ⟨u,v,H⟩:=vW (show yl<=yh by omega) (show xl<=xh by omega) ho
   have H':∀ px py:Int,(px=xl'∨px=xh')->(py=yl'∨py=yh')->0<u*px+v*py:=fun px py h k=>Er (by omega) (by omega) H
   have fi:=gV xl xh yl yh 4;have li:=jD xl xh yl yh 4;have fi':=gV xl' xh' yl' yh' 4;have li':=jD xl' xh' yl' yh' 4;have hf:=H _ _ fi.1 fi.2;have hl:=H _ _ li.1 li.2;have hf':=H' _ _ fi'.1 fi'.2;have hl':=H' _ _ li'.1 li'.2
   have c1:0<=crs (au xl xh yl yh 4).1 (au xl xh yl yh 4).2 (au xl' xh' yl' yh' 4).1 (au xl' xh' yl' yh' 4).2:=by
    unfold crs;refine wB (xl:=xl) (xh:=xh) (yl:=yl) (yh:=yh) (by omega) (by omega) fun px py h k=>?_
    obtain ⟨j,hj,e1,e2⟩:=gL xl xh yl yh _ _ h k;rw [<-e1,<-e2];exact iV H 4 j hj
   have c2:0<=crs (au xl' xh' yl' yh' 4).1 (au xl' xh' yl' yh' 4).2 (ax xl' xh' yl' yh' 4).1 (ax xl' xh' yl' yh' 4).2:=by
    obtain ⟨j,hj,e1,e2⟩:=gL xl' xh' yl' yh' _ _ li'.1 li'.2;rw [<-e1,<-e2];exact iV H' 4 j hj
   have c3:0<=crs (ax xl' xh' yl' yh' 4).1 (ax xl' xh' yl' yh' 4).2 (ax xl xh yl yh 4).1 (ax xl xh yl yh 4).2:=by
    have a:=wB (fx:=-(ax xl xh yl yh 4).1) (fy:=-(ax xl xh yl yh 4).2) (x:=(ax xl' xh' yl' yh' 4).1) (y:=(ax xl' xh' yl' yh' 4).2) (xl:=xl) (xh:=xh) (yl:=yl) (yh:=yh) (by omega) (by omega) fun px py h k=>by
     obtain ⟨j,hj,e1,e2⟩:=gL xl xh yl yh _ _ h k;rw [<-e1,<-e2];have:=oM H 4 j hj;unfold crs at this;grind
    unfold crs;grind
   have bx:∀ p:Int,(p=xl∨p=xh)->bW p:=fun p h=>by unfold bW;omega
   have bY:∀ p:Int,(p=yl∨p=yh)->bW p:=fun p h=>by unfold bW;omega
   have bx':∀ p:Int,(p=xl'∨p=xh')->bW p:=fun p h=>by unfold bW;omega
   have bY':∀ p:Int,(p=yl'∨p=yh')->bW p:=fun p h=>by unfold bW;omega
   have c12:=gY hf hf' hl' c1 c2;have g1:=D8 hf hf' hl' c1 c2 (bx _ fi.1) (bY _ fi.2) (bx' _ fi'.1) (bY' _ fi'.2) (bx' _ li'.1) (bY' _ li'.2);have g2:=D8 hf hl' hl c12 c3 (bx _ fi.1) (bY _ fi.2) (bx' _ li'.1) (bY' _ li'.2) (bx _ li.1) (bY _ li.2);have g3:=(rT (lW hl') (lW hl) c3 (bx' _ li'.1) (bY' _ li'.2) (bx _ li.1) (bY _ li.2)).1;have ex:=fun h hf=>AJ (lW hl') (lW hl) c3 (bx' _ li'.1) (bY' _ li'.2) (bx _ li.1) (bY _ li.2) h hf
   have l:aU yl yh xl xh=aZ (au xl xh yl yh 4).1 (au xl xh yl yh 4).2:=by unfold aU;rw [eo];rfl
   have l':aU yl' yh' xl' xh'=aZ (au xl' xh' yl' yh' 4).1 (au xl' xh' yl' yh' 4).2:=by unfold aU;rw [eo'];rfl
   have h:bg yl yh xl xh=upE (aU yl yh xl xh) (aZ (ax xl xh yl yh 4).1 (ax xl xh yl yh 4).2) (fU (ax xl xh yl yh 4).1 (ax xl xh yl yh 4).2):=by unfold bg;rw [eo];rfl
   have h':bg yl' yh' xl' xh'=upE (aU yl' yh' xl' xh') (aZ (ax xl' xh' yl' yh' 4).1 (ax xl' xh' yl' yh' 4).2) (fU (ax xl' xh' yl' yh' 4).1 (ax xl' xh' yl' yh' 4).2):=by unfold bg;rw [eo'];rfl
   rw [h,h',l,l',yJ,yJ];have e1:(aZ (au xl' xh' yl' yh' 4).1 (au xl' xh' yl' yh' 4).2-aZ (au xl xh yl yh 4).1 (au xl xh yl yh 4).2)%21600000=gp (au xl xh yl yh 4).1 (au xl xh yl yh 4).2 (au xl' xh' yl' yh' 4).1 (au xl' xh' yl' yh' 4).2:=rfl;rw [e1]
   by_cases z:gp (ax xl' xh' yl' yh' 4).1 (ax xl' xh' yl' yh' 4).2 (ax xl xh yl yh 4).1 (ax xl xh yl yh 4).2=0
   . have q1:=gF (ax xl' xh' yl' yh' 4).1 (ax xl' xh' yl' yh' 4).2;have q2:=gF (ax xl xh yl yh 4).1 (ax xl xh yl yh 4).2;have same:aZ (ax xl' xh' yl' yh' 4).1 (ax xl' xh' yl' yh' 4).2=aZ (ax xl xh yl yh 4).1 (ax xl xh yl yh 4).2:=by unfold gp at z;omega
     have ex2:=ex same;cases e:fU (ax xl xh yl yh 4).1 (ax xl xh yl yh 4).2
     . split<;>simp<;>omega
     . rw [ex2 e];simp;omega
   . split<;>split<;>omega
