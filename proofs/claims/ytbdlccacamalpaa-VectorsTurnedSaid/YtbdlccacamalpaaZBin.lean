/- Plain integers: the directions of a part of a box lie within those of the box. -/
import Derived.Test.YtbdlccacamalpaaZMir
set_option linter.unusedVariables false
set_option linter.unusedSimpArgs false
namespace Alm
theorem Ck {px py qx qy:Int} (np:¬ (px=0/\py=0)) (nq:¬ (qx=0/\qy=0)) (hc:0<=crs px py qx qy) (hpx:dP px) (hpy:dP py) (hqx:dP qx) (hqy:dP qy) :
 (qT qx qy=qT px py/\bn px py<=bn qx qy)∨(qT qx qy=qT px py+5400000∨qT qx qy=qT px py-16200000) ∨
 ((qT qx qy=qT px py+10800000∨qT qx qy=qT px py-10800000)/\bn qx qy<=bn px py/\qX px py*qY qx qy<=qY px py*qX qx qy):=by
 have dp:=iD px py np hpx hpy;have dq:=iD qx qy nq hqx hqy;have bp:=q_bd px py 2147483648 np hpx hpy;have bq:=q_bd qx qy 2147483648 nq hqx hqy
 have same:crs px py qx qy=qX px py*qY qx qy-qY px py*qX qx qy->bn px py<=bn qx qy:=fun e =>
  El ⟨bp.1,bp.2.1⟩ ⟨bp.2.2.1,bp.2.2.2⟩ ⟨bq.1,bq.2.1⟩ ⟨bq.2.2.1,bq.2.2.2⟩ (by
   have:qX qx qy*qY px py=qY px py*qX qx qy:=Int.mul_comm _ _;omega) dp dq
 have opp:crs px py qx qy=-(qX px py*qY qx qy-qY px py*qX qx qy)->bn qx qy<=bn px py/\qX px py*qY qx qy<=qY px py*qX qx qy:=fun e =>
  ⟨El ⟨bq.1,bq.2.1⟩ ⟨bq.2.2.1,bq.2.2.2⟩ ⟨bp.1,bp.2.1⟩ ⟨bp.2.2.1,bp.2.2.2⟩ (by
   have:qX qx qy*qY px py=qY px py*qX qx qy:=Int.mul_comm _ _;omega) dq dp,by omega⟩
 have turn:crs px py qx qy=-(qX px py*qX qx qy+qY px py*qY qx qy)->False:=fun e=>by
  have a:=Int.mul_pos bp.1 bq.1;have b:=Int.mul_nonneg bp.2.2.1 bq.2.2.1;omega
 have hp:=xX px py np;have hq:=xX qx qy nq;unfold crs at same turn opp;generalize qX px py=X at *
 generalize qY px py=Y at *
 generalize qX qx qy=U at *
 generalize qY qx qy=V at *
 generalize qT px py=s at *
 generalize qT qx qy=t at *
 generalize bn px py=a at *
 generalize bn qx qy=b at *
 clear dp dq hc hpx hpy hqx hqy np nq bp bq
 rcases hp with ⟨rfl,rfl,rfl⟩|⟨rfl,rfl,rfl⟩|⟨rfl,rfl,rfl⟩|⟨rfl,rfl,rfl⟩<;>rcases hq with ⟨rfl,rfl,rfl⟩|⟨rfl,rfl,rfl⟩|⟨rfl,rfl,rfl⟩|⟨rfl,rfl,rfl⟩ <;>
  first
  | exact .inl ⟨rfl,same (by grind)⟩
  | exact .inr (.inl (by omega))
  | exact .inr (.inr ⟨by omega,opp (by grind)⟩)
  | exact (turn (by grind)).elim
def gp (px py qx qy:Int):Int:=(aG qx qy-aG px py)%21600000
theorem A7 (x y:Int) (h:¬ (x=0/\y=0)) (hx:dP x) (hy:dP y):bn x y<5400000:=(iD x y h hx hy).1
theorem EY {px py qx qy:Int} (np:¬ (px=0/\py=0)) (nq:¬ (qx=0/\qy=0)) (hc:0<=crs px py qx qy) (hpx:dP px) (hpy:dP py) (hqx:dP qx) (hqy:dP qy) :
 0<=gp px py qx qy/\gp px py qx qy<=10800000/\(gp px py qx qy=10800000->(qT qx qy=qT px py+10800000∨qT qx qy=qT px py-10800000)/\qX px py*qY qx qy<=qY px py*qX qx qy):=by
 have c:=Ck np nq hc hpx hpy hqx hqy;have a:=A7 px py np hpx hpy;have b:=A7 qx qy nq hqx hqy;unfold gp aG;rcases c with ⟨h1,h2⟩|h|⟨h1,h2,h3⟩
 . refine ⟨by omega,by omega,fun e=>by omega⟩
 . refine ⟨by omega,by omega,fun e=>by omega⟩
 . refine ⟨by omega,by omega,fun e=>⟨h1,h3⟩⟩
theorem Tj {u v px py qx qy rx ry:Int} (hp:0<u*px+v*py) (hq:0<u*qx+v*qy) (hr:0<u*rx+v*ry) (h1:0<=crs px py qx qy) (h2:0<=crs qx qy rx ry)
 (hpx:dP px) (hpy:dP py) (hqx:dP qx) (hqy:dP qy) (hrx:dP rx) (hry:dP ry):gp px py qx qy+gp qx qy rx ry=gp px py rx ry:=by
 have np:=Jj hp;have nq:=Jj hq;have nr:=Jj hr;have h3:=sG hp hq hr h1 h2;have b1:=EY np nq h1 hpx hpy hqx hqy;have b2:=EY nq nr h2 hqx hqy hrx hry;have b3:=EY np nr h3 hpx hpy hrx hry
 by_cases e:gp px py qx qy=10800000/\gp qx qy rx ry=10800000
 . exfalso;obtain ⟨t1,k1⟩:=b1.2.2 e.1;obtain ⟨t2,k2⟩:=b2.2.2 e.2;have bp:=q_bd px py 2147483648 np hpx hpy;have bq:=q_bd qx qy 2147483648 nq hqx hqy;have br:=q_bd rx ry 2147483648 nr hrx hry
   have k3:qX px py*qY rx ry<=qX rx ry*qY px py:=by
    have s1:=Int.mul_le_mul_of_nonneg_left k2 (Int.le_of_lt bp.1);have s2:=Int.mul_le_mul_of_nonneg_right k1 (Int.le_of_lt br.1);have s3:qX qx qy*(qX px py*qY rx ry)<=qX qx qy*(qX rx ry*qY px py):=by grind
    exact Int.le_of_mul_le_mul_left s3 bq.1
   have Hp:=xX px py np;have Hr:=xX rx ry nr
   have t3:qT rx ry=qT px py:=by
    have Hq:=xX qx qy nq;omega
   have k4:0<=crs rx ry px py:=by
    unfold crs;generalize qX px py=X at *
    generalize qY px py=Y at *
    generalize qX rx ry=U at *
    generalize qY rx ry=V at *
    generalize qT px py=s at *
    generalize qT rx ry=t at *
    clear bp bq br k1 k2 b1 b2 b3 hpx hpy hrx hry h1 h2 h3 hp hq hr np nq nr e t1 t2;rcases Hp with ⟨rfl,rfl,rfl⟩|⟨rfl,rfl,rfl⟩|⟨rfl,rfl,rfl⟩|⟨rfl,rfl,rfl⟩<;>rcases Hr with ⟨h,rfl,rfl⟩|⟨h,rfl,rfl⟩|⟨h,rfl,rfl⟩|⟨h,rfl,rfl⟩<;>first|omega|grind
   have k5:=sG hq hr hp h2 k4;have k6:=xw px py qx qy;have s:=(Tc hp hq (by omega) hpx hpy hqx hqy).1
   have e1:=e.1;unfold gp at e1;omega
 . unfold gp at *
   omega
theorem KM {px py qx qy:Int} (e:Bool):upE (aG px py) (aG qx qy) e=aG px py+gp px py qx qy+(if e then 0 else 1):=by
 have a:=jH px py;have b:=jH qx qy;unfold upE gp;cases e<;>simp only [Bool.false_eq_true,if_false,if_true]<;>split<;>omega
theorem Su {fx fy xl xh yl yh x y:Int} (hx:xl<=x/\x<=xh) (hy:yl<=y/\y<=yh) (H:∀ px py:Int,(px=xl∨px=xh)->(py=yl∨py=yh)->0<=fx*py-fy*px):0<=fx*y-fy*x:=by
 rcases Int.le_total 0 fx with h|h<;>rcases Int.le_total 0 fy with k|k
 . have:=H xh yl (.inr rfl) (.inl rfl);have a:=Int.mul_le_mul_of_nonneg_left hy.1 h;have b:=Int.mul_le_mul_of_nonneg_left hx.2 k;omega
 . have:=H xl yl (.inl rfl) (.inl rfl);have a:=Int.mul_le_mul_of_nonneg_left hy.1 h;have b:=Int.mul_le_mul_of_nonpos_left k hx.1;omega
 . have:=H xh yh (.inr rfl) (.inr rfl);have a:=Int.mul_le_mul_of_nonpos_left h hy.2;have b:=Int.mul_le_mul_of_nonneg_left hx.2 k;omega
 . have:=H xl yh (.inl rfl) (.inr rfl);have a:=Int.mul_le_mul_of_nonpos_left h hy.2;have b:=Int.mul_le_mul_of_nonpos_left k hx.1;omega
theorem SS {u v xl xh yl yh x y:Int} (hx:xl<=x/\x<=xh) (hy:yl<=y/\y<=yh) (H:∀ px py:Int,(px=xl∨px=xh)->(py=yl∨py=yh)->0<u*px+v*py):0<u*x+v*y:=by
 rcases Int.le_total 0 u with h|h<;>rcases Int.le_total 0 v with k|k
 . have:=H xl yl (.inl rfl) (.inl rfl);have a:=Int.mul_le_mul_of_nonneg_left hx.1 h;have b:=Int.mul_le_mul_of_nonneg_left hy.1 k;omega
 . have:=H xl yh (.inl rfl) (.inr rfl);have a:=Int.mul_le_mul_of_nonneg_left hx.1 h;have b:=Int.mul_le_mul_of_nonpos_left k hy.2;omega
 . have:=H xh yl (.inr rfl) (.inl rfl);have a:=Int.mul_le_mul_of_nonpos_left h hx.2;have b:=Int.mul_le_mul_of_nonneg_left hy.1 k;omega
 . have:=H xh yh (.inr rfl) (.inr rfl);have a:=Int.mul_le_mul_of_nonpos_left h hx.2;have b:=Int.mul_le_mul_of_nonpos_left k hy.2;omega
theorem Sk {yl yh xl xh yl' yh' xl' xh':Int} (hy:yl<=yl'/\yl'<=yh'/\yh'<=yh) (hx:xl<=xl'/\xl'<=xh'/\xh'<=xh) (hy2:-2147483648<=yl/\yh<=2147483648) (hx2:-2147483648<=xl/\xh<=2147483648) :
 (ay yl yh xl xh=0/\aU yl yh xl xh=21600000)∨(ay yl' yh' xl' xh'-ay yl yh xl xh)%21600000+(aU yl' yh' xl' xh'-ay yl' yh' xl' xh')<=aU yl yh xl xh-ay yl yh xl xh:=by
 by_cases ho:xl<=0/\0<=xh/\yl<=0/\0<=yh
 . have eo:bY yl yh xl xh=true:=by unfold bY;simp only [decide_eq_true_eq];exact ho
   exact .inl ⟨by unfold ay;rw [eo];rfl,by unfold aU;rw [eo];rfl⟩
 . right
   have eo:bY yl yh xl xh=false:=by unfold bY;simp only [decide_eq_false_iff_not];exact ho
   have eo':bY yl' yh' xl' xh'=false:=by unfold bY;simp only [decide_eq_false_iff_not];omega
   obtain ⟨u,v,H⟩:=FE (show yl<=yh by omega) (show xl<=xh by omega) ho
   have H':∀ px py:Int,(px=xl'∨px=xh')->(py=yl'∨py=yh')->0<u*px+v*py:=fun px py h k=>SS (by omega) (by omega) H
   have fi:=jg xl xh yl yh 4;have li:=oI xl xh yl yh 4;have fi':=jg xl' xh' yl' yh' 4;have li':=oI xl' xh' yl' yh' 4;have hf:=H _ _ fi.1 fi.2;have hl:=H _ _ li.1 li.2;have hf':=H' _ _ fi'.1 fi'.2;have hl':=H' _ _ li'.1 li'.2
   have c1:0<=crs (aH xl xh yl yh 4).1 (aH xl xh yl yh 4).2 (aH xl' xh' yl' yh' 4).1 (aH xl' xh' yl' yh' 4).2:=by
    unfold crs;refine Su (xl:=xl) (xh:=xh) (yl:=yl) (yh:=yh) (by omega) (by omega) fun px py h k=>?_
    obtain ⟨j,hj,e1,e2⟩:=tQ xl xh yl yh _ _ h k;rw [<-e1,<-e2];exact vT H 4 j hj
   have c2:0<=crs (aH xl' xh' yl' yh' 4).1 (aH xl' xh' yl' yh' 4).2 (aP xl' xh' yl' yh' 4).1 (aP xl' xh' yl' yh' 4).2:=by
    obtain ⟨j,hj,e1,e2⟩:=tQ xl' xh' yl' yh' _ _ li'.1 li'.2;rw [<-e1,<-e2];exact vT H' 4 j hj
   have c3:0<=crs (aP xl' xh' yl' yh' 4).1 (aP xl' xh' yl' yh' 4).2 (aP xl xh yl yh 4).1 (aP xl xh yl yh 4).2:=by
    have a:=Su (fx:=-(aP xl xh yl yh 4).1) (fy:=-(aP xl xh yl yh 4).2) (x:=(aP xl' xh' yl' yh' 4).1) (y:=(aP xl' xh' yl' yh' 4).2) (xl:=xl) (xh:=xh) (yl:=yl) (yh:=yh) (by omega) (by omega) fun px py h k=>by
     obtain ⟨j,hj,e1,e2⟩:=tQ xl xh yl yh _ _ h k;rw [<-e1,<-e2];have:=yU H 4 j hj;unfold crs at this;grind
    unfold crs;grind
   have bx:∀ p:Int,(p=xl∨p=xh)->dP p:=fun p h=>by unfold dP;omega
   have bY:∀ p:Int,(p=yl∨p=yh)->dP p:=fun p h=>by unfold dP;omega
   have bx':∀ p:Int,(p=xl'∨p=xh')->dP p:=fun p h=>by unfold dP;omega
   have bY':∀ p:Int,(p=yl'∨p=yh')->dP p:=fun p h=>by unfold dP;omega
   have c12:=sG hf hf' hl' c1 c2;have g1:=Tj hf hf' hl' c1 c2 (bx _ fi.1) (bY _ fi.2) (bx' _ fi'.1) (bY' _ fi'.2) (bx' _ li'.1) (bY' _ li'.2);have g2:=Tj hf hl' hl c12 c3 (bx _ fi.1) (bY _ fi.2) (bx' _ li'.1) (bY' _ li'.2) (bx _ li.1) (bY _ li.2);have g3:=(EY (Jj hl') (Jj hl) c3 (bx' _ li'.1) (bY' _ li'.2) (bx _ li.1) (bY _ li.2)).1;have ex:=fun h hf=>SL (Jj hl') (Jj hl) c3 (bx' _ li'.1) (bY' _ li'.2) (bx _ li.1) (bY _ li.2) h hf
   have l:ay yl yh xl xh=aG (aH xl xh yl yh 4).1 (aH xl xh yl yh 4).2:=by unfold ay;rw [eo];rfl
   have l':ay yl' yh' xl' xh'=aG (aH xl' xh' yl' yh' 4).1 (aH xl' xh' yl' yh' 4).2:=by unfold ay;rw [eo'];rfl
   have h:aU yl yh xl xh=upE (ay yl yh xl xh) (aG (aP xl xh yl yh 4).1 (aP xl xh yl yh 4).2) (jl (aP xl xh yl yh 4).1 (aP xl xh yl yh 4).2):=by unfold aU;rw [eo];rfl
   have h':aU yl' yh' xl' xh'=upE (ay yl' yh' xl' xh') (aG (aP xl' xh' yl' yh' 4).1 (aP xl' xh' yl' yh' 4).2) (jl (aP xl' xh' yl' yh' 4).1 (aP xl' xh' yl' yh' 4).2):=by unfold aU;rw [eo'];rfl
   rw [h,h',l,l',KM,KM];have e1:(aG (aH xl' xh' yl' yh' 4).1 (aH xl' xh' yl' yh' 4).2-aG (aH xl xh yl yh 4).1 (aH xl xh yl yh 4).2)%21600000=gp (aH xl xh yl yh 4).1 (aH xl xh yl yh 4).2 (aH xl' xh' yl' yh' 4).1 (aH xl' xh' yl' yh' 4).2:=rfl;rw [e1]
   by_cases z:gp (aP xl' xh' yl' yh' 4).1 (aP xl' xh' yl' yh' 4).2 (aP xl xh yl yh 4).1 (aP xl xh yl yh 4).2=0
   . have q1:=jH (aP xl' xh' yl' yh' 4).1 (aP xl' xh' yl' yh' 4).2;have q2:=jH (aP xl xh yl yh 4).1 (aP xl xh yl yh 4).2;have same:aG (aP xl' xh' yl' yh' 4).1 (aP xl' xh' yl' yh' 4).2=aG (aP xl xh yl yh 4).1 (aP xl xh yl yh 4).2:=by unfold gp at z;omega
     have ex2:=ex same;cases e:jl (aP xl xh yl yh 4).1 (aP xl xh yl yh 4).2
     . split<;>simp<;>omega
     . rw [ex2 e];simp;omega
   . split<;>split<;>omega
