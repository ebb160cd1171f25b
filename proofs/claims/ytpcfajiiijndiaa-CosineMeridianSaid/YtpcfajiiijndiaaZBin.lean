/- Plain integers: the directions of a part of a box lie within those of the box. -/
import Derived.Test.YtpcfajiiijndiaaZMir
import Derived.Test.YtpcfajiiijndiaaZUnMB
set_option linter.unusedVariables false
set_option linter.unusedSimpArgs false
namespace Alm
theorem Gh {px py qx qy:Int} (np:¬ (px=0/\py=0)) (nq:¬ (qx=0/\qy=0)) (hc:0<=crs px py qx qy) (hpx:fI px) (hpy:fI py) (hqx:fI qx) (hqy:fI qy) :
 (qT qx qy=qT px py/\gZ px py<=gZ qx qy)∨(qT qx qy=qT px py+5400000∨qT qx qy=qT px py-16200000) ∨
 ((qT qx qy=qT px py+10800000∨qT qx qy=qT px py-10800000)/\gZ qx qy<=gZ px py/\qX px py*qY qx qy<=qY px py*qX qx qy):=by
 have dp:=eG px py np hpx hpy;have dq:=eG qx qy nq hqx hqy;have bp:=q_bd px py 2147483648 np hpx hpy;have bq:=q_bd qx qy 2147483648 nq hqx hqy
 have same:crs px py qx qy=qX px py*qY qx qy-qY px py*qX qx qy->gZ px py<=gZ qx qy:=fun e =>
  tH ⟨bp.1,bp.2.1⟩ ⟨bp.2.2.1,bp.2.2.2⟩ ⟨bq.1,bq.2.1⟩ ⟨bq.2.2.1,bq.2.2.2⟩ (by
   have:qX qx qy*qY px py=qY px py*qX qx qy:=Int.mul_comm _ _;omega) dp dq
 have opp:crs px py qx qy=-(qX px py*qY qx qy-qY px py*qX qx qy)->gZ qx qy<=gZ px py/\qX px py*qY qx qy<=qY px py*qX qx qy:=fun e =>
  ⟨tH ⟨bq.1,bq.2.1⟩ ⟨bq.2.2.1,bq.2.2.2⟩ ⟨bp.1,bp.2.1⟩ ⟨bp.2.2.1,bp.2.2.2⟩ (by
   have:qX qx qy*qY px py=qY px py*qX qx qy:=Int.mul_comm _ _;omega) dq dp,by omega⟩
 have turn:crs px py qx qy=-(qX px py*qX qx qy+qY px py*qY qx qy)->False:=fun e=>by
  have a:=Int.mul_pos bp.1 bq.1;have b:=Int.mul_nonneg bp.2.2.1 bq.2.2.1;omega
 have hp:=xQ px py np;have hq:=xQ qx qy nq;unfold crs at same turn opp;generalize qX px py=X at *
 generalize qY px py=Y at *
 generalize qX qx qy=U at *
 generalize qY qx qy=V at *
 generalize qT px py=s at *
 generalize qT qx qy=t at *
 generalize gZ px py=a at *
 generalize gZ qx qy=b at *
 clear dp dq hc hpx hpy hqx hqy np nq bp bq
 rcases hp with ⟨rfl,rfl,rfl⟩|⟨rfl,rfl,rfl⟩|⟨rfl,rfl,rfl⟩|⟨rfl,rfl,rfl⟩<;>rcases hq with ⟨rfl,rfl,rfl⟩|⟨rfl,rfl,rfl⟩|⟨rfl,rfl,rfl⟩|⟨rfl,rfl,rfl⟩ <;>
  first
  | exact .inl ⟨rfl,same (by grind)⟩
  | exact .inr (.inl (by omega))
  | exact .inr (.inr ⟨by omega,opp (by grind)⟩)
  | exact (turn (by grind)).elim
def gp (px py qx qy:Int):Int:=(bX qx qy-bX px py)%21600000
theorem Em (x y:Int) (h:¬ (x=0/\y=0)) (hx:fI x) (hy:fI y):gZ x y<5400000:=(eG x y h hx hy).1
theorem Dp {px py qx qy:Int} (np:¬ (px=0/\py=0)) (nq:¬ (qx=0/\qy=0)) (hc:0<=crs px py qx qy) (hpx:fI px) (hpy:fI py) (hqx:fI qx) (hqy:fI qy) :
 0<=gp px py qx qy/\gp px py qx qy<=10800000/\(gp px py qx qy=10800000->(qT qx qy=qT px py+10800000∨qT qx qy=qT px py-10800000)/\qX px py*qY qx qy<=qY px py*qX qx qy):=by
 have c:=Gh np nq hc hpx hpy hqx hqy;have a:=Em px py np hpx hpy;have b:=Em qx qy nq hqx hqy;unfold gp bX;rcases c with ⟨h1,h2⟩|h|⟨h1,h2,h3⟩
 . refine ⟨by omega,by omega,fun e=>by omega⟩
 . refine ⟨by omega,by omega,fun e=>by omega⟩
 . refine ⟨by omega,by omega,fun e=>⟨h1,h3⟩⟩
theorem Kk {u v px py qx qy rx ry:Int} (hp:0<u*px+v*py) (hq:0<u*qx+v*qy) (hr:0<u*rx+v*ry) (h1:0<=crs px py qx qy) (h2:0<=crs qx qy rx ry)
 (hpx:fI px) (hpy:fI py) (hqx:fI qx) (hqy:fI qy) (hrx:fI rx) (hry:fI ry):gp px py qx qy+gp qx qy rx ry=gp px py rx ry:=by
 have np:=mR hp;have nq:=mR hq;have nr:=mR hr;have h3:=iQ hp hq hr h1 h2;have b1:=Dp np nq h1 hpx hpy hqx hqy;have b2:=Dp nq nr h2 hqx hqy hrx hry;have b3:=Dp np nr h3 hpx hpy hrx hry
 by_cases e:gp px py qx qy=10800000/\gp qx qy rx ry=10800000
 . exfalso;obtain ⟨t1,k1⟩:=b1.2.2 e.1;obtain ⟨t2,k2⟩:=b2.2.2 e.2;have bp:=q_bd px py 2147483648 np hpx hpy;have bq:=q_bd qx qy 2147483648 nq hqx hqy;have br:=q_bd rx ry 2147483648 nr hrx hry
   have k3:qX px py*qY rx ry<=qX rx ry*qY px py:=by
    have s1:=Int.mul_le_mul_of_nonneg_left k2 (Int.le_of_lt bp.1);have s2:=Int.mul_le_mul_of_nonneg_right k1 (Int.le_of_lt br.1);have s3:qX qx qy*(qX px py*qY rx ry)<=qX qx qy*(qX rx ry*qY px py):=by grind
    exact Int.le_of_mul_le_mul_left s3 bq.1
   have Hp:=xQ px py np;have Hr:=xQ rx ry nr
   have t3:qT rx ry=qT px py:=by
    have Hq:=xQ qx qy nq;omega
   have k4:0<=crs rx ry px py:=by
    unfold crs;generalize qX px py=X at *
    generalize qY px py=Y at *
    generalize qX rx ry=U at *
    generalize qY rx ry=V at *
    generalize qT px py=s at *
    generalize qT rx ry=t at *
    clear bp bq br k1 k2 b1 b2 b3 hpx hpy hrx hry h1 h2 h3 hp hq hr np nq nr e t1 t2;rcases Hp with ⟨rfl,rfl,rfl⟩|⟨rfl,rfl,rfl⟩|⟨rfl,rfl,rfl⟩|⟨rfl,rfl,rfl⟩<;>rcases Hr with ⟨h,rfl,rfl⟩|⟨h,rfl,rfl⟩|⟨h,rfl,rfl⟩|⟨h,rfl,rfl⟩<;>first|omega|grind
   have k5:=iQ hq hr hp h2 k4;have k6:=rM px py qx qy;have s:=(Il hp hq (by omega) hpx hpy hqx hqy).1
   have e1:=e.1;unfold gp at e1;omega
 . unfold gp at *
   omega
theorem I8 {px py qx qy:Int} (e:Bool):upE (bX px py) (bX qx qy) e=bX px py+gp px py qx qy+(if e then 0 else 1):=by
 have a:=fZ px py;have b:=fZ qx qy;unfold upE gp;cases e<;>simp only [Bool.false_eq_true,if_false,if_true]<;>split<;>omega
theorem zu {fx fy xl xh yl yh x y:Int} (hx:xl<=x/\x<=xh) (hy:yl<=y/\y<=yh) (H:∀ px py:Int,(px=xl∨px=xh)->(py=yl∨py=yh)->0<=fx*py-fy*px):0<=fx*y-fy*x:=by
 rcases Int.le_total 0 fx with h|h<;>rcases Int.le_total 0 fy with k|k
 . have:=H xh yl (.inr rfl) (.inl rfl);have a:=Int.mul_le_mul_of_nonneg_left hy.1 h;have b:=Int.mul_le_mul_of_nonneg_left hx.2 k;omega
 . have:=H xl yl (.inl rfl) (.inl rfl);have a:=Int.mul_le_mul_of_nonneg_left hy.1 h;have b:=Int.mul_le_mul_of_nonpos_left k hx.1;omega
 . have:=H xh yh (.inr rfl) (.inr rfl);have a:=Int.mul_le_mul_of_nonpos_left h hy.2;have b:=Int.mul_le_mul_of_nonneg_left hx.2 k;omega
 . have:=H xl yh (.inl rfl) (.inr rfl);have a:=Int.mul_le_mul_of_nonpos_left h hy.2;have b:=Int.mul_le_mul_of_nonpos_left k hx.1;omega
theorem Kn {u v xl xh yl yh x y:Int} (hx:xl<=x/\x<=xh) (hy:yl<=y/\y<=yh) (H:∀ px py:Int,(px=xl∨px=xh)->(py=yl∨py=yh)->0<u*px+v*py):0<u*x+v*y:=by
 rcases Int.le_total 0 u with h|h<;>rcases Int.le_total 0 v with k|k
 . have:=H xl yl (.inl rfl) (.inl rfl);have a:=Int.mul_le_mul_of_nonneg_left hx.1 h;have b:=Int.mul_le_mul_of_nonneg_left hy.1 k;omega
 . have:=H xl yh (.inl rfl) (.inr rfl);have a:=Int.mul_le_mul_of_nonneg_left hx.1 h;have b:=Int.mul_le_mul_of_nonpos_left k hy.2;omega
 . have:=H xh yl (.inr rfl) (.inl rfl);have a:=Int.mul_le_mul_of_nonpos_left h hx.2;have b:=Int.mul_le_mul_of_nonneg_left hy.1 k;omega
 . have:=H xh yh (.inr rfl) (.inr rfl);have a:=Int.mul_le_mul_of_nonpos_left h hx.2;have b:=Int.mul_le_mul_of_nonpos_left k hy.2;omega
theorem ww {yl yh xl xh yl' yh' xl' xh':Int} (hy:yl<=yl'/\yl'<=yh'/\yh'<=yh) (hx:xl<=xl'/\xl'<=xh'/\xh'<=xh) (hy2:-2147483648<=yl/\yh<=2147483648) (hx2:-2147483648<=xl/\xh<=2147483648) :
 (bf yl yh xl xh=0/\bK yl yh xl xh=21600000)∨(bf yl' yh' xl' xh'-bf yl yh xl xh)%21600000+(bK yl' yh' xl' xh'-bf yl' yh' xl' xh')<=bK yl yh xl xh-bf yl yh xl xh:=by
 by_cases ho:xl<=0/\0<=xh/\yl<=0/\0<=yh
 . have eo:dY yl yh xl xh=true:=by unfold dY;simp only [decide_eq_true_eq];exact ho
   exact .inl ⟨by unfold bf;rw [eo];rfl,by unfold bK;rw [eo];rfl⟩
 . right
   have eo:dY yl yh xl xh=false:=by unfold dY;simp only [decide_eq_false_iff_not];exact ho
   have eo':dY yl' yh' xl' xh'=false:=by unfold dY;simp only [decide_eq_false_iff_not];omega
   obtain ⟨u,v,H⟩:=zq (show yl<=yh by omega) (show xl<=xh by omega) ho
   have H':∀ px py:Int,(px=xl'∨px=xh')->(py=yl'∨py=yh')->0<u*px+v*py:=fun px py h k=>Kn (by omega) (by omega) H
   have fi:=iq xl xh yl yh 4;have li:=jy xl xh yl yh 4;have fi':=iq xl' xh' yl' yh' 4;have li':=jy xl' xh' yl' yh' 4;have hf:=H _ _ fi.1 fi.2;have hl:=H _ _ li.1 li.2;have hf':=H' _ _ fi'.1 fi'.2;have hl':=H' _ _ li'.1 li'.2
   have c1:0<=crs (aA xl xh yl yh 4).1 (aA xl xh yl yh 4).2 (aA xl' xh' yl' yh' 4).1 (aA xl' xh' yl' yh' 4).2:=by
    unfold crs;refine zu (xl:=xl) (xh:=xh) (yl:=yl) (yh:=yh) (by omega) (by omega) fun px py h k=>?_
    obtain ⟨j,hj,e1,e2⟩:=kN xl xh yl yh _ _ h k;rw [<-e1,<-e2];exact kv H 4 j hj
   have c2:0<=crs (aA xl' xh' yl' yh' 4).1 (aA xl' xh' yl' yh' 4).2 (aB xl' xh' yl' yh' 4).1 (aB xl' xh' yl' yh' 4).2:=by
    obtain ⟨j,hj,e1,e2⟩:=kN xl' xh' yl' yh' _ _ li'.1 li'.2;rw [<-e1,<-e2];exact kv H' 4 j hj
   have c3:0<=crs (aB xl' xh' yl' yh' 4).1 (aB xl' xh' yl' yh' 4).2 (aB xl xh yl yh 4).1 (aB xl xh yl yh 4).2:=by
    have a:=zu (fx:=-(aB xl xh yl yh 4).1) (fy:=-(aB xl xh yl yh 4).2) (x:=(aB xl' xh' yl' yh' 4).1) (y:=(aB xl' xh' yl' yh' 4).2) (xl:=xl) (xh:=xh) (yl:=yl) (yh:=yh) (by omega) (by omega) fun px py h k=>by
     obtain ⟨j,hj,e1,e2⟩:=kN xl xh yl yh _ _ h k;rw [<-e1,<-e2];have:=Bt H 4 j hj;unfold crs at this;grind
    unfold crs;grind
   have bx:∀ p:Int,(p=xl∨p=xh)->fI p:=fun p h=>by unfold fI;omega
   have bY:∀ p:Int,(p=yl∨p=yh)->fI p:=fun p h=>by unfold fI;omega
   have bx':∀ p:Int,(p=xl'∨p=xh')->fI p:=fun p h=>by unfold fI;omega
   have bY':∀ p:Int,(p=yl'∨p=yh')->fI p:=fun p h=>by unfold fI;omega
   have c12:=iQ hf hf' hl' c1 c2;have g1:=Kk hf hf' hl' c1 c2 (bx _ fi.1) (bY _ fi.2) (bx' _ fi'.1) (bY' _ fi'.2) (bx' _ li'.1) (bY' _ li'.2);have g2:=Kk hf hl' hl c12 c3 (bx _ fi.1) (bY _ fi.2) (bx' _ li'.1) (bY' _ li'.2) (bx _ li.1) (bY _ li.2);have g3:=(Dp (mR hl') (mR hl) c3 (bx' _ li'.1) (bY' _ li'.2) (bx _ li.1) (bY _ li.2)).1;have ex:=fun h hf=>GU (mR hl') (mR hl) c3 (bx' _ li'.1) (bY' _ li'.2) (bx _ li.1) (bY _ li.2) h hf
   have l:bf yl yh xl xh=bX (aA xl xh yl yh 4).1 (aA xl xh yl yh 4).2:=by unfold bf;rw [eo];rfl
   have l':bf yl' yh' xl' xh'=bX (aA xl' xh' yl' yh' 4).1 (aA xl' xh' yl' yh' 4).2:=by unfold bf;rw [eo'];rfl
   have h:bK yl yh xl xh=upE (bf yl yh xl xh) (bX (aB xl xh yl yh 4).1 (aB xl xh yl yh 4).2) (iA (aB xl xh yl yh 4).1 (aB xl xh yl yh 4).2):=by unfold bK;rw [eo];rfl
   have h':bK yl' yh' xl' xh'=upE (bf yl' yh' xl' xh') (bX (aB xl' xh' yl' yh' 4).1 (aB xl' xh' yl' yh' 4).2) (iA (aB xl' xh' yl' yh' 4).1 (aB xl' xh' yl' yh' 4).2):=by unfold bK;rw [eo'];rfl
   rw [h,h',l,l',I8,I8];have e1:(bX (aA xl' xh' yl' yh' 4).1 (aA xl' xh' yl' yh' 4).2-bX (aA xl xh yl yh 4).1 (aA xl xh yl yh 4).2)%21600000=gp (aA xl xh yl yh 4).1 (aA xl xh yl yh 4).2 (aA xl' xh' yl' yh' 4).1 (aA xl' xh' yl' yh' 4).2:=rfl;rw [e1]
   by_cases z:gp (aB xl' xh' yl' yh' 4).1 (aB xl' xh' yl' yh' 4).2 (aB xl xh yl yh 4).1 (aB xl xh yl yh 4).2=0
   . have q1:=fZ (aB xl' xh' yl' yh' 4).1 (aB xl' xh' yl' yh' 4).2;have q2:=fZ (aB xl xh yl yh 4).1 (aB xl xh yl yh 4).2;have same:bX (aB xl' xh' yl' yh' 4).1 (aB xl' xh' yl' yh' 4).2=bX (aB xl xh yl yh 4).1 (aB xl xh yl yh 4).2:=by unfold gp at z;omega
     have ex2:=ex same;cases e:iA (aB xl xh yl yh 4).1 (aB xl xh yl yh 4).2
     . split<;>simp<;>omega
     . rw [ex2 e];simp;omega
   . split<;>split<;>omega
end Alm
namespace Go.Proofs.Ytpcfajiiijndiaa
open Go.RowKit Alm Sx
theorem nK (m n:Int) (h0:-5400000<=m) (h:m<=n) (h1:n<=5400000):bLo m<=bLo n/\bHi m<=bHi n:=by
 rcases Int.lt_or_eq_of_le h with q|q
 . have a:=Bl m n h0 q h1;have b:=jU n;have c:=jU m;exact ⟨by omega,by omega⟩
 . subst q;exact ⟨Int.le_refl _,Int.le_refl _⟩
theorem ql (m n:Int) (h:m%21600000=n%21600000):bLo m=bLo n/\bHi m=bHi n:=by
 have e:av m=av n:=h;unfold bLo bHi bU aG;rw [e];exact ⟨rfl,rfl⟩
theorem IB (n:Int) (h0:5400000<=n) (h1:n<=16200000):bLo n=bLo (10800000-n)/\bHi n=bHi (10800000-n):=by
 by_cases e:n=5400000
 . subst e;exact ⟨rfl,rfl⟩
 by_cases e2:n=16200000
 . subst e2;have:=ql 16200000 (-5400000) (by decide)
   exact this
 have f:aG n=aG (10800000-n)/\(bU n=bU (10800000-n)∨n=10800000):=by
  unfold aG bU av;refine ⟨by simp only [];split<;>split<;>(try split)<;>(try split)<;>omega,?_⟩
  by_cases g:n=10800000
  . exact .inr g
  . left;rw [Bool.eq_iff_iff];simp only [decide_eq_true_eq];omega
 rcases f.2 with s|s
 . unfold bLo bHi;rw [f.1,s];exact ⟨rfl,rfl⟩
 . subst s;decide +kernel
theorem UX (a x c:Int) (h0:-5400000<=a) (h1:a<=x) (h2:x<=c) (h3:c<=16200000):min (bLo a) (bLo c)<=bLo x:=by
 by_cases h:x<=5400000
 . have:=nK a x h0 h1 h;omega
 . have r1:=IB x (by omega) (by omega)
   have r2:=IB c (by omega) (by omega)
   have:=nK (10800000-c) (10800000-x) (by omega) (by omega) (by omega)
   omega
theorem Jl (n:Int) (h0:-16200000<=n) (h1:n<=-5400000):bLo n=bLo (-10800000-n)/\bHi n=bHi (-10800000-n):=by
 have a:=ql n (n+21600000) (by omega)
 have b:=IB (n+21600000) (by omega) (by omega)
 rw [show 10800000-(n+21600000)=-10800000-n by omega] at b
 exact ⟨a.1.trans b.1,a.2.trans b.2⟩
theorem Q7 (a x c:Int) (h0:-16200000<=a) (h1:a<=x) (h2:x<=c) (h3:c<=5400000):bHi x<=max (bHi a) (bHi c):=by
 by_cases h:-5400000<=x
 . have:=nK x c h h2 h3;omega
 . have r1:=Jl x (by omega) (by omega)
   have r2:=Jl a (by omega) (by omega)
   have:=nK (-10800000-x) (-10800000-a) (by omega) (by omega) (by omega)
   omega
theorem zt (l h x:Int) (h1:l<=x) (h2:x<=h) (m:dX l h 16200000=false):min (bLo l) (bLo h)<=bLo x:=by
 unfold dX av at m;simp only [decide_eq_false_iff_not] at m;have e:=Int.emod_add_mul_ediv (l+5400000) 21600000;generalize (l+5400000)/21600000=k at e;have b:=Int.emod_nonneg (l+5400000) (show (21600000:Int)≠0 by decide)
 have b2:=Int.emod_lt_of_pos (l+5400000) (show (0:Int)<21600000 by decide)
 generalize (l+5400000)%21600000=a at *
 have p1:=(ql l (l-21600000*k) (by omega)).1
 have p2:=(ql h (h-21600000*k) (by omega)).1
 have p3:=(ql x (x-21600000*k) (by omega)).1
 rw [p1,p2,p3];exact UX _ _ _ (by omega) (by omega) (by omega) (by omega)
theorem zI (l h x:Int) (h1:l<=x) (h2:x<=h) (m:dX l h 5400000=false):bHi x<=max (bHi l) (bHi h):=by
 unfold dX av at m;simp only [decide_eq_false_iff_not] at m;have e:=Int.emod_add_mul_ediv (l+16200000) 21600000;generalize (l+16200000)/21600000=k at e;have b:=Int.emod_nonneg (l+16200000) (show (21600000:Int)≠0 by decide)
 have b2:=Int.emod_lt_of_pos (l+16200000) (show (0:Int)<21600000 by decide)
 generalize (l+16200000)%21600000=a at *
 have p1:=(ql l (l-21600000*k) (by omega)).2
 have p2:=(ql h (h-21600000*k) (by omega)).2
 have p3:=(ql x (x-21600000*k) (by omega)).2
 rw [p1,p2,p3];exact Q7 _ _ _ (by omega) (by omega) (by omega) (by omega)
theorem rD (l h l' h' n:Int) (h1:l<=l') (h2:l'<=h') (h3:h'<=h) (m:dX l h n=false):dX l' h' n=false:=by
 unfold dX av at *
 simp only [decide_eq_false_iff_not] at *
 omega
theorem LQ (l h l' h':Int) (h1:l<=l') (h2:l'<=h') (h3:h'<=h):bM l h<=bM l' h'/\bP l' h'<=bP l h:=by
 have b:=uF l' h'
 constructor
 . cases m:dX l h 16200000
   . have m':=rD l h l' h' _ h1 h2 h3 m;have a:=zt l h l' h1 (by omega) m
     have c:=zt l h h' (by omega) h3 m
     unfold bM;rw [m,m'];simp only [Bool.false_eq_true,if_false];omega
   . have:bM l h=-1073741824:=by unfold bM;rw [m];rfl
     omega
 . cases m:dX l h 5400000
   . have m':=rD l h l' h' _ h1 h2 h3 m;have a:=zI l h l' h1 (by omega) m
     have c:=zI l h h' (by omega) h3 m
     unfold bP;rw [m,m'];simp only [Bool.false_eq_true,if_false];omega
   . have:bP l h=1073741824:=by unfold bP;rw [m];rfl
     omega
theorem mO {a b x y:Int} (h1:a<=x) (h2:x<=b):min (a*y) (b*y)<=x*y/\x*y<=max (a*y) (b*y):=by
 rcases Int.le_total 0 y with h|h
 . have p:=Int.mul_le_mul_of_nonneg_right h1 h;have q:=Int.mul_le_mul_of_nonneg_right h2 h;omega
 . have p:=Int.mul_le_mul_of_nonpos_right h1 h;have q:=Int.mul_le_mul_of_nonpos_right h2 h;omega
theorem xm {a b c d x y:Int} (h1:a<=x) (h2:x<=b) (h3:c<=y) (h4:y<=d):mn4 a b c d<=x*y/\x*y<=mx4 a b c d:=by
 have p:=mO (y:=y) h1 h2;have q:=mO (y:=a) h3 h4;have r:=mO (y:=b) h3 h4;rw [Int.mul_comm c a,Int.mul_comm d a,Int.mul_comm y a] at q;rw [Int.mul_comm c b,Int.mul_comm d b,Int.mul_comm y b] at r;unfold mn4 mx4;omega
theorem KM {a b c d a' b' c' d':Int} (h1:a<=a'/\a'<=b'/\b'<=b) (h2:c<=c'/\c'<=d'/\d'<=d):mn4 a b c d<=mn4 a' b' c' d'/\mx4 a' b' c' d'<=mx4 a b c d:=by
 have p1:=xm (a:=a) (b:=b) (c:=c) (d:=d) (x:=a') (y:=c') (by omega) (by omega) (by omega) (by omega)
 have p2:=xm (a:=a) (b:=b) (c:=c) (d:=d) (x:=a') (y:=d') (by omega) (by omega) (by omega) (by omega)
 have p3:=xm (a:=a) (b:=b) (c:=c) (d:=d) (x:=b') (y:=c') (by omega) (by omega) (by omega) (by omega)
 have p4:=xm (a:=a) (b:=b) (c:=c) (d:=d) (x:=b') (y:=d') (by omega) (by omega) (by omega) (by omega)
 have e1:mn4 a' b' c' d'=min (min (min (a'*c') (a'*d')) (b'*c')) (b'*d'):=rfl;have e2:mx4 a' b' c' d'=max (max (max (a'*c') (a'*d')) (b'*c')) (b'*d'):=rfl;omega
theorem Jj {a b c d a' b' c' d':Int} (h1:a<=a'/\a'<=b'/\b'<=b) (h2:c<=c'/\c'<=d'/\d'<=d):iN a b c d<=iN a' b' c' d'/\iW a' b' c' d'<=iW a b c d:=by
 have p:=KM h1 h2;unfold iN iW;omega
def Pt (q p:IV):Prop:=p.1<=q.1/\q.1<=q.2/\q.2<=p.2
theorem Bj {a b a' b':Int} (h:a<=a'/\a'<=b'/\b'<=b):Pt (uS a' b') (uS a b):=by
 have p:=LQ a b a' b' h.1 h.2.1 h.2.2;have q:=uF a' b'
 unfold Pt uS;simp only;omega
theorem zf {a b a' b':Int} (h:a<=a'/\a'<=b'/\b'<=b):Pt (uC a' b') (uC a b):=Bj (a:=a+5400000) (b:=b+5400000) (a':=a'+5400000) (b':=b'+5400000) (by omega)
theorem WH {p q:IV} (h:Pt q p):Pt (uN q) (uN p):=by unfold Pt uN at *;simp only;omega
theorem Cf {p q p' q':IV} (up:U p) (uq:U q) (up':U p') (uq':U q') (hp:Pt p' p) (hq:Pt q' q):Pt (uM p' q') (uM p q):=by
 have a:=Jj hp hq;have b:=Dv p'.1 p'.2 q'.1 q'.2;rw [(U_M up uq).1,(U_M up' uq').1];exact ⟨a.1,b,a.2⟩
theorem WP {p q p' q':IV} (up:U p) (uq:U q) (up':U p') (uq':U q') (hp:Pt p' p) (hq:Pt q' q):Pt (uA p' q') (uA p q):=by
 rw [(U_A up uq).1,(U_A up' uq').1];unfold Pt at *
 simp only;omega
theorem WT {p q p' q':IV} (up:U p) (uq:U q) (up':U p') (uq':U q') (hp:Pt p' p) (hq:Pt q' q):Pt (uD p' q') (uD p q):=by
 rw [(U_D up uq).1,(U_D up' uq').1];unfold Pt at *
 simp only;omega
