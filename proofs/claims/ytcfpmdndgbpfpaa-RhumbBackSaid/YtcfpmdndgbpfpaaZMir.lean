/- Plain integers: the directions of a box that is mirrored. -/
import Derived.Test.YtcfpmdndgbpfpaaZDirs
set_option linter.unusedVariables false
set_option linter.unusedSimpArgs false
namespace Alm
open Go.Proofs.Ytcfpmdndgbpfpaa
theorem Oh {px py qx qy:Int} (np:¬ (px=0/\py=0)) (nq:¬ (qx=0/\qy=0)) (hc:0<=crs px py qx qy) (hpx:-2147483648<=px/\px<=2147483648) (hpy:-2147483648<=py/\py<=2147483648) (hqx:-2147483648<=qx/\qx<=2147483648) (hqy:-2147483648<=qy/\qy<=2147483648):¬ (bV px py=0/\bV qx qy=21599999):=by
 rintro ⟨h1,h2⟩;have d1:=(gH px py np hpx hpy).1;have d2:=(gH qx qy nq hqx hqy).1;unfold bV at h1 h2
 have p1:0<px/\0<=py:=by
  refine Classical.byContradiction fun g=>?_
  have:qT px py≠0:=by
   unfold qT;rw [if_neg g];split
   . decide
   . split<;>decide
  have:0<=qT px py:=by unfold qT;split<;>(try split)<;>(try split)<;>decide
  omega
 have q1:0<=qx/\qy<0:=by
  have t:qT qx qy=16200000:=by
   unfold qT at *
   split at h2
   . omega
   . split at h2
     . omega
     . split at h2
       . omega
       . rename_i a b c
         rw [if_neg a,if_neg b,if_neg c]
  unfold qT at t;split at t
  . exact absurd t (by decide)
  . split at t
    . exact absurd t (by decide)
    . split at t
      . exact absurd t (by decide)
      . omega
 unfold crs at hc;have m1:=Int.mul_nonneg (show 0<=py by omega) q1.1
 have m2:=Int.mul_pos p1.1 (show 0 < -qy by omega)
 have e:px*-qy=-(px*qy):=by grind
 omega
theorem rH {yl yh xl xh u v:Int} (H:∀ px py:Int,(px=xl∨px=xh)->(py=yl∨py=yh)->0<u*px+v*py) (k j:Nat) (hj:j<k) :
 0<=crs (cX xl xh j) (cY yl yh j) (aD xl xh yl yh k).1 (aD xl xh yl yh k).2:=by
 induction k with
 | zero=>omega
 | succ k ih =>
  have pi:=gy xl xh yl yh k;have ci:=La xl xh yl yh k;have cj:=La xl xh yl yh j;rw [show aD xl xh yl yh (k+1)=if mR (aD xl xh yl yh k).1 (aD xl xh yl yh k).2 (cX xl xh k) (cY yl yh k) then (cX xl xh k,cY yl yh k) else aD xl xh yl yh k from rfl]
  have hp:=H _ _ pi.1 pi.2;have hc:=H _ _ ci.1 ci.2;have hj':=H _ _ cj.1 cj.2;rw [BA]
  by_cases h1:0<=crs (aD xl xh yl yh k).1 (aD xl xh yl yh k).2 (cX xl xh k) (cY yl yh k)
  . rw [if_pos (by simpa using h1)]
    by_cases e:j=k
    . subst e;have:=ze (cX xl xh j) (cY yl yh j);simp only [];omega
    . exact uO hj' hp hc (ih (by omega)) h1
  . rw [if_neg (by simpa using h1)]
    by_cases e:j=k
    . subst e;have:=ma (cX xl xh j) (cY yl yh j) (aD xl xh yl yh j).1 (aD xl xh yl yh j).2;omega
    . exact ih (by omega)
theorem ic (xl xh yl yh px py:Int) (h:px=xl∨px=xh) (k:py=yl∨py=yh):∃ j,j<4/\cX xl xh j=px/\cY yl yh j=py:=by
 rcases h with rfl|rfl<;>rcases k with rfl|rfl
 . exact ⟨0,by omega,by simp [cX],by simp [cY]⟩
 . exact ⟨1,by omega,by simp [cX],by simp [cY]⟩
 . exact ⟨2,by omega,by simp [cX],by simp [cY]⟩
 . exact ⟨3,by omega,by simp [cX],by simp [cY]⟩
abbrev fE (x:Int):Prop:=-2147483648<=x/\x<=2147483648
theorem CJ {u v x y:Int} (h:0<u*x+v*y):¬ (x=0/\y=0):=by rintro ⟨rfl,rfl⟩;simp at h
def vz (a:Int):Int:=if a<10800000 then a+10800000 else a-10800000
theorem QW (x y:Int) (h:¬ (x=0/\y=0)):qX (-x) (-y)=qX x y/\qY (-x) (-y)=qY x y/\qT (-x) (-y)=vz (qT x y):=by
 unfold qX qY qT vz;refine ⟨?_,?_,?_⟩<;>(repeat' split)<;>omega
theorem BV (x y:Int) (h:¬ (x=0/\y=0)) (hx:fE x) (hy:fE y):gT (-x) (-y)=gT x y/\bV (-x) (-y)=vz (bV x y):=by
 have hx':fE (-x):=⟨by have:=hx.2;omega,by have:=hx.1;omega⟩
 have hy':fE (-y):=⟨by have:=hy.2;omega,by have:=hy.1;omega⟩
 have d:=gH x y h hx hy;have d':=gH (-x) (-y) (by omega) hx' hy'
 have b:=wY x y 2147483648 h hx hy;obtain ⟨m1,m2,m3⟩:=QW x y h;rw [m1,m2] at d'
 have l:=vR ⟨b.1,b.2.1⟩ ⟨b.2.2.1,b.2.2.2⟩ d' d;have lt:=d.1;refine ⟨by unfold gT;rw [l,m1,m2],?_⟩
 have q:=Ot x y h;unfold bV;rw [l,m3];unfold vz;rcases q with q|q|q|q<;>rw [q.1]<;>(repeat' split)<;>omega
theorem pW (a b c d:Int):crs (-a) (-b) c d=-crs a b c d/\crs a b (-c) (-d)=-crs a b c d:=by unfold crs;constructor<;>grind
theorem Ko (a b:Int) (f:Bool) (ha:0<=a/\a<=21599999) (hb:0<=b/\b<=21599999):vz a=(a+10800000)%21600000/\upE (vz a) (vz b) f=vz a+(upE a b f-a):=by
 unfold vz upE;generalize (if f=true then (0:Int) else 1)=e
 refine ⟨?_,?_⟩<;>(repeat' split)<;>omega
theorem JM {u v p1 p2 q1 q2 r1 r2 s1 s2:Int} (Hp:0<u*p1+v*p2) (Hq:0<u*q1+v*q2) (Hr:0<u*(-r1)+v*(-r2)) (Hs:0<u*(-s1)+v*(-s2)) (c1:crs p1 p2 (-r1) (-r2)=0) (c2:crs q1 q2 (-s1) (-s2)=0)
 (b1:fE p1) (b2:fE p2) (b3:fE q1) (b4:fE q2) (b5:fE r1) (b6:fE r2) (b7:fE s1) (b8:fE s2) :
 bV r1 r2=(bV p1 p2+10800000)%21600000/\upE (bV r1 r2) (bV s1 s2) (gT s1 s2)=bV r1 r2+(upE (bV p1 p2) (bV q1 q2) (gT q1 q2)-bV p1 p2):=by
 have n:∀ x:Int,fE x->fE (-x):=fun x h=>⟨by have:=h.2;omega,by have:=h.1;omega⟩
 have nr':=CJ Hr;have ns':=CJ Hs;have A1:=xu Hp Hr c1 b1 b2 (n _ b5) (n _ b6);have A2:=xu Hq Hs c2 b3 b4 (n _ b7) (n _ b8);have M1:=BV (-r1) (-r2) nr' (n _ b5) (n _ b6);have M2:=BV (-s1) (-s2) ns' (n _ b7) (n _ b8);rw [Int.neg_neg,Int.neg_neg,<-A1.1,<-A1.2] at M1;rw [Int.neg_neg,Int.neg_neg,<-A2.1,<-A2.2] at M2;rw [M1.2,M2.2,M2.1];exact Ko _ _ _ (gI p1 p2) (gI q1 q2)
theorem Kr {u v xl xh yl yh:Int} (H:∀ px py:Int,(px=xl∨px=xh)->(py=yl∨py=yh)->0<u*px+v*py) (H':∀ px py:Int,(px=-xh∨px=-xl)->(py=-yh∨py=-yl)->0<(-u)*px+(-v)*py) :
 crs (aB xl xh yl yh 4).1 (aB xl xh yl yh 4).2 (-(aB (-xh) (-xl) (-yh) (-yl) 4).1) (-(aB (-xh) (-xl) (-yh) (-yl) 4).2)=0 /\
 crs (aD xl xh yl yh 4).1 (aD xl xh yl yh 4).2 (-(aD (-xh) (-xl) (-yh) (-yl) 4).1) (-(aD (-xh) (-xl) (-yh) (-yl) 4).2)=0:=by
 have fi:=fD xl xh yl yh 4;have li:=gy xl xh yl yh 4;have fi':=fD (-xh) (-xl) (-yh) (-yl) 4;have li':=gy (-xh) (-xl) (-yh) (-yl) 4
 have fl:∀ px py:Int,(px=xl∨px=xh)->(py=yl∨py=yh)->0<=crs (aB xl xh yl yh 4).1 (aB xl xh yl yh 4).2 px py:=by
  intro px py h k;obtain ⟨j,hj,rfl,rfl⟩:=ic xl xh yl yh px py h k;exact jq H 4 j hj
 have ll:∀ px py:Int,(px=xl∨px=xh)->(py=yl∨py=yh)->0<=crs px py (aD xl xh yl yh 4).1 (aD xl xh yl yh 4).2:=by
  intro px py h k;obtain ⟨j,hj,rfl,rfl⟩:=ic xl xh yl yh px py h k;exact rH H 4 j hj
 have fl':∀ px py:Int,(px=-xh∨px=-xl)->(py=-yh∨py=-yl)->0<=crs (aB (-xh) (-xl) (-yh) (-yl) 4).1 (aB (-xh) (-xl) (-yh) (-yl) 4).2 px py:=by
  intro px py h k;obtain ⟨j,hj,rfl,rfl⟩:=ic (-xh) (-xl) (-yh) (-yl) px py h k;exact jq H' 4 j hj
 have ll':∀ px py:Int,(px=-xh∨px=-xl)->(py=-yh∨py=-yl)->0<=crs px py (aD (-xh) (-xl) (-yh) (-yl) 4).1 (aD (-xh) (-xl) (-yh) (-yl) 4).2:=by
  intro px py h k;obtain ⟨j,hj,rfl,rfl⟩:=ic (-xh) (-xl) (-yh) (-yl) px py h k;exact rH H' 4 j hj
 clear H H'
 generalize aB xl xh yl yh 4=p at *
 generalize aD xl xh yl yh 4=q at *
 generalize aB (-xh) (-xl) (-yh) (-yl) 4=r at *
 generalize aD (-xh) (-xl) (-yh) (-yl) 4=s at *
 have n:∀ x l h:Int,(x=-h∨x=-l)->(-x=l∨-x=h):=fun x l h k=>by omega
 have m:∀ x l h:Int,(x=l∨x=h)->(-x=-h∨-x=-l):=fun x l h k=>by omega
 constructor
 . have a:=fl (-r.1) (-r.2) (n _ _ _ fi'.1) (n _ _ _ fi'.2);have b:=fl' (-p.1) (-p.2) (m _ _ _ fi.1) (m _ _ _ fi.2);have k1:=(pW p.1 p.2 r.1 r.2).2;have k2:=(pW r.1 r.2 p.1 p.2).2;have k3:=ma r.1 r.2 p.1 p.2;clear fl ll fl' ll' fi li fi' li' n m;omega
 . have a:=ll (-s.1) (-s.2) (n _ _ _ li'.1) (n _ _ _ li'.2);have b:=ll' (-q.1) (-q.2) (m _ _ _ li.1) (m _ _ _ li.2);have k1:=(pW q.1 q.2 s.1 s.2).2;have k2:=(pW s.1 s.2 q.1 q.2).1;have k3:=(pW q.1 q.2 s.1 s.2).1;have k4:=ma s.1 s.2 q.1 q.2;clear fl ll fl' ll' fi li fi' li' n m;omega
theorem zO {yl yh xl xh:Int} (hy:yl<=yh) (hx:xl<=xh) (hy2:-2147483648<=yl/\yh<=2147483648) (hx2:-2147483648<=xl/\xh<=2147483648) :
 if dI yl yh xl xh then bv (-yh) (-yl) (-xh) (-xl)=0/\bT (-yh) (-yl) (-xh) (-xl)=21600000 else
 bv (-yh) (-yl) (-xh) (-xl)=(bv yl yh xl xh+10800000)%21600000/\bT (-yh) (-yl) (-xh) (-xl)=bv (-yh) (-yl) (-xh) (-xl)+(bT yl yh xl xh-bv yl yh xl xh):=by
 by_cases ho:xl<=0/\0<=xh/\yl<=0/\0<=yh
 . have eo:dI yl yh xl xh=true:=by unfold dI;simp only [decide_eq_true_eq];exact ho
   have eo':dI (-yh) (-yl) (-xh) (-xl)=true:=by unfold dI;simp only [decide_eq_true_eq];omega
   rw [if_pos eo];exact ⟨by unfold bv;rw [eo'];rfl,by unfold bT;rw [eo'];rfl⟩
 . have eo:dI yl yh xl xh=false:=by unfold dI;simp only [decide_eq_false_iff_not];exact ho
   have eo':dI (-yh) (-yl) (-xh) (-xl)=false:=by unfold dI;simp only [decide_eq_false_iff_not];omega
   rw [eo,if_neg (by decide)]
   obtain ⟨u,v,H⟩:=yQ hy hx ho
   have H':∀ px py:Int,(px=-xh∨px=-xl)->(py=-yh∨py=-yl)->0<(-u)*px+(-v)*py:=by
    intro px py h k;have:=H (-px) (-py) (by omega) (by omega)
    rw [Int.mul_neg,Int.mul_neg] at this;rw [Int.neg_mul,Int.neg_mul];exact this
   have C:=Kr H H'
   have fi:=fD xl xh yl yh 4;have li:=gy xl xh yl yh 4;have fi':=fD (-xh) (-xl) (-yh) (-yl) 4;have li':=gy (-xh) (-xl) (-yh) (-yl) 4;have l:bv yl yh xl xh=bV (aB xl xh yl yh 4).1 (aB xl xh yl yh 4).2:=by unfold bv;rw [eo];rfl
   have l':bv (-yh) (-yl) (-xh) (-xl)=bV (aB (-xh) (-xl) (-yh) (-yl) 4).1 (aB (-xh) (-xl) (-yh) (-yl) 4).2:=by unfold bv;rw [eo'];rfl
   have h:bT yl yh xl xh=upE (bv yl yh xl xh) (bV (aD xl xh yl yh 4).1 (aD xl xh yl yh 4).2) (gT (aD xl xh yl yh 4).1 (aD xl xh yl yh 4).2):=by unfold bT;rw [eo];rfl
   have h':bT (-yh) (-yl) (-xh) (-xl)=upE (bv (-yh) (-yl) (-xh) (-xl)) (bV (aD (-xh) (-xl) (-yh) (-yl) 4).1 (aD (-xh) (-xl) (-yh) (-yl) 4).2) (gT (aD (-xh) (-xl) (-yh) (-yl) 4).1 (aD (-xh) (-xl) (-yh) (-yl) 4).2):=by unfold bT;rw [eo'];rfl
   rw [h,h',l,l'];have n:∀ x l h:Int,(x=-h∨x=-l)->(-x=l∨-x=h):=fun x l h k=>by omega
   have bx:∀ p:Int,(p=xl∨p=xh)->fE p:=fun p h=>by unfold fE;omega
   have bY:∀ p:Int,(p=yl∨p=yh)->fE p:=fun p h=>by unfold fE;omega
   have bX':∀ p:Int,(p=-xh∨p=-xl)->fE p:=fun p h=>by unfold fE;omega
   have bY':∀ p:Int,(p=-yh∨p=-yl)->fE p:=fun p h=>by unfold fE;omega
   exact JM (H _ _ fi.1 fi.2) (H _ _ li.1 li.2) (H _ _ (n _ _ _ fi'.1) (n _ _ _ fi'.2)) (H _ _ (n _ _ _ li'.1) (n _ _ _ li'.2)) C.1 C.2 (bx _ fi.1) (bY _ fi.2) (bx _ li.1) (bY _ li.2) (bX' _ fi'.1) (bY' _ fi'.2) (bX' _ li'.1) (bY' _ li'.2)
theorem Ei {yl yh xl xh:Int} (hy:yl<=yh) (hx:xl<=xh) (hy2:-2147483648<=yl/\yh<=2147483648) (hx2:-2147483648<=xl/\xh<=2147483648) (ho:dI yl yh xl xh=false) :
 bT yl yh xl xh-bv yl yh xl xh<21600000:=by
 have ho':¬ (xl<=0/\0<=xh/\yl<=0/\0<=yh):=by unfold dI at ho;simpa only [decide_eq_false_iff_not] using ho
 obtain ⟨u,v,H⟩:=yQ hy hx ho'
 have fi:=fD xl xh yl yh 4;have li:=gy xl xh yl yh 4
 have cr:0<=crs (aB xl xh yl yh 4).1 (aB xl xh yl yh 4).2 (aD xl xh yl yh 4).1 (aD xl xh yl yh 4).2:=by
  obtain ⟨j,hj,e1,e2⟩:=ic xl xh yl yh _ _ li.1 li.2;rw [<-e1,<-e2];exact jq H 4 j hj
 have bnd:∀ p:Int,(p=xl∨p=xh)->fE p:=fun p h=>by unfold fE;omega
 have bnd2:∀ p:Int,(p=yl∨p=yh)->fE p:=fun p h=>by unfold fE;omega
 have np:=CJ (H _ _ fi.1 fi.2);have nq:=CJ (H _ _ li.1 li.2);have g:=JY np nq cr (bnd _ fi.1) (bnd2 _ fi.2) (bnd _ li.1) (bnd2 _ li.2);have k:=Oh np nq cr (bnd _ fi.1) (bnd2 _ fi.2) (bnd _ li.1) (bnd2 _ li.2);have b1:=gI (aB xl xh yl yh 4).1 (aB xl xh yl yh 4).2;have b2:=gI (aD xl xh yl yh 4).1 (aD xl xh yl yh 4).2;have eL:bv yl yh xl xh=bV (aB xl xh yl yh 4).1 (aB xl xh yl yh 4).2:=by unfold bv;rw [ho];rfl
 have eH:bT yl yh xl xh=upE (bv yl yh xl xh) (bV (aD xl xh yl yh 4).1 (aD xl xh yl yh 4).2) (gT (aD xl xh yl yh 4).1 (aD xl xh yl yh 4).2):=by unfold bT;rw [ho];rfl
 rw [eH,eL];generalize bV (aB xl xh yl yh 4).1 (aB xl xh yl yh 4).2=f at *
 generalize bV (aD xl xh yl yh 4).1 (aD xl xh yl yh 4).2=l at *
 generalize gT (aD xl xh yl yh 4).1 (aD xl xh yl yh 4).2=e at *
 clear fi li cr bnd bnd2 np nq H eL eH hy hx hy2 hx2 ho ho'
 unfold upE;cases e<;>simp<;>split<;>omega
