/- Plain integers: the directions of a box that is mirrored. -/
import Derived.Test.YtbcnifkfaknnaaaGreatZDirs
set_option linter.unusedVariables false
set_option linter.unusedSimpArgs false
namespace Alm
open Go.Proofs.YtbcnifkfaknnaaaGreat
theorem nN {yl yh xl xh u v:Int} (H:∀ px py:Int,(px=xl∨px=xh)->(py=yl∨py=yh)->0<u*px+v*py) (k j:Nat) (hj:j<k) :
 0<=crs (cX xl xh j) (cY yl yh j) (aQ xl xh yl yh k).1 (aQ xl xh yl yh k).2:=by
 induction k with
 | zero=>omega
 | succ k ih =>
  have pi:=jl xl xh yl yh k;have ci:=PK xl xh yl yh k;have cj:=PK xl xh yl yh j;rw [show aQ xl xh yl yh (k+1)=if qK (aQ xl xh yl yh k).1 (aQ xl xh yl yh k).2 (cX xl xh k) (cY yl yh k) then (cX xl xh k,cY yl yh k) else aQ xl xh yl yh k from rfl]
  have hp:=H _ _ pi.1 pi.2;have hc:=H _ _ ci.1 ci.2;have hj':=H _ _ cj.1 cj.2;rw [Hg]
  by_cases h1:0<=crs (aQ xl xh yl yh k).1 (aQ xl xh yl yh k).2 (cX xl xh k) (cY yl yh k)
  . rw [if_pos (by simpa using h1)]
    by_cases e:j=k
    . subst e;have:=Ci (cX xl xh j) (cY yl yh j);simp only [];omega
    . exact yK hj' hp hc (ih (by omega)) h1
  . rw [if_neg (by simpa using h1)]
    by_cases e:j=k
    . subst e;have:=pR (cX xl xh j) (cY yl yh j) (aQ xl xh yl yh j).1 (aQ xl xh yl yh j).2;omega
    . exact ih (by omega)
theorem iO (xl xh yl yh px py:Int) (h:px=xl∨px=xh) (k:py=yl∨py=yh):∃ j,j<4/\cX xl xh j=px/\cY yl yh j=py:=by
 rcases h with rfl|rfl<;>rcases k with rfl|rfl
 . exact ⟨0,by omega,by simp [cX],by simp [cY]⟩
 . exact ⟨1,by omega,by simp [cX],by simp [cY]⟩
 . exact ⟨2,by omega,by simp [cX],by simp [cY]⟩
 . exact ⟨3,by omega,by simp [cX],by simp [cY]⟩
abbrev bU (x:Int):Prop:=-2147483648<=x/\x<=2147483648
theorem F5 {u v x y:Int} (h:0<u*x+v*y):¬ (x=0/\y=0):=by rintro ⟨rfl,rfl⟩;simp at h
def Ab (a:Int):Int:=if a<10800000 then a+10800000 else a-10800000
theorem Yn (x y:Int) (h:¬ (x=0/\y=0)):qX (-x) (-y)=qX x y/\qY (-x) (-y)=qY x y/\qT (-x) (-y)=Ab (qT x y):=by
 unfold qX qY qT Ab;refine ⟨?_,?_,?_⟩<;>(repeat' split)<;>omega
theorem Gz (x y:Int) (h:¬ (x=0/\y=0)) (hx:bU x) (hy:bU y):fG (-x) (-y)=fG x y/\aG (-x) (-y)=Ab (aG x y):=by
 have hx':bU (-x):=⟨by have:=hx.2;omega,by have:=hx.1;omega⟩
 have hy':bU (-y):=⟨by have:=hy.2;omega,by have:=hy.1;omega⟩
 have d:=iL x y h hx hy;have d':=iL (-x) (-y) (by omega) hx' hy'
 have b:=q_bd x y 2147483648 h hx hy;obtain ⟨m1,m2,m3⟩:=Yn x y h;rw [m1,m2] at d'
 have l:=A8 ⟨b.1,b.2.1⟩ ⟨b.2.2.1,b.2.2.2⟩ d' d;have lt:=d.1;refine ⟨by unfold fG;rw [l,m1,m2],?_⟩
 have q:=EW x y h;unfold aG;rw [l,m3];unfold Ab;rcases q with q|q|q|q<;>rw [q.1]<;>(repeat' split)<;>omega
theorem wJ (a b c d:Int):crs (-a) (-b) c d=-crs a b c d/\crs a b (-c) (-d)=-crs a b c d:=by unfold crs;constructor<;>grind
theorem Pn (a b:Int) (f:Bool) (ha:0<=a/\a<=21599999) (hb:0<=b/\b<=21599999):Ab a=(a+10800000)%21600000/\upE (Ab a) (Ab b) f=Ab a+(upE a b f-a):=by
 unfold Ab upE;generalize (if f=true then (0:Int) else 1)=e
 refine ⟨?_,?_⟩<;>(repeat' split)<;>omega
theorem OH {u v p1 p2 q1 q2 r1 r2 s1 s2:Int} (Hp:0<u*p1+v*p2) (Hq:0<u*q1+v*q2) (Hr:0<u*(-r1)+v*(-r2)) (Hs:0<u*(-s1)+v*(-s2)) (c1:crs p1 p2 (-r1) (-r2)=0) (c2:crs q1 q2 (-s1) (-s2)=0)
 (b1:bU p1) (b2:bU p2) (b3:bU q1) (b4:bU q2) (b5:bU r1) (b6:bU r2) (b7:bU s1) (b8:bU s2) :
 aG r1 r2=(aG p1 p2+10800000)%21600000/\upE (aG r1 r2) (aG s1 s2) (fG s1 s2)=aG r1 r2+(upE (aG p1 p2) (aG q1 q2) (fG q1 q2)-aG p1 p2):=by
 have n:∀ x:Int,bU x->bU (-x):=fun x h=>⟨by have:=h.2;omega,by have:=h.1;omega⟩
 have nr':=F5 Hr;have ns':=F5 Hs;have A1:=Bb Hp Hr c1 b1 b2 (n _ b5) (n _ b6);have A2:=Bb Hq Hs c2 b3 b4 (n _ b7) (n _ b8);have M1:=Gz (-r1) (-r2) nr' (n _ b5) (n _ b6);have M2:=Gz (-s1) (-s2) ns' (n _ b7) (n _ b8);rw [Int.neg_neg,Int.neg_neg,<-A1.1,<-A1.2] at M1;rw [Int.neg_neg,Int.neg_neg,<-A2.1,<-A2.2] at M2;rw [M1.2,M2.2,M2.1];exact Pn _ _ _ (jg p1 p2) (jg q1 q2)
theorem Qw {u v xl xh yl yh:Int} (H:∀ px py:Int,(px=xl∨px=xh)->(py=yl∨py=yh)->0<u*px+v*py) (H':∀ px py:Int,(px=-xh∨px=-xl)->(py=-yh∨py=-yl)->0<(-u)*px+(-v)*py) :
 crs (aL xl xh yl yh 4).1 (aL xl xh yl yh 4).2 (-(aL (-xh) (-xl) (-yh) (-yl) 4).1) (-(aL (-xh) (-xl) (-yh) (-yl) 4).2)=0 /\
 crs (aQ xl xh yl yh 4).1 (aQ xl xh yl yh 4).2 (-(aQ (-xh) (-xl) (-yh) (-yl) 4).1) (-(aQ (-xh) (-xl) (-yh) (-yl) 4).2)=0:=by
 have fi:=iw xl xh yl yh 4;have li:=jl xl xh yl yh 4;have fi':=iw (-xh) (-xl) (-yh) (-yl) 4;have li':=jl (-xh) (-xl) (-yh) (-yl) 4
 have fl:∀ px py:Int,(px=xl∨px=xh)->(py=yl∨py=yh)->0<=crs (aL xl xh yl yh 4).1 (aL xl xh yl yh 4).2 px py:=by
  intro px py h k;obtain ⟨j,hj,rfl,rfl⟩:=iO xl xh yl yh px py h k;exact kV H 4 j hj
 have ll:∀ px py:Int,(px=xl∨px=xh)->(py=yl∨py=yh)->0<=crs px py (aQ xl xh yl yh 4).1 (aQ xl xh yl yh 4).2:=by
  intro px py h k;obtain ⟨j,hj,rfl,rfl⟩:=iO xl xh yl yh px py h k;exact nN H 4 j hj
 have fl':∀ px py:Int,(px=-xh∨px=-xl)->(py=-yh∨py=-yl)->0<=crs (aL (-xh) (-xl) (-yh) (-yl) 4).1 (aL (-xh) (-xl) (-yh) (-yl) 4).2 px py:=by
  intro px py h k;obtain ⟨j,hj,rfl,rfl⟩:=iO (-xh) (-xl) (-yh) (-yl) px py h k;exact kV H' 4 j hj
 have ll':∀ px py:Int,(px=-xh∨px=-xl)->(py=-yh∨py=-yl)->0<=crs px py (aQ (-xh) (-xl) (-yh) (-yl) 4).1 (aQ (-xh) (-xl) (-yh) (-yl) 4).2:=by
  intro px py h k;obtain ⟨j,hj,rfl,rfl⟩:=iO (-xh) (-xl) (-yh) (-yl) px py h k;exact nN H' 4 j hj
 clear H H'
 generalize aL xl xh yl yh 4=p at *
 generalize aQ xl xh yl yh 4=q at *
 generalize aL (-xh) (-xl) (-yh) (-yl) 4=r at *
 generalize aQ (-xh) (-xl) (-yh) (-yl) 4=s at *
 have n:∀ x l h:Int,(x=-h∨x=-l)->(-x=l∨-x=h):=fun x l h k=>by omega
 have m:∀ x l h:Int,(x=l∨x=h)->(-x=-h∨-x=-l):=fun x l h k=>by omega
 constructor
 . have a:=fl (-r.1) (-r.2) (n _ _ _ fi'.1) (n _ _ _ fi'.2);have b:=fl' (-p.1) (-p.2) (m _ _ _ fi.1) (m _ _ _ fi.2);have k1:=(wJ p.1 p.2 r.1 r.2).2;have k2:=(wJ r.1 r.2 p.1 p.2).2;have k3:=pR r.1 r.2 p.1 p.2;clear fl ll fl' ll' fi li fi' li' n m;omega
 . have a:=ll (-s.1) (-s.2) (n _ _ _ li'.1) (n _ _ _ li'.2);have b:=ll' (-q.1) (-q.2) (m _ _ _ li.1) (m _ _ _ li.2);have k1:=(wJ q.1 q.2 s.1 s.2).2;have k2:=(wJ s.1 s.2 q.1 q.2).1;have k3:=(wJ q.1 q.2 s.1 s.2).1;have k4:=pR s.1 s.2 q.1 q.2;clear fl ll fl' ll' fi li fi' li' n m;omega
theorem Le {yl yh xl xh:Int} (hy:yl<=yh) (hx:xl<=xh) (hy2:-2147483648<=yl/\yh<=2147483648) (hx2:-2147483648<=xl/\xh<=2147483648) :
 if dX yl yh xl xh then aT (-yh) (-yl) (-xh) (-xl)=0/\bi (-yh) (-yl) (-xh) (-xl)=21600000 else
 aT (-yh) (-yl) (-xh) (-xl)=(aT yl yh xl xh+10800000)%21600000/\bi (-yh) (-yl) (-xh) (-xl)=aT (-yh) (-yl) (-xh) (-xl)+(bi yl yh xl xh-aT yl yh xl xh):=by
 by_cases ho:xl<=0/\0<=xh/\yl<=0/\0<=yh
 . have eo:dX yl yh xl xh=true:=by unfold dX;simp only [decide_eq_true_eq];exact ho
   have eo':dX (-yh) (-yl) (-xh) (-xl)=true:=by unfold dX;simp only [decide_eq_true_eq];omega
   rw [if_pos eo];exact ⟨by unfold aT;rw [eo'];rfl,by unfold bi;rw [eo'];rfl⟩
 . have eo:dX yl yh xl xh=false:=by unfold dX;simp only [decide_eq_false_iff_not];exact ho
   have eo':dX (-yh) (-yl) (-xh) (-xl)=false:=by unfold dX;simp only [decide_eq_false_iff_not];omega
   rw [eo,if_neg (by decide)]
   obtain ⟨u,v,H⟩:=Bv hy hx ho
   have H':∀ px py:Int,(px=-xh∨px=-xl)->(py=-yh∨py=-yl)->0<(-u)*px+(-v)*py:=by
    intro px py h k;have:=H (-px) (-py) (by omega) (by omega)
    rw [Int.mul_neg,Int.mul_neg] at this;rw [Int.neg_mul,Int.neg_mul];exact this
   have C:=Qw H H'
   have fi:=iw xl xh yl yh 4;have li:=jl xl xh yl yh 4;have fi':=iw (-xh) (-xl) (-yh) (-yl) 4;have li':=jl (-xh) (-xl) (-yh) (-yl) 4;have l:aT yl yh xl xh=aG (aL xl xh yl yh 4).1 (aL xl xh yl yh 4).2:=by unfold aT;rw [eo];rfl
   have l':aT (-yh) (-yl) (-xh) (-xl)=aG (aL (-xh) (-xl) (-yh) (-yl) 4).1 (aL (-xh) (-xl) (-yh) (-yl) 4).2:=by unfold aT;rw [eo'];rfl
   have h:bi yl yh xl xh=upE (aT yl yh xl xh) (aG (aQ xl xh yl yh 4).1 (aQ xl xh yl yh 4).2) (fG (aQ xl xh yl yh 4).1 (aQ xl xh yl yh 4).2):=by unfold bi;rw [eo];rfl
   have h':bi (-yh) (-yl) (-xh) (-xl)=upE (aT (-yh) (-yl) (-xh) (-xl)) (aG (aQ (-xh) (-xl) (-yh) (-yl) 4).1 (aQ (-xh) (-xl) (-yh) (-yl) 4).2) (fG (aQ (-xh) (-xl) (-yh) (-yl) 4).1 (aQ (-xh) (-xl) (-yh) (-yl) 4).2):=by unfold bi;rw [eo'];rfl
   rw [h,h',l,l'];have n:∀ x l h:Int,(x=-h∨x=-l)->(-x=l∨-x=h):=fun x l h k=>by omega
   have bx:∀ p:Int,(p=xl∨p=xh)->bU p:=fun p h=>by unfold bU;omega
   have bY:∀ p:Int,(p=yl∨p=yh)->bU p:=fun p h=>by unfold bU;omega
   have bX':∀ p:Int,(p=-xh∨p=-xl)->bU p:=fun p h=>by unfold bU;omega
   have bY':∀ p:Int,(p=-yh∨p=-yl)->bU p:=fun p h=>by unfold bU;omega
   exact OH (H _ _ fi.1 fi.2) (H _ _ li.1 li.2) (H _ _ (n _ _ _ fi'.1) (n _ _ _ fi'.2)) (H _ _ (n _ _ _ li'.1) (n _ _ _ li'.2)) C.1 C.2 (bx _ fi.1) (bY _ fi.2) (bx _ li.1) (bY _ li.2) (bX' _ fi'.1) (bY' _ fi'.2) (bX' _ li'.1) (bY' _ li'.2)
