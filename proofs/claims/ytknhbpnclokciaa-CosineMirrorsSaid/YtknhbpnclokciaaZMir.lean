/- Plain integers: the directions of a box that is mirrored. -/
import Derived.Test.YtknhbpnclokciaaZDirs
set_option linter.unusedVariables false
set_option linter.unusedSimpArgs false
namespace Alm
open Go.Proofs.Ytknhbpnclokciaa
theorem CY {px py qx qy:Int} (np:¬ (px=0/\py=0)) (nq:¬ (qx=0/\qy=0)) (hc:0<=crs px py qx qy) (hpx:-2147483648<=px/\px<=2147483648) (hpy:-2147483648<=py/\py<=2147483648) (hqx:-2147483648<=qx/\qx<=2147483648) (hqy:-2147483648<=qy/\qy<=2147483648):¬ (fU px py=0/\fU qx qy=21599999):=by
 rintro ⟨h1,h2⟩;have d1:=(qO px py np hpx hpy).1;have d2:=(qO qx qy nq hqx hqy).1;unfold fU at h1 h2
 have p1:0<px/\0<=py:=by
  refine Classical.byContradiction fun g=>?_
  have:qT px py≠0:=by
   unfold qT;rw [if_neg g];split
   . decide
   . split<;>decide
  have:0<=qT px py:=by unfold qT;split<;>(try split)<;>(try split)<;>decide
  omega
 have q1:0<=qx/\qy<0:=by
  have t:qT qx qy=16200000:=by
   unfold qT at *
   split at h2
   . omega
   . split at h2
     . omega
     . split at h2
       . omega
       . rename_i a b c
         rw [if_neg a,if_neg b,if_neg c]
  unfold qT at t;split at t
  . exact absurd t (by decide)
  . split at t
    . exact absurd t (by decide)
    . split at t
      . exact absurd t (by decide)
      . omega
 unfold crs at hc;have m1:=Int.mul_nonneg (show 0<=py by omega) q1.1
 have m2:=Int.mul_pos p1.1 (show 0 < -qy by omega)
 have e:px*-qy=-(px*qy):=by grind
 omega
theorem AP (x y:Int) (k:Nat) (h0:0<k) (h1:k<5400000) (hx:0<x/\x<=2147483648) (hy:0<y/\y<=2147483648):past y x (5400000-k)↔¬ past x y k/\¬ (k=2700000/\x=y):=by
 by_cases hk:k=2700000
 . subst hk;unfold past;rw [if_pos rfl,if_pos rfl]
   constructor
   . intro h;omega
   . intro h;omega
 . have g:=Jo x y k h0 h1 hk (by omega) ⟨by omega,hx.2⟩ ⟨by omega,hy.2⟩
   have e:frm y x (5400000-k)=-frm x y k:=by
    unfold frm
    by_cases h:k<=2700000
    . rw [if_pos h,if_neg (by omega),show 5400000-(5400000-k)=k by omega]
      grind
    . rw [if_neg h,if_pos (by omega)]
      grind
   unfold past;rw [if_neg (by omega),if_neg hk,e]
   have p:=QZ
   constructor
   . intro h;refine ⟨?_,by omega⟩
     intro h2;grind
   . intro ⟨h,_⟩;rcases g with g|g
     . exact absurd (show 0<frm x y k by grind) h
     . grind
theorem CU {x y:Int} {L:Nat} (hx:0<x/\x<=2147483648) (hy:0<y/\y<=2147483648) (h:uw x y L) (hn:¬ (L=2700000/\x=y)):uw y x (5399999-L):=by
 obtain ⟨a,b,c⟩:=h;refine ⟨by omega,?_,?_⟩
 . by_cases q:L+1=5400000
   . rw [show 5399999-L=0 by omega]
     exact uf _ _ (by omega)
   . intro h;have:=(AP x y (L+1) (by omega) (by omega) hx hy).1 (by rw [show 5400000-(L+1)=5399999-L by omega];exact h)
     exact this.1 c
 . by_cases q:L=0
   . subst q;exact xu _ _ hy.1
   . have:=(AP x y L (by omega) a hx hy).2 ⟨b,hn⟩
     rw [show 5399999-L+1=5400000-L by omega]
     exact this
theorem afg (x y:Int) (h:¬ (x=0/\y=0)):(qY x y=0->qX x (-y)=qX x y/\qY x (-y)=0/\qT x (-y)=if qT x y=0 then 0 else 21600000-qT x y)/\(0<qY x y->qX x (-y)=qY x y/\qY x (-y)=qX x y/\qT x (-y)=16200000-qT x y):=by
 unfold qX qY qT
 constructor
 . intro h0;refine ⟨?_,?_,?_⟩<;>(repeat' split at h0)<;>(repeat' split)<;>omega
 . intro h0;refine ⟨?_,?_,?_⟩<;>(repeat' split at h0)<;>(repeat' split)<;>omega
def x8 (a:Int) (e:Bool):Int:=if e then (if a=0 then 0 else 21600000-a) else 21599999-a
theorem EQ (x y:Int) (h:¬ (x=0/\y=0)) (hx:-2147483648<=x/\x<=2147483648) (hy:-2147483648<=y/\y<=2147483648):iw x (-y)=iw x y/\fU x (-y)=x8 (fU x y) (iw x y):=by
 have d:=qO x y h hx hy;have d':=qO x (-y) (by omega) hx (by omega)
 have b:=Ap x y 2147483648 h hx hy;have m:=afg x y h;have t:=FQ x y
 by_cases h0:qY x y=0
 . obtain ⟨m1,m2,m3⟩:=m.1 h0;rw [h0] at d;rw [m1,m2] at d'
   have l:=CG _ ⟨b.1,b.2.1⟩ _ d;have l':=CG _ ⟨b.1,b.2.1⟩ _ d'
   have e:iw x y=true:=by unfold iw;rw [l,h0];rfl
   have e':iw x (-y)=true:=by unfold iw;rw [l',m2];rfl
   rw [e,e'];refine ⟨rfl,?_⟩;unfold x8 fU;rw [l,l',m3];simp
 . obtain ⟨m1,m2,m3⟩:=m.2 (by omega)
   rw [m1,m2] at d'
   by_cases q:iW x y=2700000/\qX x y=qY x y
   . have e:iw x y=true:=by unfold iw;rw [q.1,q.2];simp
     have l':iW x (-y)=2700000:=by
      rw [<-q.1];rw [q.2] at d;rw [q.2] at d'
      exact Cz ⟨by omega,by omega⟩ ⟨by omega,by omega⟩ d' d
     have e':iw x (-y)=true:=by unfold iw;rw [l',m1,m2,q.2];simp
     rw [e,e'];refine ⟨rfl,?_⟩;unfold x8 fU;rw [l',m3,q.1];simp only [if_true];rw [if_neg (by omega)]
     omega
   . have dc:=CU ⟨b.1,b.2.1⟩ ⟨by omega,b.2.2.2⟩ d q
     have l':iW x (-y)=5399999-iW x y:=Cz ⟨by omega,by omega⟩ ⟨by omega,by omega⟩ d' dc
     have e:iw x y=false:=by
      unfold iw;simp only [Bool.or_eq_false_iff,Bool.and_eq_false_iff,decide_eq_false_iff_not];exact ⟨.inr h0,Classical.not_and_iff_not_or_not.1 q⟩
     have e':iw x (-y)=false:=by
      unfold iw;simp only [Bool.or_eq_false_iff,Bool.and_eq_false_iff,decide_eq_false_iff_not];refine ⟨.inr (by rw [m2];omega),?_⟩
      refine Classical.not_and_iff_not_or_not.1 ?_;rintro ⟨k1,k2⟩;rw [m1,m2] at k2;refine q ⟨?_,k2.symm⟩;rw [k1,k2] at d'
      rw [<-k2] at d;rw [<-k2] at d'
      exact Cz ⟨by omega,by omega⟩ ⟨by omega,by omega⟩ d (by rw [k2] at d' ⊢;exact d')
     rw [e,e'];refine ⟨rfl,?_⟩;have lt:=d.1;unfold x8 fU;rw [l',m3];simp only [Bool.false_eq_true,if_false];omega
theorem wo {yl yh xl xh u v:Int} (H:∀ px py:Int,(px=xl∨px=xh)->(py=yl∨py=yh)->0<u*px+v*py) (k j:Nat) (hj:j<k) :
 0<=crs (cX xl xh j) (cY yl yh j) (aY xl xh yl yh k).1 (aY xl xh yl yh k).2:=by
 induction k with
 | zero=>omega
 | succ k ih =>
  have pi:=vP xl xh yl yh k;have ci:=Va xl xh yl yh k;have cj:=Va xl xh yl yh j;rw [show aY xl xh yl yh (k+1)=if oO (aY xl xh yl yh k).1 (aY xl xh yl yh k).2 (cX xl xh k) (cY yl yh k) then (cX xl xh k,cY yl yh k) else aY xl xh yl yh k from rfl]
  have hp:=H _ _ pi.1 pi.2;have hc:=H _ _ ci.1 ci.2;have hj':=H _ _ cj.1 cj.2;rw [AJ]
  by_cases h1:0<=crs (aY xl xh yl yh k).1 (aY xl xh yl yh k).2 (cX xl xh k) (cY yl yh k)
  . rw [if_pos (by simpa using h1)]
    by_cases e:j=k
    . subst e;have:=mX (cX xl xh j) (cY yl yh j);simp only [];omega
    . exact kw hj' hp hc (ih (by omega)) h1
  . rw [if_neg (by simpa using h1)]
    by_cases e:j=k
    . subst e;have:=pQ (cX xl xh j) (cY yl yh j) (aY xl xh yl yh j).1 (aY xl xh yl yh j).2;omega
    . exact ih (by omega)
theorem uH (xl xh yl yh px py:Int) (h:px=xl∨px=xh) (k:py=yl∨py=yh):∃ j,j<4/\cX xl xh j=px/\cY yl yh j=py:=by
 rcases h with rfl|rfl<;>rcases k with rfl|rfl
 . exact ⟨0,by omega,by simp [cX],by simp [cY]⟩
 . exact ⟨1,by omega,by simp [cX],by simp [cY]⟩
 . exact ⟨2,by omega,by simp [cX],by simp [cY]⟩
 . exact ⟨3,by omega,by simp [cX],by simp [cY]⟩
theorem F3 {px py qx qy:Int} (np:¬ (px=0/\py=0)) (nq:¬ (qx=0/\qy=0)) (hc:0<=crs px py qx qy) (hpx:-2147483648<=px/\px<=2147483648) (hpy:-2147483648<=py/\py<=2147483648) (hqx:-2147483648<=qx/\qx<=2147483648) (hqy:-2147483648<=qy/\qy<=2147483648) (h:fU px py=fU qx qy) (hf:iw qx qy=true):iw px py=true:=by
 have dp:=qO px py np hpx hpy;have dq:=qO qx qy nq hqx hqy;have bp:=Ap px py 2147483648 np hpx hpy;have bq:=Ap qx qy 2147483648 nq hqx hqy;have lp:=dp.1;have lq:=dq.1;have hp:=acx px py np;have hq:=acx qx qy nq;unfold fU at h;have tt:qT px py=qT qx qy:=by omega
 have ll:iW px py=iW qx qy:=by omega
 have cc:crs px py qx qy=qX px py*qY qx qy-qY px py*qX qx qy:=by
  unfold crs;generalize qX px py=X at *
  generalize qY px py=Y at *
  generalize qX qx qy=U at *
  generalize qY qx qy=V at *
  generalize qT px py=s at *
  generalize qT qx qy=t at *
  clear dp dq hc hpx hpy hqx hqy np nq hf bp bq;rcases hp with ⟨rfl,rfl,rfl⟩|⟨rfl,rfl,rfl⟩|⟨rfl,rfl,rfl⟩|⟨rfl,rfl,rfl⟩<;>rcases hq with ⟨h1,rfl,rfl⟩|⟨h1,rfl,rfl⟩|⟨h1,rfl,rfl⟩|⟨h1,rfl,rfl⟩<;>first|omega|grind
 rw [cc] at hc;unfold iw at hf ⊢
 rw [ll];simp only [Bool.or_eq_true,Bool.and_eq_true,decide_eq_true_eq] at hf ⊢
 rcases hf with ⟨h1,h2⟩|⟨h1,h2⟩
 . refine .inl ⟨h1,?_⟩;rw [h2,Int.mul_zero] at hc;rcases Int.lt_or_le 0 (qY px py) with g|g
   . have:=Int.mul_pos g bq.1;omega
   . omega
 . refine .inr ⟨h1,?_⟩;have e:qX px py*qY qx qy-qY px py*qX qx qy=(qX px py-qY px py)*qX qx qy:=by rw [<-h2];grind
   rw [e] at hc;have n1:¬ (qX px py-qY px py<0):=fun g=>by have:=Int.mul_neg_of_neg_of_pos g bq.1;omega
   have n2:=dp.2.1;rw [ll,h1] at n2;unfold past at n2;rw [if_pos rfl] at n2;omega
theorem SS (a b:Int) (e f:Bool) (ha:0<=a/\a<=21599999) (hb:0<=b/\b<=21599999) (g1:b+1≠a) (g2:x8 a e+1≠x8 b f) (g3:¬ (a=0/\b=21599999)) (g4:¬ (x8 b f=0/\x8 a e=21599999)) (g5:a=b->f=true->e=true) :
 x8 b f=-upE a b f%21600000/\upE (x8 b f) (x8 a e) e=x8 b f+(upE a b f-a):=by
 have fact:∀ (x:Int) (g:Bool),(g=true/\x=0/\x8 x g=0)∨(g=true/\x≠0/\x8 x g=21600000-x)∨(g=false/\x8 x g=21599999-x):=by
  intro x g;unfold x8;cases g
  . right;right;simp
  . by_cases h:x=0
    . left;simp [h]
    . right;left;simp [h]
 have fa:=fact a e;have fb:=fact b f;generalize x8 a e=A at *
 generalize x8 b f=B at *
 clear fact;unfold upE;cases e<;>cases f<;>simp at fa fb g5 ⊢
 all_goals
  refine ⟨?_,?_⟩<;>(repeat' split)<;>omega
abbrev um (x:Int):Prop:=-2147483648<=x/\x<=2147483648
theorem zb {u v x y:Int} (h:0<u*x+v*y):¬ (x=0/\y=0):=by rintro ⟨rfl,rfl⟩;simp at h
theorem P7 {u v p1 p2 q1 q2 r1 r2 s1 s2:Int} (Hp:0<u*p1+v*p2) (Hq:0<u*q1+v*q2) (Hr:0<u*r1+v*(-r2)) (Hs:0<u*s1+v*(-s2)) (c1:crs q1 q2 r1 (-r2)=0) (c2:crs p1 p2 s1 (-s2)=0) (k1:0<=crs p1 p2 q1 q2) (k2:0<=crs r1 r2 s1 s2)
 (b1:um p1) (b2:um p2) (b3:um q1) (b4:um q2) (b5:um r1) (b6:um r2) (b7:um s1) (b8:um s2) :
 fU r1 r2=-upE (fU p1 p2) (fU q1 q2) (iw q1 q2)%21600000/\upE (fU r1 r2) (fU s1 s2) (iw s1 s2)=fU r1 r2+(upE (fU p1 p2) (fU q1 q2) (iw q1 q2)-fU p1 p2):=by
 have b6':um (-r2):=⟨by have:=b6.2;omega,by have:=b6.1;omega⟩
 have b8':um (-s2):=⟨by have:=b8.2;omega,by have:=b8.1;omega⟩
 have np:=zb Hp;have nq:=zb Hq;have nr':=zb Hr;have ns':=zb Hs;have nr:¬ (r1=0/\r2=0):=fun h=>nr' ⟨h.1,by omega⟩
 have ns:¬ (s1=0/\s2=0):=fun h=>ns' ⟨h.1,by omega⟩
 have g1:=Ww np nq k1 b1 b2 b3 b4;have g2:=Ww nr ns k2 b5 b6 b7 b8;have g3:=CY np nq k1 b1 b2 b3 b4;have g4:=CY nr ns k2 b5 b6 b7 b8;have g5:=F3 np nq k1 b1 b2 b3 b4;have A1:=EY Hq Hr c1 b3 b4 b5 b6'
 have A2:=EY Hp Hs c2 b1 b2 b7 b8'
 have M1:=EQ r1 (-r2) nr' b5 b6'
 have M2:=EQ s1 (-s2) ns' b7 b8'
 rw [Int.neg_neg,<-A1.1,<-A1.2] at M1;rw [Int.neg_neg,<-A2.1,<-A2.2] at M2;rw [M1.2,M2.2] at g2 g4;rw [M1.2,M2.2,M2.1];exact SS _ _ _ _ (vI p1 p2) (vI q1 q2) g1 g2 g3 g4 g5
theorem EN (a b c d:Int):crs a (-b) c d=-crs a b c (-d):=by unfold crs;grind
theorem O9 {u v xl xh yl yh:Int} (H:∀ px py:Int,(px=xl∨px=xh)->(py=yl∨py=yh)->0<u*px+v*py) (H':∀ px py:Int,(px=xl∨px=xh)->(py=-yh∨py=-yl)->0<u*px+(-v)*py) :
 crs (aY xl xh yl yh 4).1 (aY xl xh yl yh 4).2 (aL xl xh (-yh) (-yl) 4).1 (-(aL xl xh (-yh) (-yl) 4).2)=0 /\
 crs (aL xl xh yl yh 4).1 (aL xl xh yl yh 4).2 (aY xl xh (-yh) (-yl) 4).1 (-(aY xl xh (-yh) (-yl) 4).2)=0 /\
 0<=crs (aL xl xh yl yh 4).1 (aL xl xh yl yh 4).2 (aY xl xh yl yh 4).1 (aY xl xh yl yh 4).2 /\
 0<=crs (aL xl xh (-yh) (-yl) 4).1 (aL xl xh (-yh) (-yl) 4).2 (aY xl xh (-yh) (-yl) 4).1 (aY xl xh (-yh) (-yl) 4).2:=by
 have fi:=lV xl xh yl yh 4;have li:=vP xl xh yl yh 4;have fi':=lV xl xh (-yh) (-yl) 4;have li':=vP xl xh (-yh) (-yl) 4
 have fl:∀ px py:Int,(px=xl∨px=xh)->(py=yl∨py=yh)->0<=crs (aL xl xh yl yh 4).1 (aL xl xh yl yh 4).2 px py:=by
  intro px py h k;obtain ⟨j,hj,rfl,rfl⟩:=uH xl xh yl yh px py h k;exact EE H 4 j hj
 have ll:∀ px py:Int,(px=xl∨px=xh)->(py=yl∨py=yh)->0<=crs px py (aY xl xh yl yh 4).1 (aY xl xh yl yh 4).2:=by
  intro px py h k;obtain ⟨j,hj,rfl,rfl⟩:=uH xl xh yl yh px py h k;exact wo H 4 j hj
 have fl':∀ px py:Int,(px=xl∨px=xh)->(py=-yh∨py=-yl)->0<=crs (aL xl xh (-yh) (-yl) 4).1 (aL xl xh (-yh) (-yl) 4).2 px py:=by
  intro px py h k;obtain ⟨j,hj,rfl,rfl⟩:=uH xl xh (-yh) (-yl) px py h k;exact EE H' 4 j hj
 have ll':∀ px py:Int,(px=xl∨px=xh)->(py=-yh∨py=-yl)->0<=crs px py (aY xl xh (-yh) (-yl) 4).1 (aY xl xh (-yh) (-yl) 4).2:=by
  intro px py h k;obtain ⟨j,hj,rfl,rfl⟩:=uH xl xh (-yh) (-yl) px py h k;exact wo H' 4 j hj
 clear H H'
 generalize aL xl xh yl yh 4=p at *
 generalize aY xl xh yl yh 4=q at *
 generalize aL xl xh (-yh) (-yl) 4=r at *
 generalize aY xl xh (-yh) (-yl) 4=s at *
 have n:∀ x:Int,(x=-yh∨x=-yl)->(-x=yl∨-x=yh):=fun x h=>by omega
 have m:∀ x:Int,(x=yl∨x=yh)->(-x=-yh∨-x=-yl):=fun x h=>by omega
 refine ⟨?_,?_,fl _ _ li.1 li.2,fl' _ _ li'.1 li'.2⟩
 . have a:=ll r.1 (-r.2) fi'.1 (n _ fi'.2);have b:=fl' q.1 (-q.2) li.1 (m _ li.2);have k1:=pQ r.1 (-r.2) q.1 q.2;have k2:=EN r.1 r.2 q.1 q.2;clear fl ll fl' ll' fi li fi' li' n m;omega
 . have a:=fl s.1 (-s.2) li'.1 (n _ li'.2);have b:=ll' p.1 (-p.2) fi.1 (m _ fi.2);have k2:=EN p.1 p.2 s.1 s.2;clear fl ll fl' ll' fi li fi' li' n m;omega
theorem Cs {yl yh xl xh:Int} (hy:yl<=yh) (hx:xl<=xh) (hy2:-2147483648<=yl/\yh<=2147483648) (hx2:-2147483648<=xl/\xh<=2147483648) :
 fB (-yh) (-yl) xl xh=-gG yl yh xl xh%21600000/\gG (-yh) (-yl) xl xh=fB (-yh) (-yl) xl xh+(gG yl yh xl xh-fB yl yh xl xh):=by
 by_cases ho:xl<=0/\0<=xh/\yl<=0/\0<=yh
 . have eo:jf yl yh xl xh=true:=by unfold jf;simp only [decide_eq_true_eq];exact ho
   have eo':jf (-yh) (-yl) xl xh=true:=by unfold jf;simp only [decide_eq_true_eq];omega
   have l:fB yl yh xl xh=0:=by unfold fB;rw [eo];rfl
   have l':fB (-yh) (-yl) xl xh=0:=by unfold fB;rw [eo'];rfl
   have h:gG yl yh xl xh=21600000:=by unfold gG;rw [eo];rfl
   have h':gG (-yh) (-yl) xl xh=21600000:=by unfold gG;rw [eo'];rfl
   rw [l,l',h,h'];exact ⟨by decide,by decide⟩
 . have eo:jf yl yh xl xh=false:=by unfold jf;simp only [decide_eq_false_iff_not];exact ho
   have eo':jf (-yh) (-yl) xl xh=false:=by unfold jf;simp only [decide_eq_false_iff_not];omega
   obtain ⟨u,v,H⟩:=FL hy hx ho
   have H':∀ px py:Int,(px=xl∨px=xh)->(py=-yh∨py=-yl)->0<u*px+(-v)*py:=by
    intro px py h k;have:=H px (-py) h (by omega)
    rw [Int.mul_neg] at this;rw [Int.neg_mul];exact this
   have C:=O9 H H'
   have fi:=lV xl xh yl yh 4;have li:=vP xl xh yl yh 4;have fi':=lV xl xh (-yh) (-yl) 4;have li':=vP xl xh (-yh) (-yl) 4;have l:fB yl yh xl xh=fU (aL xl xh yl yh 4).1 (aL xl xh yl yh 4).2:=by unfold fB;rw [eo];rfl
   have l':fB (-yh) (-yl) xl xh=fU (aL xl xh (-yh) (-yl) 4).1 (aL xl xh (-yh) (-yl) 4).2:=by unfold fB;rw [eo'];rfl
   have h:gG yl yh xl xh=upE (fB yl yh xl xh) (fU (aY xl xh yl yh 4).1 (aY xl xh yl yh 4).2) (iw (aY xl xh yl yh 4).1 (aY xl xh yl yh 4).2):=by unfold gG;rw [eo];rfl
   have h':gG (-yh) (-yl) xl xh=upE (fB (-yh) (-yl) xl xh) (fU (aY xl xh (-yh) (-yl) 4).1 (aY xl xh (-yh) (-yl) 4).2) (iw (aY xl xh (-yh) (-yl) 4).1 (aY xl xh (-yh) (-yl) 4).2):=by unfold gG;rw [eo'];rfl
   rw [h,h',l,l'];have n:∀ x:Int,(x=-yh∨x=-yl)->(-x=yl∨-x=yh):=fun x h=>by omega
   have bx:∀ p:Int,(p=xl∨p=xh)->um p:=fun p h=>by unfold um;omega
   have bY:∀ p:Int,(p=yl∨p=yh)->um p:=fun p h=>by unfold um;omega
   have bN:∀ p:Int,(p=-yh∨p=-yl)->um p:=fun p h=>by unfold um;omega
   exact P7 (H _ _ fi.1 fi.2) (H _ _ li.1 li.2) (H _ _ fi'.1 (n _ fi'.2)) (H _ _ li'.1 (n _ li'.2)) C.1 C.2.1 C.2.2.1 C.2.2.2 (bx _ fi.1) (bY _ fi.2) (bx _ li.1) (bY _ li.2) (bx _ fi'.1) (bN _ fi'.2) (bx _ li'.1) (bN _ li'.2)
def AY (a:Int):Int:=if a<10800000 then a+10800000 else a-10800000
theorem afa (x y:Int) (h:¬ (x=0/\y=0)):qX (-x) (-y)=qX x y/\qY (-x) (-y)=qY x y/\qT (-x) (-y)=AY (qT x y):=by
 unfold qX qY qT AY;refine ⟨?_,?_,?_⟩<;>(repeat' split)<;>omega
theorem DL (x y:Int) (h:¬ (x=0/\y=0)) (hx:um x) (hy:um y):iw (-x) (-y)=iw x y/\fU (-x) (-y)=AY (fU x y):=by
 have hx':um (-x):=⟨by have:=hx.2;omega,by have:=hx.1;omega⟩
 have hy':um (-y):=⟨by have:=hy.2;omega,by have:=hy.1;omega⟩
 have d:=qO x y h hx hy;have d':=qO (-x) (-y) (by omega) hx' hy'
 have b:=Ap x y 2147483648 h hx hy;obtain ⟨m1,m2,m3⟩:=afa x y h;rw [m1,m2] at d'
 have l:=Cz ⟨b.1,b.2.1⟩ ⟨b.2.2.1,b.2.2.2⟩ d' d;have lt:=d.1;refine ⟨by unfold iw;rw [l,m1,m2],?_⟩
 have q:=acx x y h;unfold fU;rw [l,m3];unfold AY;rcases q with q|q|q|q<;>rw [q.1]<;>(repeat' split)<;>omega
theorem zT (a b c d:Int):crs (-a) (-b) c d=-crs a b c d/\crs a b (-c) (-d)=-crs a b c d:=by unfold crs;constructor<;>grind
theorem RO (a b:Int) (f:Bool) (ha:0<=a/\a<=21599999) (hb:0<=b/\b<=21599999):AY a=(a+10800000)%21600000/\upE (AY a) (AY b) f=AY a+(upE a b f-a):=by
 unfold AY upE;generalize (if f=true then (0:Int) else 1)=e
 refine ⟨?_,?_⟩<;>(repeat' split)<;>omega
theorem SL {u v p1 p2 q1 q2 r1 r2 s1 s2:Int} (Hp:0<u*p1+v*p2) (Hq:0<u*q1+v*q2) (Hr:0<u*(-r1)+v*(-r2)) (Hs:0<u*(-s1)+v*(-s2)) (c1:crs p1 p2 (-r1) (-r2)=0) (c2:crs q1 q2 (-s1) (-s2)=0)
 (b1:um p1) (b2:um p2) (b3:um q1) (b4:um q2) (b5:um r1) (b6:um r2) (b7:um s1) (b8:um s2) :
 fU r1 r2=(fU p1 p2+10800000)%21600000/\upE (fU r1 r2) (fU s1 s2) (iw s1 s2)=fU r1 r2+(upE (fU p1 p2) (fU q1 q2) (iw q1 q2)-fU p1 p2):=by
 have n:∀ x:Int,um x->um (-x):=fun x h=>⟨by have:=h.2;omega,by have:=h.1;omega⟩
 have nr':=zb Hr;have ns':=zb Hs;have A1:=EY Hp Hr c1 b1 b2 (n _ b5) (n _ b6);have A2:=EY Hq Hs c2 b3 b4 (n _ b7) (n _ b8);have M1:=DL (-r1) (-r2) nr' (n _ b5) (n _ b6);have M2:=DL (-s1) (-s2) ns' (n _ b7) (n _ b8);rw [Int.neg_neg,Int.neg_neg,<-A1.1,<-A1.2] at M1;rw [Int.neg_neg,Int.neg_neg,<-A2.1,<-A2.2] at M2;rw [M1.2,M2.2,M2.1];exact RO _ _ _ (vI p1 p2) (vI q1 q2)
theorem O5 {u v xl xh yl yh:Int} (H:∀ px py:Int,(px=xl∨px=xh)->(py=yl∨py=yh)->0<u*px+v*py) (H':∀ px py:Int,(px=-xh∨px=-xl)->(py=-yh∨py=-yl)->0<(-u)*px+(-v)*py) :
 crs (aL xl xh yl yh 4).1 (aL xl xh yl yh 4).2 (-(aL (-xh) (-xl) (-yh) (-yl) 4).1) (-(aL (-xh) (-xl) (-yh) (-yl) 4).2)=0 /\
 crs (aY xl xh yl yh 4).1 (aY xl xh yl yh 4).2 (-(aY (-xh) (-xl) (-yh) (-yl) 4).1) (-(aY (-xh) (-xl) (-yh) (-yl) 4).2)=0:=by
 have fi:=lV xl xh yl yh 4;have li:=vP xl xh yl yh 4;have fi':=lV (-xh) (-xl) (-yh) (-yl) 4;have li':=vP (-xh) (-xl) (-yh) (-yl) 4
 have fl:∀ px py:Int,(px=xl∨px=xh)->(py=yl∨py=yh)->0<=crs (aL xl xh yl yh 4).1 (aL xl xh yl yh 4).2 px py:=by
  intro px py h k;obtain ⟨j,hj,rfl,rfl⟩:=uH xl xh yl yh px py h k;exact EE H 4 j hj
 have ll:∀ px py:Int,(px=xl∨px=xh)->(py=yl∨py=yh)->0<=crs px py (aY xl xh yl yh 4).1 (aY xl xh yl yh 4).2:=by
  intro px py h k;obtain ⟨j,hj,rfl,rfl⟩:=uH xl xh yl yh px py h k;exact wo H 4 j hj
 have fl':∀ px py:Int,(px=-xh∨px=-xl)->(py=-yh∨py=-yl)->0<=crs (aL (-xh) (-xl) (-yh) (-yl) 4).1 (aL (-xh) (-xl) (-yh) (-yl) 4).2 px py:=by
  intro px py h k;obtain ⟨j,hj,rfl,rfl⟩:=uH (-xh) (-xl) (-yh) (-yl) px py h k;exact EE H' 4 j hj
 have ll':∀ px py:Int,(px=-xh∨px=-xl)->(py=-yh∨py=-yl)->0<=crs px py (aY (-xh) (-xl) (-yh) (-yl) 4).1 (aY (-xh) (-xl) (-yh) (-yl) 4).2:=by
  intro px py h k;obtain ⟨j,hj,rfl,rfl⟩:=uH (-xh) (-xl) (-yh) (-yl) px py h k;exact wo H' 4 j hj
 clear H H'
 generalize aL xl xh yl yh 4=p at *
 generalize aY xl xh yl yh 4=q at *
 generalize aL (-xh) (-xl) (-yh) (-yl) 4=r at *
 generalize aY (-xh) (-xl) (-yh) (-yl) 4=s at *
 have n:∀ x l h:Int,(x=-h∨x=-l)->(-x=l∨-x=h):=fun x l h k=>by omega
 have m:∀ x l h:Int,(x=l∨x=h)->(-x=-h∨-x=-l):=fun x l h k=>by omega
 constructor
 . have a:=fl (-r.1) (-r.2) (n _ _ _ fi'.1) (n _ _ _ fi'.2);have b:=fl' (-p.1) (-p.2) (m _ _ _ fi.1) (m _ _ _ fi.2);have k1:=(zT p.1 p.2 r.1 r.2).2;have k2:=(zT r.1 r.2 p.1 p.2).2;have k3:=pQ r.1 r.2 p.1 p.2;clear fl ll fl' ll' fi li fi' li' n m;omega
 . have a:=ll (-s.1) (-s.2) (n _ _ _ li'.1) (n _ _ _ li'.2);have b:=ll' (-q.1) (-q.2) (m _ _ _ li.1) (m _ _ _ li.2);have k1:=(zT q.1 q.2 s.1 s.2).2;have k2:=(zT s.1 s.2 q.1 q.2).1;have k3:=(zT q.1 q.2 s.1 s.2).1;have k4:=pQ s.1 s.2 q.1 q.2;clear fl ll fl' ll' fi li fi' li' n m;omega
theorem KA {yl yh xl xh:Int} (hy:yl<=yh) (hx:xl<=xh) (hy2:-2147483648<=yl/\yh<=2147483648) (hx2:-2147483648<=xl/\xh<=2147483648) :
 if jf yl yh xl xh then fB (-yh) (-yl) (-xh) (-xl)=0/\gG (-yh) (-yl) (-xh) (-xl)=21600000 else
 fB (-yh) (-yl) (-xh) (-xl)=(fB yl yh xl xh+10800000)%21600000/\gG (-yh) (-yl) (-xh) (-xl)=fB (-yh) (-yl) (-xh) (-xl)+(gG yl yh xl xh-fB yl yh xl xh):=by
 by_cases ho:xl<=0/\0<=xh/\yl<=0/\0<=yh
 . have eo:jf yl yh xl xh=true:=by unfold jf;simp only [decide_eq_true_eq];exact ho
   have eo':jf (-yh) (-yl) (-xh) (-xl)=true:=by unfold jf;simp only [decide_eq_true_eq];omega
   rw [if_pos eo];exact ⟨by unfold fB;rw [eo'];rfl,by unfold gG;rw [eo'];rfl⟩
 . have eo:jf yl yh xl xh=false:=by unfold jf;simp only [decide_eq_false_iff_not];exact ho
   have eo':jf (-yh) (-yl) (-xh) (-xl)=false:=by unfold jf;simp only [decide_eq_false_iff_not];omega
   rw [eo,if_neg (by decide)]
   obtain ⟨u,v,H⟩:=FL hy hx ho
   have H':∀ px py:Int,(px=-xh∨px=-xl)->(py=-yh∨py=-yl)->0<(-u)*px+(-v)*py:=by
    intro px py h k;have:=H (-px) (-py) (by omega) (by omega)
    rw [Int.mul_neg,Int.mul_neg] at this;rw [Int.neg_mul,Int.neg_mul];exact this
   have C:=O5 H H'
   have fi:=lV xl xh yl yh 4;have li:=vP xl xh yl yh 4;have fi':=lV (-xh) (-xl) (-yh) (-yl) 4;have li':=vP (-xh) (-xl) (-yh) (-yl) 4;have l:fB yl yh xl xh=fU (aL xl xh yl yh 4).1 (aL xl xh yl yh 4).2:=by unfold fB;rw [eo];rfl
   have l':fB (-yh) (-yl) (-xh) (-xl)=fU (aL (-xh) (-xl) (-yh) (-yl) 4).1 (aL (-xh) (-xl) (-yh) (-yl) 4).2:=by unfold fB;rw [eo'];rfl
   have h:gG yl yh xl xh=upE (fB yl yh xl xh) (fU (aY xl xh yl yh 4).1 (aY xl xh yl yh 4).2) (iw (aY xl xh yl yh 4).1 (aY xl xh yl yh 4).2):=by unfold gG;rw [eo];rfl
   have h':gG (-yh) (-yl) (-xh) (-xl)=upE (fB (-yh) (-yl) (-xh) (-xl)) (fU (aY (-xh) (-xl) (-yh) (-yl) 4).1 (aY (-xh) (-xl) (-yh) (-yl) 4).2) (iw (aY (-xh) (-xl) (-yh) (-yl) 4).1 (aY (-xh) (-xl) (-yh) (-yl) 4).2):=by unfold gG;rw [eo'];rfl
   rw [h,h',l,l'];have n:∀ x l h:Int,(x=-h∨x=-l)->(-x=l∨-x=h):=fun x l h k=>by omega
   have bx:∀ p:Int,(p=xl∨p=xh)->um p:=fun p h=>by unfold um;omega
   have bY:∀ p:Int,(p=yl∨p=yh)->um p:=fun p h=>by unfold um;omega
   have bX':∀ p:Int,(p=-xh∨p=-xl)->um p:=fun p h=>by unfold um;omega
   have bY':∀ p:Int,(p=-yh∨p=-yl)->um p:=fun p h=>by unfold um;omega
   exact SL (H _ _ fi.1 fi.2) (H _ _ li.1 li.2) (H _ _ (n _ _ _ fi'.1) (n _ _ _ fi'.2)) (H _ _ (n _ _ _ li'.1) (n _ _ _ li'.2)) C.1 C.2 (bx _ fi.1) (bY _ fi.2) (bx _ li.1) (bY _ li.2) (bX' _ fi'.1) (bY' _ fi'.2) (bX' _ li'.1) (bY' _ li'.2)
theorem AO {yl yh xl xh:Int} (hy:yl<=yh) (hx:xl<=xh) (hy2:-2147483648<=yl/\yh<=2147483648) (hx2:-2147483648<=xl/\xh<=2147483648) (ho:jf yl yh xl xh=false) :
 gG yl yh xl xh-fB yl yh xl xh<21600000:=by
 have ho':¬ (xl<=0/\0<=xh/\yl<=0/\0<=yh):=by unfold jf at ho;simpa only [decide_eq_false_iff_not] using ho
 obtain ⟨u,v,H⟩:=FL hy hx ho'
 have fi:=lV xl xh yl yh 4;have li:=vP xl xh yl yh 4
 have cr:0<=crs (aL xl xh yl yh 4).1 (aL xl xh yl yh 4).2 (aY xl xh yl yh 4).1 (aY xl xh yl yh 4).2:=by
  obtain ⟨j,hj,e1,e2⟩:=uH xl xh yl yh _ _ li.1 li.2;rw [<-e1,<-e2];exact EE H 4 j hj
 have bnd:∀ p:Int,(p=xl∨p=xh)->um p:=fun p h=>by unfold um;omega
 have bnd2:∀ p:Int,(p=yl∨p=yh)->um p:=fun p h=>by unfold um;omega
 have np:=zb (H _ _ fi.1 fi.2);have nq:=zb (H _ _ li.1 li.2);have g:=Ww np nq cr (bnd _ fi.1) (bnd2 _ fi.2) (bnd _ li.1) (bnd2 _ li.2);have k:=CY np nq cr (bnd _ fi.1) (bnd2 _ fi.2) (bnd _ li.1) (bnd2 _ li.2);have b1:=vI (aL xl xh yl yh 4).1 (aL xl xh yl yh 4).2;have b2:=vI (aY xl xh yl yh 4).1 (aY xl xh yl yh 4).2;have eL:fB yl yh xl xh=fU (aL xl xh yl yh 4).1 (aL xl xh yl yh 4).2:=by unfold fB;rw [ho];rfl
 have eH:gG yl yh xl xh=upE (fB yl yh xl xh) (fU (aY xl xh yl yh 4).1 (aY xl xh yl yh 4).2) (iw (aY xl xh yl yh 4).1 (aY xl xh yl yh 4).2):=by unfold gG;rw [ho];rfl
 rw [eH,eL];generalize fU (aL xl xh yl yh 4).1 (aL xl xh yl yh 4).2=f at *
 generalize fU (aY xl xh yl yh 4).1 (aY xl xh yl yh 4).2=l at *
 generalize iw (aY xl xh yl yh 4).1 (aY xl xh yl yh 4).2=e at *
 clear fi li cr bnd bnd2 np nq H eL eH hy hx hy2 hx2 ho ho'
 unfold upE;cases e<;>simp<;>split<;>omega
