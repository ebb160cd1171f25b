/- Plain integers: the directions of a box that is mirrored. -/
import Derived.Test.YtdbaccfgkacffaaGreatZDirs
set_option linter.unusedVariables false
set_option linter.unusedSimpArgs false
namespace Alm
open Go.Proofs.YtdbaccfgkacffaaGreat
theorem Nu {px py qx qy:Int} (np:¬ (px=0/\py=0)) (nq:¬ (qx=0/\qy=0)) (hc:0<=crs px py qx qy) (hpx:-2147483648<=px/\px<=2147483648) (hpy:-2147483648<=py/\py<=2147483648) (hqx:-2147483648<=qx/\qx<=2147483648) (hqy:-2147483648<=qy/\qy<=2147483648):¬ (bT px py=0/\bT qx qy=21599999):=by
 rintro ⟨h1,h2⟩;have d1:=(gT px py np hpx hpy).1;have d2:=(gT qx qy nq hqx hqy).1;unfold bT at h1 h2
 have p1:0<px/\0<=py:=by
  refine Classical.byContradiction fun g=>?_
  have:qT px py≠0:=by
   unfold qT;rw [if_neg g];split
   . decide
   . split<;>decide
  have:0<=qT px py:=by unfold qT;split<;>(try split)<;>(try split)<;>decide
  omega
 have q1:0<=qx/\qy<0:=by
  have t:qT qx qy=16200000:=by
   unfold qT at *
   split at h2
   . omega
   . split at h2
     . omega
     . split at h2
       . omega
       . rename_i a b c
         rw [if_neg a,if_neg b,if_neg c]
  unfold qT at t;split at t
  . exact absurd t (by decide)
  . split at t
    . exact absurd t (by decide)
    . split at t
      . exact absurd t (by decide)
      . omega
 unfold crs at hc;have m1:=Int.mul_nonneg (show 0<=py by omega) q1.1
 have m2:=Int.mul_pos p1.1 (show 0 < -qy by omega)
 have e:px*-qy=-(px*qy):=by grind
 omega
theorem xW (x y:Int) (k:Nat) (h0:0<k) (h1:k<5400000) (hx:0<x/\x<=2147483648) (hy:0<y/\y<=2147483648):past y x (5400000-k)↔¬ past x y k/\¬ (k=2700000/\x=y):=by
 by_cases hk:k=2700000
 . subst hk;unfold past;rw [if_pos rfl,if_pos rfl]
   constructor
   . intro h;omega
   . intro h;omega
 . have g:=zA x y k h0 h1 hk (by omega) ⟨by omega,hx.2⟩ ⟨by omega,hy.2⟩
   have e:frm y x (5400000-k)=-frm x y k:=by
    unfold frm
    by_cases h:k<=2700000
    . rw [if_pos h,if_neg (by omega),show 5400000-(5400000-k)=k by omega]
      grind
    . rw [if_neg h,if_pos (by omega)]
      grind
   unfold past;rw [if_neg (by omega),if_neg hk,e]
   have p:=Kh
   constructor
   . intro h;refine ⟨?_,by omega⟩
     intro h2;grind
   . intro ⟨h,_⟩;rcases g with g|g
     . exact absurd (show 0<frm x y k by grind) h
     . grind
theorem Gb {x y:Int} {L:Nat} (hx:0<x/\x<=2147483648) (hy:0<y/\y<=2147483648) (h:mY x y L) (hn:¬ (L=2700000/\x=y)):mY y x (5399999-L):=by
 obtain ⟨a,b,c⟩:=h;refine ⟨by omega,?_,?_⟩
 . by_cases q:L+1=5400000
   . rw [show 5399999-L=0 by omega]
     exact kC _ _ (by omega)
   . intro h;have:=(xW x y (L+1) (by omega) (by omega) hx hy).1 (by rw [show 5400000-(L+1)=5399999-L by omega];exact h)
     exact this.1 c
 . by_cases q:L=0
   . subst q;exact qB _ _ hy.1
   . have:=(xW x y L (by omega) a hx hy).2 ⟨b,hn⟩
     rw [show 5399999-L+1=5400000-L by omega]
     exact this
theorem acP (x y:Int) (h:¬ (x=0/\y=0)):(qY x y=0->qX x (-y)=qX x y/\qY x (-y)=0/\qT x (-y)=if qT x y=0 then 0 else 21600000-qT x y)/\(0<qY x y->qX x (-y)=qY x y/\qY x (-y)=qX x y/\qT x (-y)=16200000-qT x y):=by
 unfold qX qY qT
 constructor
 . intro h0;refine ⟨?_,?_,?_⟩<;>(repeat' split at h0)<;>(repeat' split)<;>omega
 . intro h0;refine ⟨?_,?_,?_⟩<;>(repeat' split at h0)<;>(repeat' split)<;>omega
def lZ (a:Int) (e:Bool):Int:=if e then (if a=0 then 0 else 21600000-a) else 21599999-a
theorem Ho (x y:Int) (h:¬ (x=0/\y=0)) (hx:-2147483648<=x/\x<=2147483648) (hy:-2147483648<=y/\y<=2147483648):dh x (-y)=dh x y/\bT x (-y)=lZ (bT x y) (dh x y):=by
 have d:=gT x y h hx hy;have d':=gT x (-y) (by omega) hx (by omega)
 have b:=q_bd x y 2147483648 h hx hy;have m:=acP x y h;have t:=yz x y
 by_cases h0:qY x y=0
 . obtain ⟨m1,m2,m3⟩:=m.1 h0;rw [h0] at d;rw [m1,m2] at d'
   have l:=Da _ ⟨b.1,b.2.1⟩ _ d;have l':=Da _ ⟨b.1,b.2.1⟩ _ d'
   have e:dh x y=true:=by unfold dh;rw [l,h0];rfl
   have e':dh x (-y)=true:=by unfold dh;rw [l',m2];rfl
   rw [e,e'];refine ⟨rfl,?_⟩;unfold lZ bT;rw [l,l',m3];simp
 . obtain ⟨m1,m2,m3⟩:=m.2 (by omega)
   rw [m1,m2] at d'
   by_cases q:fQ x y=2700000/\qX x y=qY x y
   . have e:dh x y=true:=by unfold dh;rw [q.1,q.2];simp
     have l':fQ x (-y)=2700000:=by
      rw [<-q.1];rw [q.2] at d;rw [q.2] at d'
      exact gK ⟨by omega,by omega⟩ ⟨by omega,by omega⟩ d' d
     have e':dh x (-y)=true:=by unfold dh;rw [l',m1,m2,q.2];simp
     rw [e,e'];refine ⟨rfl,?_⟩;unfold lZ bT;rw [l',m3,q.1];simp only [if_true];rw [if_neg (by omega)]
     omega
   . have dc:=Gb ⟨b.1,b.2.1⟩ ⟨by omega,b.2.2.2⟩ d q
     have l':fQ x (-y)=5399999-fQ x y:=gK ⟨by omega,by omega⟩ ⟨by omega,by omega⟩ d' dc
     have e:dh x y=false:=by
      unfold dh;simp only [Bool.or_eq_false_iff,Bool.and_eq_false_iff,decide_eq_false_iff_not];exact ⟨.inr h0,Classical.not_and_iff_not_or_not.1 q⟩
     have e':dh x (-y)=false:=by
      unfold dh;simp only [Bool.or_eq_false_iff,Bool.and_eq_false_iff,decide_eq_false_iff_not];refine ⟨.inr (by rw [m2];omega),?_⟩
      refine Classical.not_and_iff_not_or_not.1 ?_;rintro ⟨k1,k2⟩;rw [m1,m2] at k2;refine q ⟨?_,k2.symm⟩;rw [k1,k2] at d'
      rw [<-k2] at d;rw [<-k2] at d'
      exact gK ⟨by omega,by omega⟩ ⟨by omega,by omega⟩ d (by rw [k2] at d' ⊢;exact d')
     rw [e,e'];refine ⟨rfl,?_⟩;have lt:=d.1;unfold lZ bT;rw [l',m3];simp only [Bool.false_eq_true,if_false];omega
theorem vG {yl yh xl xh u v:Int} (H:∀ px py:Int,(px=xl∨px=xh)->(py=yl∨py=yh)->0<u*px+v*py) (k j:Nat) (hj:j<k) :
 0<=crs (cX xl xh j) (cY yl yh j) (aB xl xh yl yh k).1 (aB xl xh yl yh k).2:=by
 induction k with
 | zero=>omega
 | succ k ih =>
  have pi:=jf xl xh yl yh k;have ci:=MS xl xh yl yh k;have cj:=MS xl xh yl yh j;rw [show aB xl xh yl yh (k+1)=if nW (aB xl xh yl yh k).1 (aB xl xh yl yh k).2 (cX xl xh k) (cY yl yh k) then (cX xl xh k,cY yl yh k) else aB xl xh yl yh k from rfl]
  have hp:=H _ _ pi.1 pi.2;have hc:=H _ _ ci.1 ci.2;have hj':=H _ _ cj.1 cj.2;rw [uB]
  by_cases h1:0<=crs (aB xl xh yl yh k).1 (aB xl xh yl yh k).2 (cX xl xh k) (cY yl yh k)
  . rw [if_pos (by simpa using h1)]
    by_cases e:j=k
    . subst e;have:=kr (cX xl xh j) (cY yl yh j);simp only [];omega
    . exact jr hj' hp hc (ih (by omega)) h1
  . rw [if_neg (by simpa using h1)]
    by_cases e:j=k
    . subst e;have:=kE (cX xl xh j) (cY yl yh j) (aB xl xh yl yh j).1 (aB xl xh yl yh j).2;omega
    . exact ih (by omega)
theorem nE (xl xh yl yh px py:Int) (h:px=xl∨px=xh) (k:py=yl∨py=yh):∃ j,j<4/\cX xl xh j=px/\cY yl yh j=py:=by
 rcases h with rfl|rfl<;>rcases k with rfl|rfl
 . exact ⟨0,by omega,by simp [cX],by simp [cY]⟩
 . exact ⟨1,by omega,by simp [cX],by simp [cY]⟩
 . exact ⟨2,by omega,by simp [cX],by simp [cY]⟩
 . exact ⟨3,by omega,by simp [cX],by simp [cY]⟩
theorem KO {px py qx qy:Int} (np:¬ (px=0/\py=0)) (nq:¬ (qx=0/\qy=0)) (hc:0<=crs px py qx qy) (hpx:-2147483648<=px/\px<=2147483648) (hpy:-2147483648<=py/\py<=2147483648) (hqx:-2147483648<=qx/\qx<=2147483648) (hqy:-2147483648<=qy/\qy<=2147483648) (h:bT px py=bT qx qy) (hf:dh qx qy=true):dh px py=true:=by
 have dp:=gT px py np hpx hpy;have dq:=gT qx qy nq hqx hqy;have bp:=q_bd px py 2147483648 np hpx hpy;have bq:=q_bd qx qy 2147483648 nq hqx hqy;have lp:=dp.1;have lq:=dq.1;have hp:=RJ px py np;have hq:=RJ qx qy nq;unfold bT at h;have tt:qT px py=qT qx qy:=by omega
 have ll:fQ px py=fQ qx qy:=by omega
 have cc:crs px py qx qy=qX px py*qY qx qy-qY px py*qX qx qy:=by
  unfold crs;generalize qX px py=X at *
  generalize qY px py=Y at *
  generalize qX qx qy=U at *
  generalize qY qx qy=V at *
  generalize qT px py=s at *
  generalize qT qx qy=t at *
  clear dp dq hc hpx hpy hqx hqy np nq hf bp bq;rcases hp with ⟨rfl,rfl,rfl⟩|⟨rfl,rfl,rfl⟩|⟨rfl,rfl,rfl⟩|⟨rfl,rfl,rfl⟩<;>rcases hq with ⟨h1,rfl,rfl⟩|⟨h1,rfl,rfl⟩|⟨h1,rfl,rfl⟩|⟨h1,rfl,rfl⟩<;>first|omega|grind
 rw [cc] at hc;unfold dh at hf ⊢
 rw [ll];simp only [Bool.or_eq_true,Bool.and_eq_true,decide_eq_true_eq] at hf ⊢
 rcases hf with ⟨h1,h2⟩|⟨h1,h2⟩
 . refine .inl ⟨h1,?_⟩;rw [h2,Int.mul_zero] at hc;rcases Int.lt_or_le 0 (qY px py) with g|g
   . have:=Int.mul_pos g bq.1;omega
   . omega
 . refine .inr ⟨h1,?_⟩;have e:qX px py*qY qx qy-qY px py*qX qx qy=(qX px py-qY px py)*qX qx qy:=by rw [<-h2];grind
   rw [e] at hc;have n1:¬ (qX px py-qY px py<0):=fun g=>by have:=Int.mul_neg_of_neg_of_pos g bq.1;omega
   have n2:=dp.2.1;rw [ll,h1] at n2;unfold past at n2;rw [if_pos rfl] at n2;omega
theorem Vu (a b:Int) (e f:Bool) (ha:0<=a/\a<=21599999) (hb:0<=b/\b<=21599999) (g1:b+1≠a) (g2:lZ a e+1≠lZ b f) (g3:¬ (a=0/\b=21599999)) (g4:¬ (lZ b f=0/\lZ a e=21599999)) (g5:a=b->f=true->e=true) :
 lZ b f=-upE a b f%21600000/\upE (lZ b f) (lZ a e) e=lZ b f+(upE a b f-a):=by
 have fact:∀ (x:Int) (g:Bool),(g=true/\x=0/\lZ x g=0)∨(g=true/\x≠0/\lZ x g=21600000-x)∨(g=false/\lZ x g=21599999-x):=by
  intro x g;unfold lZ;cases g
  . right;right;simp
  . by_cases h:x=0
    . left;simp [h]
    . right;left;simp [h]
 have fa:=fact a e;have fb:=fact b f;generalize lZ a e=A at *
 generalize lZ b f=B at *
 clear fact;unfold upE;cases e<;>cases f<;>simp at fa fb g5 ⊢
 all_goals
  refine ⟨?_,?_⟩<;>(repeat' split)<;>omega
abbrev nU (x:Int):Prop:=-2147483648<=x/\x<=2147483648
theorem JC {u v x y:Int} (h:0<u*x+v*y):¬ (x=0/\y=0):=by rintro ⟨rfl,rfl⟩;simp at h
theorem SA {u v p1 p2 q1 q2 r1 r2 s1 s2:Int} (Hp:0<u*p1+v*p2) (Hq:0<u*q1+v*q2) (Hr:0<u*r1+v*(-r2)) (Hs:0<u*s1+v*(-s2)) (c1:crs q1 q2 r1 (-r2)=0) (c2:crs p1 p2 s1 (-s2)=0) (k1:0<=crs p1 p2 q1 q2) (k2:0<=crs r1 r2 s1 s2)
 (b1:nU p1) (b2:nU p2) (b3:nU q1) (b4:nU q2) (b5:nU r1) (b6:nU r2) (b7:nU s1) (b8:nU s2) :
 bT r1 r2=-upE (bT p1 p2) (bT q1 q2) (dh q1 q2)%21600000/\upE (bT r1 r2) (bT s1 s2) (dh s1 s2)=bT r1 r2+(upE (bT p1 p2) (bT q1 q2) (dh q1 q2)-bT p1 p2):=by
 have b6':nU (-r2):=⟨by have:=b6.2;omega,by have:=b6.1;omega⟩
 have b8':nU (-s2):=⟨by have:=b8.2;omega,by have:=b8.1;omega⟩
 have np:=JC Hp;have nq:=JC Hq;have nr':=JC Hr;have ns':=JC Hs;have nr:¬ (r1=0/\r2=0):=fun h=>nr' ⟨h.1,by omega⟩
 have ns:¬ (s1=0/\s2=0):=fun h=>ns' ⟨h.1,by omega⟩
 have g1:=Bf np nq k1 b1 b2 b3 b4;have g2:=Bf nr ns k2 b5 b6 b7 b8;have g3:=Nu np nq k1 b1 b2 b3 b4;have g4:=Nu nr ns k2 b5 b6 b7 b8;have g5:=KO np nq k1 b1 b2 b3 b4;have A1:=qA Hq Hr c1 b3 b4 b5 b6'
 have A2:=qA Hp Hs c2 b1 b2 b7 b8'
 have M1:=Ho r1 (-r2) nr' b5 b6'
 have M2:=Ho s1 (-s2) ns' b7 b8'
 rw [Int.neg_neg,<-A1.1,<-A1.2] at M1;rw [Int.neg_neg,<-A2.1,<-A2.2] at M2;rw [M1.2,M2.2] at g2 g4;rw [M1.2,M2.2,M2.1];exact Vu _ _ _ _ (jL p1 p2) (jL q1 q2) g1 g2 g3 g4 g5
theorem Je (a b c d:Int):crs a (-b) c d=-crs a b c (-d):=by unfold crs;grind
theorem VA {u v xl xh yl yh:Int} (H:∀ px py:Int,(px=xl∨px=xh)->(py=yl∨py=yh)->0<u*px+v*py) (H':∀ px py:Int,(px=xl∨px=xh)->(py=-yh∨py=-yl)->0<u*px+(-v)*py) :
 crs (aB xl xh yl yh 4).1 (aB xl xh yl yh 4).2 (az xl xh (-yh) (-yl) 4).1 (-(az xl xh (-yh) (-yl) 4).2)=0 /\
 crs (az xl xh yl yh 4).1 (az xl xh yl yh 4).2 (aB xl xh (-yh) (-yl) 4).1 (-(aB xl xh (-yh) (-yl) 4).2)=0 /\
 0<=crs (az xl xh yl yh 4).1 (az xl xh yl yh 4).2 (aB xl xh yl yh 4).1 (aB xl xh yl yh 4).2 /\
 0<=crs (az xl xh (-yh) (-yl) 4).1 (az xl xh (-yh) (-yl) 4).2 (aB xl xh (-yh) (-yl) 4).1 (aB xl xh (-yh) (-yl) 4).2:=by
 have fi:=gW xl xh yl yh 4;have li:=jf xl xh yl yh 4;have fi':=gW xl xh (-yh) (-yl) 4;have li':=jf xl xh (-yh) (-yl) 4
 have fl:∀ px py:Int,(px=xl∨px=xh)->(py=yl∨py=yh)->0<=crs (az xl xh yl yh 4).1 (az xl xh yl yh 4).2 px py:=by
  intro px py h k;obtain ⟨j,hj,rfl,rfl⟩:=nE xl xh yl yh px py h k;exact mr H 4 j hj
 have ll:∀ px py:Int,(px=xl∨px=xh)->(py=yl∨py=yh)->0<=crs px py (aB xl xh yl yh 4).1 (aB xl xh yl yh 4).2:=by
  intro px py h k;obtain ⟨j,hj,rfl,rfl⟩:=nE xl xh yl yh px py h k;exact vG H 4 j hj
 have fl':∀ px py:Int,(px=xl∨px=xh)->(py=-yh∨py=-yl)->0<=crs (az xl xh (-yh) (-yl) 4).1 (az xl xh (-yh) (-yl) 4).2 px py:=by
  intro px py h k;obtain ⟨j,hj,rfl,rfl⟩:=nE xl xh (-yh) (-yl) px py h k;exact mr H' 4 j hj
 have ll':∀ px py:Int,(px=xl∨px=xh)->(py=-yh∨py=-yl)->0<=crs px py (aB xl xh (-yh) (-yl) 4).1 (aB xl xh (-yh) (-yl) 4).2:=by
  intro px py h k;obtain ⟨j,hj,rfl,rfl⟩:=nE xl xh (-yh) (-yl) px py h k;exact vG H' 4 j hj
 clear H H'
 generalize az xl xh yl yh 4=p at *
 generalize aB xl xh yl yh 4=q at *
 generalize az xl xh (-yh) (-yl) 4=r at *
 generalize aB xl xh (-yh) (-yl) 4=s at *
 have n:∀ x:Int,(x=-yh∨x=-yl)->(-x=yl∨-x=yh):=fun x h=>by omega
 have m:∀ x:Int,(x=yl∨x=yh)->(-x=-yh∨-x=-yl):=fun x h=>by omega
 refine ⟨?_,?_,fl _ _ li.1 li.2,fl' _ _ li'.1 li'.2⟩
 . have a:=ll r.1 (-r.2) fi'.1 (n _ fi'.2);have b:=fl' q.1 (-q.2) li.1 (m _ li.2);have k1:=kE r.1 (-r.2) q.1 q.2;have k2:=Je r.1 r.2 q.1 q.2;clear fl ll fl' ll' fi li fi' li' n m;omega
 . have a:=fl s.1 (-s.2) li'.1 (n _ li'.2);have b:=ll' p.1 (-p.2) fi.1 (m _ fi.2);have k2:=Je p.1 p.2 s.1 s.2;clear fl ll fl' ll' fi li fi' li' n m;omega
theorem Np {yl yh xl xh:Int} (hy:yl<=yh) (hx:xl<=xh) (hy2:-2147483648<=yl/\yh<=2147483648) (hx2:-2147483648<=xl/\xh<=2147483648) :
 bP (-yh) (-yl) xl xh=-cB yl yh xl xh%21600000/\cB (-yh) (-yl) xl xh=bP (-yh) (-yl) xl xh+(cB yl yh xl xh-bP yl yh xl xh):=by
 by_cases ho:xl<=0/\0<=xh/\yl<=0/\0<=yh
 . have eo:dZ yl yh xl xh=true:=by unfold dZ;simp only [decide_eq_true_eq];exact ho
   have eo':dZ (-yh) (-yl) xl xh=true:=by unfold dZ;simp only [decide_eq_true_eq];omega
   have l:bP yl yh xl xh=0:=by unfold bP;rw [eo];rfl
   have l':bP (-yh) (-yl) xl xh=0:=by unfold bP;rw [eo'];rfl
   have h:cB yl yh xl xh=21600000:=by unfold cB;rw [eo];rfl
   have h':cB (-yh) (-yl) xl xh=21600000:=by unfold cB;rw [eo'];rfl
   rw [l,l',h,h'];exact ⟨by decide,by decide⟩
 . have eo:dZ yl yh xl xh=false:=by unfold dZ;simp only [decide_eq_false_iff_not];exact ho
   have eo':dZ (-yh) (-yl) xl xh=false:=by unfold dZ;simp only [decide_eq_false_iff_not];omega
   obtain ⟨u,v,H⟩:=vo hy hx ho
   have H':∀ px py:Int,(px=xl∨px=xh)->(py=-yh∨py=-yl)->0<u*px+(-v)*py:=by
    intro px py h k;have:=H px (-py) h (by omega)
    rw [Int.mul_neg] at this;rw [Int.neg_mul];exact this
   have C:=VA H H'
   have fi:=gW xl xh yl yh 4;have li:=jf xl xh yl yh 4;have fi':=gW xl xh (-yh) (-yl) 4;have li':=jf xl xh (-yh) (-yl) 4;have l:bP yl yh xl xh=bT (az xl xh yl yh 4).1 (az xl xh yl yh 4).2:=by unfold bP;rw [eo];rfl
   have l':bP (-yh) (-yl) xl xh=bT (az xl xh (-yh) (-yl) 4).1 (az xl xh (-yh) (-yl) 4).2:=by unfold bP;rw [eo'];rfl
   have h:cB yl yh xl xh=upE (bP yl yh xl xh) (bT (aB xl xh yl yh 4).1 (aB xl xh yl yh 4).2) (dh (aB xl xh yl yh 4).1 (aB xl xh yl yh 4).2):=by unfold cB;rw [eo];rfl
   have h':cB (-yh) (-yl) xl xh=upE (bP (-yh) (-yl) xl xh) (bT (aB xl xh (-yh) (-yl) 4).1 (aB xl xh (-yh) (-yl) 4).2) (dh (aB xl xh (-yh) (-yl) 4).1 (aB xl xh (-yh) (-yl) 4).2):=by unfold cB;rw [eo'];rfl
   rw [h,h',l,l'];have n:∀ x:Int,(x=-yh∨x=-yl)->(-x=yl∨-x=yh):=fun x h=>by omega
   have bx:∀ p:Int,(p=xl∨p=xh)->nU p:=fun p h=>by unfold nU;omega
   have bY:∀ p:Int,(p=yl∨p=yh)->nU p:=fun p h=>by unfold nU;omega
   have bN:∀ p:Int,(p=-yh∨p=-yl)->nU p:=fun p h=>by unfold nU;omega
   exact SA (H _ _ fi.1 fi.2) (H _ _ li.1 li.2) (H _ _ fi'.1 (n _ fi'.2)) (H _ _ li'.1 (n _ li'.2)) C.1 C.2.1 C.2.2.1 C.2.2.2 (bx _ fi.1) (bY _ fi.2) (bx _ li.1) (bY _ li.2) (bx _ fi'.1) (bN _ fi'.2) (bx _ li'.1) (bN _ li'.2)
