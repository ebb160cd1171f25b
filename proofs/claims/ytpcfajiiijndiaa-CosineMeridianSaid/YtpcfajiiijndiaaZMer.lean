/- The altitude and the azimuth of exact triangles hold what they should, on the meridian. -/
import Derived.Test.YtpcfajiiijndiaaZCosM
import Derived.Test.YtpcfajiiijndiaaZTru
set_option linter.unusedVariables false
set_option linter.unusedSimpArgs false
namespace Go.Proofs.Ytpcfajiiijndiaa
open Alm Sx
theorem UQ {p q:IV} (hp:U p) (hq:U q) {x y e f:Rat} (hx:InE p.1 p.2 x e) (hy:InE q.1 q.2 y f):InE (uD p q).1 (uD p q).2 (x-y) (e+f):=by
 rw [(U_D hp hq).1];unfold InE at *
 simp only [Rat.intCast_sub]
 constructor<;>grind
theorem Jw {x y:Rat} (hx:O1 x) (hy:O1 y):O1 (x*y):=by
 have h:=Nr.mul (Nr.refl x) (Nr.refl y) hx hy Rat.le_refl Rat.le_refl;unfold O1 at *
 have a:=Rat.mul_nonneg (show 0<=1-x by grind) (show 0<=1-y by grind)
 have b:=Rat.mul_nonneg (show 0<=1+x by grind) (show 0<=1+y by grind)
 have c:=Rat.mul_nonneg (show 0<=1-x by grind) (show 0<=1+y by grind)
 have d:=Rat.mul_nonneg (show 0<=1+x by grind) (show 0<=1-y by grind)
 constructor<;>grind
theorem H7 (a c e f n:Int) (h:n=e∨n=f):InE (jJ a a c c e f).1 (jJ a a c c e f).2 (sg a*sg c+cg a*cg c*cg n) (10*ee):=by
 have p:=bN;have s:=mP (U_S a a) (U_S c c) (uZ a a a (.inl rfl)) (uZ c c c (.inl rfl)) (by grind) (by grind) (g1 a).2
 have t:=mP (U_C a a) (U_C c c) (mF a a a (.inl rfl)) (mF c c c (.inl rfl)) (by grind) (by grind) (g1 a).1
 have u:=mP (U_M (U_C a a) (U_C c c)).2.2 (U_C e f) t (mF e f n h) (by grind) (by grind) (Jw (g1 a).1 (g1 c).1)
 have v:=Oa (U_M (U_S a a) (U_S c c)).2.2 (U_M (U_M (U_C a a) (U_C c c)).2.2 (U_C e f)).2.2 s u;have k:2*ee+2*ee+(2*ee+2*ee+2*ee)=10*ee:=by grind
 rw [k] at v;exact v
theorem alt_holds {a c e f n N:Int} (h:n=e∨n=f) (h0:-5400000<=N) (h1:N<=5400000) (hn:Nr (sg a*sg c+cg a*cg c*cg n) (sg N) (900*ee)) :
 (dV a a c c e f).getD 0 0<=N/\N<=(dV a a c c e f).getD 1 0:=by
 have v:=H7 a c e f n h;have p:=bN;rw [(eT a a c c e f).1,(eT a a c c e f).2.1];unfold InE at v;unfold Nr at hn;exact ⟨Rz h0 h1 (by grind),QC h0 h1 (by grind)⟩
theorem xX:sg 0=0/\cg 0=1:=by
 have f:aG 0=0:=by decide
 unfold sg cg;rw [f];refine ⟨by rw [if_neg (by decide)];exact qB,by rw [if_neg (by decide)];unfold tC;rw [if_pos (by decide)];exact dJ⟩
theorem kS:sg 5400000=1/\cg 5400000=0:=by
 have f:aG 5400000=5400000:=by decide
 unfold sg cg;rw [f];refine ⟨?_,by rw [if_neg (by decide)];exact rQ⟩
 rw [if_neg (by decide)]
 unfold tS;rw [if_neg (by decide)]
 exact dJ
theorem BM:sg 10800000=0/\cg 10800000=-1:=by
 have f:aG 10800000=0:=by decide
 unfold sg cg;rw [f];refine ⟨by rw [if_neg (by decide)];exact qB,?_⟩
 rw [if_pos (by decide)]
 unfold tC;rw [if_pos (by decide)]
 rw [show (0:Int).toNat=0 from rfl,dJ]
theorem qO (d:Int):Nr (sg (5400000-d)) (cg d) (80*ee)/\Nr (sg (d-5400000)) (-cg d) (80*ee):=by
 have a:=wN d 5400000;have b:=wN 5400000 d;rw [kS.1,kS.2] at a b;rw [show 1*cg d-0*sg d=cg d by grind] at a
 rw [show sg d*0-cg d*1=-cg d by grind] at b
 exact ⟨a,b⟩
theorem Pg (a c N:Int) (ha:-5400000<=a/\a<=5400000) (hc:-5400000<=c/\c<=5400000) (hN:N=5400000-(if a-c<0 then c-a else a-c)):(dV a a c c 0 0).getD 0 0<=N/\N<=(dV a a c c 0 0).getD 1 0:=by
 have p:=bN;refine alt_holds (n:=0) (.inl rfl) (by omega) (by omega) ?_
 rw [xX.2,hN]
 by_cases h:a-c<0
 . rw [if_pos h];have x:=(oH a c).symm.trans (qO (c-a)).1.symm;rw [show cg c*cg a+sg c*sg a=sg a*sg c+cg a*cg c*1 by grind] at x
   exact x.le (by grind)
 . rw [if_neg h];have x:=(oH c a).symm.trans (qO (a-c)).1.symm;rw [show cg a*cg c+sg a*sg c=sg a*sg c+cg a*cg c*1 by grind] at x
   exact x.le (by grind)
theorem Np (n:Int):Nr (cg (-n)) (cg n) (70*ee):=by
 have h:=oH n 0;rw [xX.1,xX.2,show 1*cg n+0*sg n=cg n by grind,show (0:Int)-n=-n by omega] at h
 exact h
theorem MB (a c N:Int) (ha:-5400000<=a/\a<=5400000) (hc:-5400000<=c/\c<=5400000) (hN:N=(if a+c<0 then -(a+c) else a+c)-5400000):(dV a a c c 10800000 10800000).getD 0 0<=N/\N<=(dV a a c c 10800000 10800000).getD 1 0:=by
 have p:=bN;refine alt_holds (n:=10800000) (.inl rfl) (by omega) (by omega) ?_
 rw [BM.2,hN];have x:=(Su c a).symm.neg;rw [show -(cg a*cg c-sg a*sg c)=sg a*sg c+cg a*cg c*-1 by grind] at x
 by_cases h:a+c<0
 . rw [if_pos h];exact (x.trans ((Np (a+c)).symm.neg.trans (qO (-(a+c))).2.symm)).le (by grind)
 . rw [if_neg h];exact (x.trans (qO (a+c)).2.symm).le (by grind)
theorem Iq (c e f:Int) (hc:-5400000<=c/\c<=5400000):(dV 5400000 5400000 c c e f).getD 0 0<=c/\c<=(dV 5400000 5400000 c c e f).getD 1 0:=by
 have p:=bN;refine alt_holds (n:=e) (.inl rfl) hc.1 hc.2 ?_;rw [kS.1,kS.2];rw [show 1*sg c+0*cg c*cg e=sg c by grind]
 exact (Nr.refl _).le (by grind)
theorem zR (x:Int) (h:x≠0) (hx:-2147483648<=x/\x<=2147483648):bX x 0=(if 0<x then 0 else 10800000)/\iA x 0=true:=by
 have d:=eG x 0 (by omega) hx (by omega)
 have q0:qY x 0=0:=by unfold qY;split<;>(try split)<;>(try split)<;>omega
 have qx:=Alm.q_bd x 0 2147483648 (by omega) hx (by omega)
 rw [q0] at d;have l0:=II (qX x 0) ⟨qx.1,qx.2.1⟩ _ d;refine ⟨?_,by unfold iA;rw [l0,q0];rfl⟩
 unfold bX;rw [l0];unfold qT;split<;>split<;>(try split)<;>(try split)<;>omega
theorem FR {x1 x2:Int} (h1:-2147483648<=x1) (h:x1<=x2) (h2:x2<=2147483648) (ho:¬ (x1<=0/\0<=x2)):bf 0 0 x1 x2=(if 0<x1 then 0 else 10800000)/\bK 0 0 x1 x2=(if 0<x1 then 0 else 10800000):=by
 have eo:dY 0 0 x1 x2=false:=by unfold dY;simp only [decide_eq_false_iff_not];omega
 have f:=iq x1 x2 0 0 4;have l:=jy x1 x2 0 0 4;have fy:(aA x1 x2 0 0 4).2=0:=by omega
 have ly:(aB x1 x2 0 0 4).2=0:=by omega
 have af:=zR (aA x1 x2 0 0 4).1 (by omega) (by omega)
 have al:=zR (aB x1 x2 0 0 4).1 (by omega) (by omega)
 unfold bK bf;rw [eo,fy,ly,af.1,al.1,al.2];unfold upE;refine ⟨?_,?_⟩
 . simp only [Bool.false_eq_true,if_false];split<;>split<;>omega
 . simp only [Bool.false_eq_true,if_false,if_true]
   repeat' split
   all_goals omega
theorem Lh:uS 0 0=(0,0):=by decide +kernel
theorem Mm (c:Int):azY c c 0 0=(0,0):=by
 unfold azY;rw [Lh,(U_M (U_C c c) (show U (0,0) by unfold U;simp)).1]
 unfold uN iN iW mn4 mx4;simp
theorem IR (a c:Int):InE (azX a a c c 0 0).1 (azX a a c c 0 0).2 (sg c*cg a-cg c*cg 0*sg a) (10*ee):=by
 have p:=bN;have s:=mP (U_S c c) (U_C a a) (uZ c c c (.inl rfl)) (mF a a a (.inl rfl)) (by grind) (by grind) (g1 c).2
 have t:=mP (U_C c c) (U_C 0 0) (mF c c c (.inl rfl)) (mF 0 0 0 (.inl rfl)) (by grind) (by grind) (g1 c).1
 have u:=mP (U_M (U_C c c) (U_C 0 0)).2.2 (U_S a a) t (uZ a a a (.inl rfl)) (by grind) (by grind) (Jw (g1 c).1 (g1 0).1)
 have v:=UQ (U_M (U_S c c) (U_C a a)).2.2 (U_M (U_M (U_C c c) (U_C 0 0)).2.2 (U_S a a)).2.2 s u;have k:2*ee+2*ee+(2*ee+2*ee+2*ee)=10*ee:=by grind
 rw [k] at v;exact v
theorem Wp (k:Nat):0<=tS k:=by
 unfold tS;split
 . rename_i h;exact Alm.zs_pos k h
 . rename_i h;have:=dG (5400000-k) (by omega);grind
theorem OO (n:Int) (h0:0<=n) (h1:n<=10800000):0<=sg n:=by
 unfold sg bU av;rw [if_neg (by simp;omega)]
 exact Wp _
theorem Me (n:Int) (h0:-10800000<=n) (h1:n<=0):sg n<=0:=by
 have a:=Eo n;have b:=OO (n+10800000) (by omega) (by omega)
 grind
theorem PZ (a c side:Int) (ha:-5400000<=a/\a<=5400000) (hc:-5400000<=c/\c<=5400000) (hs:side=if a>c then 10800000 else 0) :
 ((azV a a c c 0 0).getD 0 0=0/\(azV a a c c 0 0).getD 1 0=21600000)∨(side-(azV a a c c 0 0).getD 0 0)%21600000+(side-side)<=(azV a a c c 0 0).getD 1 0-(azV a a c c 0 0).getD 0 0:=by
 rw [(gP a a c c 0 0).1,(gP a a c c 0 0).2.1,Mm];have B:=Bo a a c c 0 0;have T:=IR a c;have S:=wN a c;have p:=bN;rw [xX.2,show cg c*1*sg a=cg c*sg a by grind] at T
 generalize (azX a a c c 0 0).1=x1 at *
 generalize (azX a a c c 0 0).2=x2 at *
 have B2:=B.2;clear B;unfold InE at T;unfold Nr at S;have u1:=dI;have e1:ee<=1/100000000000000000:=by unfold ee;decide +kernel
 have pos:0<x1->¬ a>c:=by
  intro h g;have d:=Me (c-a) (by omega) (by omega)
  have k:((1:Int):Rat)<=(x1:Rat):=Rat.intCast_le_intCast.2 (by omega)
  have m:=Rat.mul_le_mul_of_nonneg_right k (Rat.le_of_lt fV);rw [show ((1:Int):Rat)=1 by decide +kernel,u1] at m
  rw [u1] at T;clear B2 h g hs ha hc k;grind
 have neg:x2<0->a>c:=by
  intro h;refine Int.not_le.1 fun g=>?_
  have d:=OO (c-a) (by omega) (by omega)
  have k:(x2:Rat)<=((-1:Int):Rat):=Rat.intCast_le_intCast.2 (by omega)
  have m:=Rat.mul_le_mul_of_nonneg_right k (Rat.le_of_lt fV);rw [show ((-1:Int):Rat)=-1 by decide +kernel,u1] at m
  rw [u1] at T;clear B2 h g hs ha hc k;grind
 by_cases ho:x1<=0/\0<=x2
 . left
   have eo:dY 0 0 x1 x2=true:=by unfold dY;simp only [decide_eq_true_eq];omega
   exact ⟨by unfold bf;rw [eo];rfl,by unfold bK;rw [eo];rfl⟩
 . right
   have b:=FR B2.2.1 B2.1 B2.2.2 ho;rw [b.1,b.2,hs]
   by_cases q:0<x1
   . have:=pos q;rw [if_pos q,if_neg this];omega
   . have:=neg (by omega)
     rw [if_neg q,if_pos this];omega
