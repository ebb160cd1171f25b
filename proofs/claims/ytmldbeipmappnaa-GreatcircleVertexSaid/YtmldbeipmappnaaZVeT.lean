/- Plain: the vertex is at least as far north as both points; the latitude at their longitudes. -/
import Derived.Test.YtmldbeipmappnaaZThr
import Derived.Test.YtmldbeipmappnaaZVer
import Derived.Test.YtmldbeipmappnaaZAt
import Derived.Test.YtmldbeipmappnaaZIsoA
set_option linter.unusedVariables false
set_option linter.unusedSimpArgs false
set_option maxHeartbeats 1000000
namespace Go.Proofs.Ytmldbeipmappnaa
open Go.RowKit Alm Sx
theorem EZ:bR 0=0:=by
 obtain ⟨a,b,c,d⟩:=dE 0;have z:bHi 0=0:=by decide +kernel
 have o:bHi 1=313:=by decide +kernel
 rcases c with c|c
 . rw [c] at d;have m:=(jB (-5399999) 0 (by omega) (by omega) (by omega)).2
   rw [z] at m;rw [show (-5400000:Int)+1=-5399999 by omega] at d
   omega
 . by_cases h:bR 0<=0
   . by_cases g:bR 0=0
     . exact g
     . have m:=(jB (bR 0+1) 0 (by omega) (by omega) (by omega)).2
       rw [z] at m;omega
   . have m:=(jB 1 (bR 0) (by omega) (by omega) (by omega)).2
     rw [o] at m;omega
theorem SA {p:IV} (h:0<=p.1/\p.1<=p.2/\p.2<=1073741824):0<=jJ p.2/\jJ p.2<=jc p.1/\jc p.1<=5400000:=by
 unfold jJ jc;have e1:yn p.2 1073741824=p.2:=by unfold yn;split<;>omega
 have e2:rD p.1 (-1073741824)=p.1:=by unfold rD;split<;>omega
 rw [e1,e2];have a:=(dE (-p.2)).1;have b:=Kz 0 p.1 h.1;rw [EZ] at b;have o:=Dj p.1 p.2 h.2.1;omega
theorem LF {y n:Int} (hn:n<=5400000) (hy:0<=y) (h:0<=n->(y:Rat)*u30<=cg n+1/2*gap):n<=jc y:=by
 by_cases q:0<=n
 . have H:=h q;have e2:rD y (-1073741824)=max y (-1073741824):=by unfold rD;split<;>omega
   have s:=(gq (-n)).1;have c:=aaZ n;have ep:=bz;have g:=Ad.2.2.2
   have k:=G9 (lo:=y) (n:=5400000-n) (by omega) (by omega) (by
    rw [show (5400000:Int)-n=-n+5400000 by omega]
    unfold Nr at s c;clear h;grind)
   unfold qw at k;unfold jc;rw [e2];omega
 . unfold jc;have:=(dE (rD y (-1073741824))).2.1;omega
theorem Ij {p:IV} {x m e:Rat} (h:InE p.1 p.2 x e) (h1:x<=m) (h2:-x<=m) (h0:0<=m) (he:0<=e):((rM p).1:Rat)*u30<=m+e:=by
 unfold InE at h;unfold rM;split
 . clear h2;grind
 . split
   . show ((-p.2:Int):Rat)*u30<=m+e;rw [Rat.intCast_neg];clear h1;grind
   . show ((0:Int):Rat)*u30<=m+e;rw [show ((0:Int):Rat)=0 from rfl,Rat.zero_mul];clear h h1 h2;grind
theorem JQ (a b c d:Int) (h1:PtV a b) (h2:PtV c d) (B:0<=(aP a b c d).getD 0 0/\(aP a b c d).getD 0 0<=(aP a b c d).getD 1 0/\(aP a b c d).getD 1 0<=10800000) (hc:¬ crA a b c d) :
 a<=jc (vN a b c d).1/\c<=jc (vN a b c d).1/\0<=jJ (vN a b c d).2/\jJ (vN a b c d).2<=jc (vN a b c d).1/\jc (vN a b c d).1<=5400000:=by
 obtain ⟨r,cc,ss,r0,r1,ex,ey,n,N,O,_,eL,eH⟩:=IC a b c d h1 h2 B;have ua:=TN (U_M (U_S ((aX a b c d).getD 0 0) ((aX a b c d).getD 1 0)) (U_C a a)).2.2;have R:=SA (p:=vN a b c d) ua;obtain ⟨t0,t1,t2,t3,t4,t5⟩:=tdn;have tp:=wV.2.2.2.2;have ep:=bz;have M:=nQ (U_S ((aX a b c d).getD 0 0) ((aX a b c d).getD 1 0)) (U_C a a) (O.sin) (jq a) (by clear n N ex ey;grind) (by clear n N ex ey;grind) (by clear n N ex ey;grind)
 have E1:2*(2*ee+8*tin)+2*ee<=4*td:=by clear n N ex ey M;grind
 have M':=M.le E1;have ca:=fP a (by unfold PtV at h1;omega)
 have ck:=fP c (by unfold PtV at h2;omega)
 have oa:=(g1 a).1;have dl:del<=td/\0<=del:=by unfold del td;decide +kernel
 have s2:ss*ss<=1+del:=by have:=bT cc;unfold Nr at n;clear ex ey N M M';grind
 have sb:ss<=1+del/\-ss<=1+del:=by
  constructor
  . refine Rat.not_lt.1 fun k=>?_
    have:=Rat.mul_pos (show 0<ss-(1+del) by grind) (show 0<ss+(1+del) by clear ex ey N M M' n;grind)
    have:=Rat.mul_nonneg dl.2 dl.2;clear ex ey N M M' n;grind
  . refine Rat.not_lt.1 fun k=>?_
    have:=Rat.mul_pos (show 0 < -ss-(1+del) by grind) (show 0 < -ss+(1+del) by clear ex ey N M M' n;grind)
    have:=Rat.mul_nonneg dl.2 dl.2;clear ex ey N M M' n;grind
 have da:=Rat.mul_nonneg ca dl.2;have o1:O1 (cg a):=oa;unfold O1 at o1;have g:=Ai.2
 have rp:0<r:=by
  refine Rat.not_le.1 fun k=>hc ?_
  have rz:r=0:=by clear n N ex ey M M' s2 sb;grind
  rw [rz,Rat.zero_mul] at ex ey
  by_cases ho:fK (iO c (sgd (d-b))).1 (iO c (sgd (d-b))).2 (jm a c (sgd (d-b))).1 (jm a c (sgd (d-b))).2=true
  . refine ⟨?_,?_⟩
    . rw [<-eL];unfold aV;rw [if_pos ho]
    . rw [<-eH];unfold bI;rw [if_pos ho]
  . exfalso;have ho':fK (iO c (sgd (d-b))).1 (iO c (sgd (d-b))).2 (jm a c (sgd (d-b))).1 (jm a c (sgd (d-b))).2=false:=by simpa using ho
    have p2:(0:Rat)<=2*ee:=by clear n N ex ey M M' s2 sb;grind
    have Y:=fI (U_S (sgd (d-b)) (sgd (d-b))) (U_C c c) (lm (sgd (d-b))) (jq c) p2 p2 (g1 (sgd (d-b))).2;have um:=(U_M (U_C a a) (U_S c c)).2.2;have un:=(U_M (U_S a a) (U_C c c)).2.2;have un2:=(U_M un (U_C (sgd (d-b)) (sgd (d-b)))).2.2;have X1:=fI (U_C a a) (U_S c c) (jq a) (lm c) p2 p2 (g1 a).1;have X2:=fI (U_S a a) (U_C c c) (lm a) (jq c) p2 p2 (g1 a).2;have X3:=fI un (U_C (sgd (d-b)) (sgd (d-b))) X2 (jq (sgd (d-b))) (by clear n N ex ey M M' s2 sb;grind) p2 (jW (g1 a).2 (g1 c).1)
    have X:=Fe um un2 X1 X3;have sy:=nE (Y.le (show 2*ee+2*ee<=20*ee by clear n N ex ey M M' s2 sb X Y X1 X2 X3;grind)) (by unfold ee eta;decide +kernel)
    have sx:=nE (X.le (show 2*ee+2*ee+(2*ee+2*ee+2*ee)<=20*ee by clear n N ex ey M M' s2 sb X Y X1 X2 X3 sy;grind)) (by unfold ee eta;decide +kernel)
    rw [ex] at sx;rw [ey] at sy;have z0:(1073741824:Rat)*0=0:=Rat.mul_zero _;rw [z0] at sx sy;have L:=MH (r:=0) (c:=1) (s:=0) (d:=0) (yl:=(iO c (sgd (d-b))).1) (yh:=(iO c (sgd (d-b))).2) (xl:=(jm a c (sgd (d-b))).1) (xh:=(jm a c (sgd (d-b))).2) (of_decide_eq_false ho') Rat.le_refl (by unfold Nr;decide +kernel) (by decide +kernel) (by rw [Rat.zero_mul];exact sx.1) (by rw [Rat.zero_mul];exact sx.2) (by rw [Rat.zero_mul];exact sy.1) (by rw [Rat.zero_mul];exact sy.2)
    exact absurd L (by decide +kernel)
 have key:ss*cg a<=cg c+4*td/\-(ss*cg a)<=cg c+4*td:=by
  have du:=xV c a (sgd (d-b));have e1:dtp c a (sgd (d-b))=dtp a c (sgd (d-b)):=by unfold dtp;clear n N ex ey M M' s2 sb;grind
  rw [e1] at du;have q0:=bT (cg c*sg a-sg c*cg a*cg (sgd (d-b)))
  have q1:sg (sgd (d-b))*cg a*(sg (sgd (d-b))*cg a)<=r*r*(1+del):=by
   have w:r*r*(cc*cc+ss*ss)=1-dtp a c (sgd (d-b))*dtp a c (sgd (d-b)):=by
    have v:=xV a c (sgd (d-b));rw [ex,ey] at v;clear n N ex ey M M' s2 sb q0 du;grind
   have k:=Rat.mul_nonneg (bT r) (show 0<=del-(cc*cc+ss*ss-1) by unfold Nr at n;clear N ex ey M M' s2 sb q0 du w;grind)
   clear n N ex ey M M' s2 sb;grind
  have m1:r*(ss*cg a)=sg (sgd (d-b))*cg a*cg c:=by
   have z:r*(ss*cg a)=r*ss*cg a:=by clear n N ex ey M M' s2 sb du q0 q1;grind
   rw [z,<-ey];clear n N ex ey M M' s2 sb du q0 q1;grind
  have oc:=(g1 c).1;unfold O1 at oc;generalize sg (sgd (d-b))*cg a=w at *
  have wb:w<=r*(1+del)/\-w<=r*(1+del):=by
   have rd:=Rat.mul_nonneg r0 dl.2;have rd2:=Rat.mul_nonneg rd (show 0<=r*(1+del) by clear n N ex ey M M' s2 sb du q0 q1 m1;grind)
   constructor
   . refine Rat.not_lt.1 fun k=>?_
     have:=Rat.mul_pos (show 0<w-r*(1+del) by grind) (show 0<w+r*(1+del) by clear n N ex ey M M' s2 sb du q0 q1 m1;grind)
     clear n N ex ey M M' s2 sb du q0 m1;grind
   . refine Rat.not_lt.1 fun k=>?_
     have:=Rat.mul_pos (show 0 < -w-r*(1+del) by grind) (show 0 < -w+r*(1+del) by clear n N ex ey M M' s2 sb du q0 q1 m1;grind)
     clear n N ex ey M M' s2 sb du q0 m1;grind
  have c1:=Rat.mul_nonneg ck (show 0<=r*(1+del)-w by clear n N ex ey M M' s2 sb du q0 q1 m1;grind)
  have c2:=Rat.mul_nonneg ck (show 0<=r*(1+del)+w by clear n N ex ey M M' s2 sb du q0 q1 m1 c1;grind)
  have rt:=Rat.mul_pos rp (show 0<td by unfold td;decide +kernel)
  have c3:=Rat.mul_nonneg (Rat.mul_nonneg r0 (show 0<=1-cg c by clear n N ex ey M M' s2 sb du q0 q1 m1 c1 c2;grind)) dl.2
  have c4:=Rat.mul_nonneg r0 (show 0<=td-del by clear n N ex ey M M' s2 sb du q0 q1 m1 c1 c2 c3;grind)
  clear n N ex ey M M' s2 sb du q0 q1 wb
  constructor
  . refine Rat.not_lt.1 fun k=>?_
    have:=Rat.mul_pos rp (show 0<ss*cg a-(cg c+4*td) by grind)
    grind
  . refine Rat.not_lt.1 fun k=>?_
    have:=Rat.mul_pos rp (show 0 < -(ss*cg a)-(cg c+4*td) by grind)
    grind
 have ka:ss*cg a<=cg a+4*td/\-(ss*cg a)<=cg a+4*td:=by
  have k1:=Rat.mul_nonneg ca (show 0<=1+del-ss by clear n N ex ey M M' s2 key;grind)
  have k2:=Rat.mul_nonneg ca (show 0<=1+del+ss by clear n N ex ey M M' s2 key k1;grind)
  have k3:=Rat.mul_nonneg (show 0<=1-cg a by clear n N ex ey M M' s2 key k1 k2;grind) dl.2
  clear n N ex ey M M' s2 key
  constructor<;>grind
 have t04:0<=4*td:=by clear n N ex ey M M' s2 key ka;grind
 have la:=Ij M' ka.1 ka.2 (by clear n N ex ey M M' s2 key ka;grind) t04
 have lc:=Ij M' key.1 key.2 (by clear n N ex ey M M' s2 key ka;grind) t04
 have va:(vN a b c d).1=(rM (uM (uS ((aX a b c d).getD 0 0) ((aX a b c d).getD 1 0)) (uC a a))).1:=rfl;rw [<-va] at la lc;clear n N ex ey M M' s2 key ka sb;refine ⟨LF (by unfold PtV at h1;omega) ua.1 (fun _=>?_),LF (by unfold PtV at h2;omega) ua.1 (fun _=>?_),R.1,R.2.1,R.2.2⟩
 . grind
 . grind
theorem north_holds {P Q:IV} {n:Int} {R:Rat} (hn:-5400000<n/\n<5400000) (hP:-2147483648<=P.1/\P.1<=P.2/\P.2<=2147483648) (hQ:0<Q.1/\Q.1<=Q.2/\Q.2<=2147483648) (hR:0<=R) (sy:InE P.1 P.2 (R*sg n) (50*ee)) (sx:InE Q.1 Q.2 (R*cg n) (50*ee)) :
 atL (aV P.1 P.2 Q.1 Q.2) (bI P.1 P.2 Q.1 Q.2)<=n/\n<=atH (aV P.1 P.2 Q.1 Q.2) (bI P.1 P.2 Q.1 Q.2):=by
 have t:1073741824*(50*ee)<=1/40000000:=by unfold ee;decide +kernel
 have y:=ny sy t;have x:=ny sx t;have z1:1073741824*(R*sg n)=1073741824*R*sg n:=by clear sy sx x y;grind
 have z2:1073741824*(R*cg n)=1073741824*R*cg n:=by clear sy sx x y z1;grind
 rw [z1] at y;rw [z2] at x;have ho:fK P.1 P.2 Q.1 Q.2=false:=by unfold fK;rw [decide_eq_false_iff_not];omega
 have H:=bear_holds (c:=n) (r:=1073741824*R) hP.2.1 hQ.2.1 ⟨hP.1,hP.2.2⟩ ⟨by omega,hQ.2.2⟩ ho (Rat.mul_nonneg (by decide) hR) x.1 x.2 y.1 y.2
 have hf:=mV hP.2.1 hQ.2.1 ⟨hP.1,hP.2.2⟩ ⟨by omega,hQ.2.2⟩ ho
 have st:aV P.1 P.2 Q.1 Q.2<5400000∨16200000<=aV P.1 P.2 Q.1 Q.2:=by
  obtain ⟨f1,f2,l1,l2,fi,li,nf,nl,_,_,_,eL,_⟩:=ql hP.2.1 hQ.2.1 ho;rw [eL];exact (mQ f1 f2 nf (fQ fi.1 hQ.2.1 ⟨by omega,hQ.2.2⟩) (fQ fi.2 hP.2.1 ⟨hP.1,hP.2.2⟩)).2.1 (by omega)
 have bb:=iT P.1 P.2 Q.1 Q.2;clear sy sx x y z1 z2 ho t;generalize aV P.1 P.2 Q.1 Q.2=L at *
 generalize bI P.1 P.2 Q.1 Q.2=G at *
 unfold atL atH;split<;>omega
theorem at_holds (a b c d n k u v:Int) (h1:PtV a b) (h2:PtV c d) (hu:sgd (IntKind.i64.wrap (d-n))=u) (hv:sgd (IntKind.i64.wrap (n-b))=v)
 (hk:(k=a/\sg u=sg (sgd (d-b))/\sg v=0)∨(k=c/\sg u=0/\sg v=sg (sgd (d-b)))) (hN:¬ atN a b c d):(atV a b c d n).getD 0 0<=k/\k<=(atV a b c d n).getD 1 0:=by
 have e0:(atV a b c d n).getD 0 0=atL (atB a b c d n).1 (atB a b c d n).2/\(atV a b c d n).getD 1 0=atH (atB a b c d n).1 (atB a b c d n).2:=by
  unfold atV;rw [if_neg hN];exact ⟨rfl,rfl⟩
 rw [e0.1,e0.2]
 have eB:atB a b c d n=(aV (uT ((atX a c (sgd (d-b))).2<0) (atY a c u v)).1 (uT ((atX a c (sgd (d-b))).2<0) (atY a c u v)).2 (uT ((atX a c (sgd (d-b))).2<0) (atX a c (sgd (d-b)))).1 (uT ((atX a c (sgd (d-b))).2<0) (atX a c (sgd (d-b)))).2,bI (uT ((atX a c (sgd (d-b))).2<0) (atY a c u v)).1 (uT ((atX a c (sgd (d-b))).2<0) (atY a c u v)).2 (uT ((atX a c (sgd (d-b))).2<0) (atX a c (sgd (d-b)))).1 (uT ((atX a c (sgd (d-b))).2<0) (atX a c (sgd (d-b)))).2):=by
  unfold atB;rw [hu,hv]
 rw [eB];show atL (aV (uT ((atX a c (sgd (d-b))).2<0) (atY a c u v)).1 (uT ((atX a c (sgd (d-b))).2<0) (atY a c u v)).2 (uT ((atX a c (sgd (d-b))).2<0) (atX a c (sgd (d-b)))).1 (uT ((atX a c (sgd (d-b))).2<0) (atX a c (sgd (d-b)))).2) (bI (uT ((atX a c (sgd (d-b))).2<0) (atY a c u v)).1 (uT ((atX a c (sgd (d-b))).2<0) (atY a c u v)).2 (uT ((atX a c (sgd (d-b))).2<0) (atX a c (sgd (d-b)))).1 (uT ((atX a c (sgd (d-b))).2<0) (atX a c (sgd (d-b)))).2)<=k/\k<=atH (aV (uT ((atX a c (sgd (d-b))).2<0) (atY a c u v)).1 (uT ((atX a c (sgd (d-b))).2<0) (atY a c u v)).2 (uT ((atX a c (sgd (d-b))).2<0) (atX a c (sgd (d-b)))).1 (uT ((atX a c (sgd (d-b))).2<0) (atX a c (sgd (d-b)))).2) (bI (uT ((atX a c (sgd (d-b))).2<0) (atY a c u v)).1 (uT ((atX a c (sgd (d-b))).2<0) (atY a c u v)).2 (uT ((atX a c (sgd (d-b))).2<0) (atX a c (sgd (d-b)))).1 (uT ((atX a c (sgd (d-b))).2<0) (atX a c (sgd (d-b)))).2);have hN':¬ ((atX a c (sgd (d-b))).1<=0/\(atX a c (sgd (d-b))).2>=0):=hN;have ep:=bz;have p2:(0:Rat)<=2*ee:=by grind
 clear e0 eB hu hv hN;generalize sgd (d-b)=e at *
 have u1:=(U_M (U_C a a) (U_C c c)).2.2;have u2:=(U_M (U_S a a) (U_C c c)).2.2;have u3:=(U_M (U_S c c) (U_C a a)).2.2;have m1:=fI (U_C a a) (U_C c c) (jq a) (jq c) p2 p2 (g1 a).1;have m2:=fI (U_S a a) (U_C c c) (lm a) (jq c) p2 p2 (g1 a).2;have m3:=fI (U_S c c) (U_C a a) (lm c) (jq a) p2 p2 (g1 c).2;have X:=fI u1 (U_S e e) m1 (lm e) (by clear m1 m2 m3;grind) p2 (jW (g1 a).1 (g1 c).1)
 have Y1:=fI u2 (U_S u u) m2 (lm u) (by clear m1 m2 m3 X;grind) p2 (jW (g1 a).2 (g1 c).1)
 have Y2:=fI u3 (U_S v v) m3 (lm v) (by clear m1 m2 m3 X Y1;grind) p2 (jW (g1 c).2 (g1 a).1)
 have uX:=(U_M u1 (U_S e e)).2.2;have uY1:=(U_M u2 (U_S u u)).2.2;have uY2:=(U_M u3 (U_S v v)).2.2;have Y:=Cq uY1 uY2 Y1 Y2;have fY:=(cZ _ _).1 (U_A uY1 uY2).2.2;have ca:=fP a (by unfold PtV at h1;omega)
 have ck:=fP c (by unfold PtV at h2;omega)
 have up:=dU;have small:6*ee<u30:=by rw [dY];unfold ee;decide +kernel
 clear m1 m2 m3 Y1 Y2 u1 u2 u3 uY1 uY2;have eX:uM (uM (uC a a) (uC c c)) (uS e e)=atX a c e:=rfl;have eY:uA (uM (uM (uS a a) (uC c c)) (uS u u)) (uM (uM (uS c c) (uC a a)) (uS v v))=atY a c u v:=rfl;rw [eX] at X uX;rw [eY] at Y fY;unfold U at uX
 have kk:∃ w:Rat,0<=w/\(cg a*cg c*sg e=w*sg e*cg k/\sg a*cg c*sg u+sg c*cg a*sg v=w*sg e*sg k):=by
  rcases hk with ⟨rfl,s1,s2⟩|⟨rfl,s1,s2⟩
  . exact ⟨cg c,ck,by clear X Y;grind,by rw [s1,s2];clear X Y;grind⟩
  . exact ⟨cg a,ca,by clear X Y;grind,by rw [s1,s2];clear X Y;grind⟩
 obtain ⟨w,w0,ex,ey⟩:=kk;rw [ex] at X;rw [ey] at Y;have ckk:=fP k (by rcases hk with ⟨rfl,_⟩|⟨rfl,_⟩;unfold PtV at h1;omega;unfold PtV at h2;omega)
 have kb:-5400000<=k/\k<=5400000:=by rcases hk with ⟨rfl,_⟩|⟨rfl,_⟩;unfold PtV at h1;omega;unfold PtV at h2;omega
 have q90:cg 5400000=0/\cg (-5400000)=0:=by
  have a1:=fP 5400000 (by omega);have a2:=rG 5400000 (by omega)
  have b1:=fP (-5400000) (by omega);have b2:=rG (-5400000) (by omega)
  generalize cg 5400000=x at *;generalize cg (-5400000)=y at *
  constructor<;>grind
 have one:((1:Int):Rat)=1:=rfl;unfold InE at X
 by_cases neg:(atX a c e).2<0
 . have hx:((atX a c e).2:Rat)<=((-1:Int):Rat):=dA (by omega)
   rw [show ((-1:Int):Rat)=-1 from rfl] at hx
   have hu:=Rat.mul_nonneg (show 0<=-1-((atX a c e).2:Rat) by clear X Y;grind) (Rat.le_of_lt up)
   have ng:w*sg e*cg k<0:=by clear Y;grind
   have k1:-5400000<k/\k<5400000:=by
    constructor
    . refine Int.not_le.1 fun h=>?_
      have:k=-5400000:=by omega
      rw [this,q90.2,Rat.mul_zero] at ng;exact absurd ng (by decide)
    . refine Int.not_le.1 fun h=>?_
      have:k=5400000:=by omega
      rw [this,q90.1,Rat.mul_zero] at ng;exact absurd ng (by decide)
   have Rn:0<=-(w*sg e):=by
    refine Rat.not_lt.1 fun h=>?_
    have:=Rat.mul_nonneg (show 0<=w*sg e by grind) ckk
    clear X Y;grind
   rw [show uT ((atX a c e).2<0) (atY a c u v)=uN (atY a c u v) from if_pos neg,show uT ((atX a c e).2<0) (atX a c e)=uN (atX a c e) from if_pos neg]
   refine north_holds (R:=-(w*sg e)) k1 ?_ ?_ Rn ?_ ?_
   . unfold uN;simp only;omega
   . unfold uN;simp only;omega
   . have z:-(w*sg e)*sg k=-(w*sg e*sg k):=by clear X Y;grind
     rw [z];exact (O4 Y).le (by clear X Y;grind)
   . have z:-(w*sg e)*cg k=-(w*sg e*cg k):=by clear X Y;grind
     rw [z];exact (O4 (p:=atX a c e) X).le (by clear X Y;grind)
 . have pos:0<(atX a c e).1:=by
    refine Int.not_le.1 fun h=>hN' ⟨h,by omega⟩
   have hx:((1:Int):Rat)<=((atX a c e).1:Rat):=dA (by omega)
   rw [one] at hx;have hu:=Rat.mul_nonneg (show 0<=((atX a c e).1:Rat)-1 by clear X Y;grind) (Rat.le_of_lt up)
   have ps:0<w*sg e*cg k:=by clear Y;grind
   have k1:-5400000<k/\k<5400000:=by
    constructor
    . refine Int.not_le.1 fun h=>?_
      have:k=-5400000:=by omega
      rw [this,q90.2,Rat.mul_zero] at ps;exact absurd ps (by decide)
    . refine Int.not_le.1 fun h=>?_
      have:k=5400000:=by omega
      rw [this,q90.1,Rat.mul_zero] at ps;exact absurd ps (by decide)
   have Rn:0<=w*sg e:=by
    refine Rat.not_lt.1 fun h=>?_
    have:=Rat.mul_nonneg (show 0<=-(w*sg e) by grind) ckk
    clear X Y;grind
   rw [show uT ((atX a c e).2<0) (atY a c u v)=atY a c u v from if_neg neg,show uT ((atX a c e).2<0) (atX a c e)=atX a c e from if_neg neg]
   exact north_holds (R:=w*sg e) k1 fY ⟨pos,uX.2.1,by omega⟩ Rn (Y.le (by clear X Y;grind)) (InE.le (L:=(atX a c e).1) X (by clear X Y;grind))
