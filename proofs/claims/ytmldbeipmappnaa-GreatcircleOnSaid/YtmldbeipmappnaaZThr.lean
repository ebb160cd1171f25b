/- Plain: sailing the course and the distance to a point leads there. -/
import Derived.Test.YtmldbeipmappnaaZTri
import Derived.Test.YtmldbeipmappnaaZDir
set_option linter.unusedVariables false
set_option linter.unusedSimpArgs false
namespace Go.Proofs.Ytmldbeipmappnaa
open Go.RowKit Alm Sx
theorem Nw (a b c d:Int) (h1:PtV a b) (h2:PtV c d) (B:0<=(bY a b c d).getD 0 0/\(bY a b c d).getD 0 0<=(bY a b c d).getD 1 0/\(bY a b c d).getD 1 0<=10800000) :
 ∃ r cc ss:Rat,0<=r/\r<=1/\cg a*sg c-sg a*cg c*cg (sgd (d-b))=r*cc/\sg (sgd (d-b))*cg c=r*ss/\Nr (cc*cc+ss*ss) 1 del/\Nr (dtp a c (sgd (d-b))*dtp a c (sgd (d-b))+r*r) 1 dsd /\
  Onc ((bA a b c d).getD 0 0) ((bA a b c d).getD 1 0) cc ss (8*tin)/\Onc ((bY a b c d).getD 0 0) ((bY a b c d).getD 1 0) (dtp a c (sgd (d-b))) r td /\
  (bz (il c (sgd (d-b))).1 (il c (sgd (d-b))).2 (iL a c (sgd (d-b))).1 (iL a c (sgd (d-b))).2=(bA a b c d).getD 0 0/\bJ (il c (sgd (d-b))).1 (il c (sgd (d-b))).2 (iL a c (sgd (d-b))).1 (iL a c (sgd (d-b))).2=(bA a b c d).getD 1 0):=by
 obtain ⟨e0,e1,_⟩:=iV a b c d;have DE:=zk a b c d;have DL:=ui a b c d;have du:=I5 a c (sgd (d-b));rw [e0,e1];generalize sgd (d-b)=e at *
 have ep:=bB;have p2:(0:Rat)<=2*ee:=by clear DE DL du;grind
 have Y:=jC (U_S e e) (U_C c c) (IW e) (DZ c) p2 p2 (g1 e).2;have um:=(U_M (U_C a a) (U_S c c)).2.2;have un:=(U_M (U_S a a) (U_C c c)).2.2;have un2:=(U_M un (U_C e e)).2.2;have X1:=jC (U_C a a) (U_S c c) (DZ a) (IW c) p2 p2 (g1 a).1;have X2:=jC (U_S a a) (U_C c c) (IW a) (DZ c) p2 p2 (g1 a).2;have X3:=jC un (U_C e e) X2 (DZ e) (by clear DE DL du;grind) p2 (ym (g1 a).2 (g1 c).1)
 have X:=Qt um un2 X1 X3;have uy:=(U_M (U_S e e) (U_C c c)).2.2;have fx:=(ek _ _).1 (U_D um un2).2.2;obtain ⟨r,cc,ss,r0,ex,ey,⟨n,n1⟩,O⟩:=Gl (yl:=(il c e).1) (yh:=(il c e).2) (xl:=(iL a c e).1) (xh:=(iL a c e).2) (e:=20*ee) uy.2.1 fx.2.1 ⟨by have:=uy.1;unfold il;omega,by have:=uy.2.2;unfold il;omega⟩ ⟨fx.1,fx.2.2⟩ (X.le (by clear X X1 X2 X3 Y DE DL du;grind)) (Y.le (by clear X X1 X2 X3 Y DE DL du;grind)) (by unfold ee eta;decide +kernel)
 clear X X1 X2 X3 Y um un un2 uy fx p2;have dk:=Js;have r2:r*r*(cc*cc+ss*ss)=(cg a*sg c-sg a*cg c*cg e)*(cg a*sg c-sg a*cg c*cg e)+sg e*cg c*(sg e*cg c):=by rw [ex,ey];clear DE DL du n n1 ex ey;grind
 have dt1:=dh (dtp a c e)
 have rq:r*r<=1:=by
  have k:=Rat.mul_nonneg (dh r) (show 0<=cc*cc+ss*ss-1 by clear DE DL du r2 n;grind)
  rw [<-r2] at du;clear DE DL n n1 ex ey r2;grind
 have r1:r<=1:=by
  refine Rat.not_lt.1 fun k=>?_
  have:=Rat.mul_pos (show 0<r-1 by grind) (show 0<r+1 by grind)
  clear DE DL du n n1 ex ey r2;grind
 have N:Nr (dtp a c e*dtp a c e+r*r) 1 dsd:=by
  rw [<-r2] at du;unfold Nr at n ⊢
  have k1:=Rat.mul_nonneg (dh r) (show 0<=del-(cc*cc+ss*ss-1) by clear DE DL du r2 ex ey;grind)
  have k2:=Rat.mul_nonneg (dh r) (show 0<=cc*cc+ss*ss-1 by clear DE DL du r2 n ex ey;grind)
  have k3:=Rat.mul_nonneg (show 0<=1-r*r by grind) (Oq.2.1)
  have k4:del<=dsd:=by unfold del dsd;decide +kernel
  clear DE DL n n1 ex ey r2;generalize dtp a c e*dtp a c e=D at *
  constructor<;>grind
 refine ⟨r,cc,ss,r0,r1,ex,ey,n,N,O,?_,rfl,rfl⟩;unfold Nr at DL;have eD:dtp a c e=sg a*sg c+cg a*cg c*cg e:=rfl;rw [<-eD] at DL;clear ex ey r2 du n n1 O eD;exact Mt r0 N B.1 B.2.2 B.2.1 (by clear N;grind) (by clear N;grind)
