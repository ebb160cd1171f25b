/- Plain: sailing the course and the distance to a point leads there. -/
import Derived.Test.YtmldbeipmappnaaZTri
import Derived.Test.YtmldbeipmappnaaZDir
set_option linter.unusedVariables false
set_option linter.unusedSimpArgs false
namespace Go.Proofs.Ytmldbeipmappnaa
open Go.RowKit Alm Sx
theorem IC (a b c d:Int) (h1:PtV a b) (h2:PtV c d) (B:0<=(aP a b c d).getD 0 0/\(aP a b c d).getD 0 0<=(aP a b c d).getD 1 0/\(aP a b c d).getD 1 0<=10800000) :
 ∃ r cc ss:Rat,0<=r/\r<=1/\cg a*sg c-sg a*cg c*cg (sgd (d-b))=r*cc/\sg (sgd (d-b))*cg c=r*ss/\Nr (cc*cc+ss*ss) 1 del/\Nr (dtp a c (sgd (d-b))*dtp a c (sgd (d-b))+r*r) 1 dd /\
  Onc ((aX a b c d).getD 0 0) ((aX a b c d).getD 1 0) cc ss (8*tin)/\Onc ((aP a b c d).getD 0 0) ((aP a b c d).getD 1 0) (dtp a c (sgd (d-b))) r td /\
  (aV (iO c (sgd (d-b))).1 (iO c (sgd (d-b))).2 (jm a c (sgd (d-b))).1 (jm a c (sgd (d-b))).2=(aX a b c d).getD 0 0/\bI (iO c (sgd (d-b))).1 (iO c (sgd (d-b))).2 (jm a c (sgd (d-b))).1 (jm a c (sgd (d-b))).2=(aX a b c d).getD 1 0):=by
 obtain ⟨e0,e1,_⟩:=pK a b c d;have DE:=lK a b c d;have DL:=wJ a b c d;have du:=xV a c (sgd (d-b));rw [e0,e1];generalize sgd (d-b)=e at *
 have ep:=bz;have p2:(0:Rat)<=2*ee:=by clear DE DL du;grind
 have Y:=fI (U_S e e) (U_C c c) (lm e) (jq c) p2 p2 (g1 e).2;have um:=(U_M (U_C a a) (U_S c c)).2.2;have un:=(U_M (U_S a a) (U_C c c)).2.2;have un2:=(U_M un (U_C e e)).2.2;have X1:=fI (U_C a a) (U_S c c) (jq a) (lm c) p2 p2 (g1 a).1;have X2:=fI (U_S a a) (U_C c c) (lm a) (jq c) p2 p2 (g1 a).2;have X3:=fI un (U_C e e) X2 (jq e) (by clear DE DL du;grind) p2 (jW (g1 a).2 (g1 c).1)
 have X:=Fe um un2 X1 X3;have uy:=(U_M (U_S e e) (U_C c c)).2.2;have fx:=(cZ _ _).1 (U_D um un2).2.2;obtain ⟨r,cc,ss,r0,ex,ey,⟨n,n1⟩,O⟩:=ze (yl:=(iO c e).1) (yh:=(iO c e).2) (xl:=(jm a c e).1) (xh:=(jm a c e).2) (e:=20*ee) uy.2.1 fx.2.1 ⟨by have:=uy.1;unfold iO;omega,by have:=uy.2.2;unfold iO;omega⟩ ⟨fx.1,fx.2.2⟩ (X.le (by clear X X1 X2 X3 Y DE DL du;grind)) (Y.le (by clear X X1 X2 X3 Y DE DL du;grind)) (by unfold ee eta;decide +kernel)
 clear X X1 X2 X3 Y um un un2 uy fx p2;have dk:=TS;have r2:r*r*(cc*cc+ss*ss)=(cg a*sg c-sg a*cg c*cg e)*(cg a*sg c-sg a*cg c*cg e)+sg e*cg c*(sg e*cg c):=by rw [ex,ey];clear DE DL du n n1 ex ey;grind
 have dt1:=bT (dtp a c e)
 have rq:r*r<=1:=by
  have k:=Rat.mul_nonneg (bT r) (show 0<=cc*cc+ss*ss-1 by clear DE DL du r2 n;grind)
  rw [<-r2] at du;clear DE DL n n1 ex ey r2;grind
 have r1:r<=1:=by
  refine Rat.not_lt.1 fun k=>?_
  have:=Rat.mul_pos (show 0<r-1 by grind) (show 0<r+1 by grind)
  clear DE DL du n n1 ex ey r2;grind
 have N:Nr (dtp a c e*dtp a c e+r*r) 1 dd:=by
  rw [<-r2] at du;unfold Nr at n ⊢
  have k1:=Rat.mul_nonneg (bT r) (show 0<=del-(cc*cc+ss*ss-1) by clear DE DL du r2 ex ey;grind)
  have k2:=Rat.mul_nonneg (bT r) (show 0<=cc*cc+ss*ss-1 by clear DE DL du r2 n ex ey;grind)
  have k3:=Rat.mul_nonneg (show 0<=1-r*r by grind) (wV.2.1)
  have k4:del<=dd:=by unfold del dd;decide +kernel
  clear DE DL n n1 ex ey r2;generalize dtp a c e*dtp a c e=D at *
  constructor<;>grind
 refine ⟨r,cc,ss,r0,r1,ex,ey,n,N,O,?_,rfl,rfl⟩;unfold Nr at DL;have eD:dtp a c e=sg a*sg c+cg a*cg c*cg e:=rfl;rw [<-eD] at DL;clear ex ey r2 du n n1 O eD;exact Qb r0 N B.1 B.2.2 B.2.1 (by clear N;grind) (by clear N;grind)
theorem FZ (a b c d:Int) (h1:PtV a b) (h2:PtV c d) (B:0<=(aP a b c d).getD 0 0/\(aP a b c d).getD 0 0<=(aP a b c d).getD 1 0/\(aP a b c d).getD 1 0<=10800000) :
 let S:=drS a a ((aP a b c d).getD 0 0) ((aP a b c d).getD 1 0) ((aX a b c d).getD 0 0) ((aX a b c d).getD 1 0)
 let Y:=drY a a ((aP a b c d).getD 0 0) ((aP a b c d).getD 1 0) ((aX a b c d).getD 0 0) ((aX a b c d).getD 1 0)
 let X:=drX a a ((aP a b c d).getD 0 0) ((aP a b c d).getD 1 0) ((aX a b c d).getD 0 0) ((aX a b c d).getD 1 0)
 InE S.1 S.2 (sg c) (20*td)/\InE Y.1 Y.2 (cg a*cg c*sg (sgd (d-b))) (50*td)/\InE X.1 X.2 (cg a*cg c*cg (sgd (d-b))) (50*td):=by
 obtain ⟨r,cc,ss,r0,r1,ex,ey,n,N,O,P,_,_⟩:=IC a b c d h1 h2 B;generalize (aP a b c d).getD 0 0=g at *
 generalize (aP a b c d).getD 1 0=h at *
 generalize (aX a b c d).getD 0 0=p at *
 generalize (aX a b c d).getD 1 0=q at *
 generalize sgd (d-b)=e at *
 intro S Y X;obtain ⟨t0,t1,t2,t3,t4,t5⟩:=tdn;have ep:=bz;have E1:2*ee+8*tin<=2*td:=by clear n N O P ex ey;grind
 have E2:2*ee+td<=2*td:=by clear n N O P ex ey;grind
 have e1:2*ee<=td:=by clear n N O P ex ey;grind
 have cs:=(O.cos).le E1;have sn:=(O.sin).le E1;have cd:=(P.cos).le E2;have sd:=(P.sin).le E2;have sa:=(lm a).le e1;have ca:=(jq a).le e1;have t2':0<=2*td:=by clear n N O P ex ey cs sn cd sd sa ca;grind
 have u1:=(U_M (U_S a a) (U_C g h)).2.2;have u2:=(U_M (U_C a a) (U_S g h)).2.2;have u3:=(U_M u2 (U_C p q)).2.2;have lt1:2*td<=1:=by clear n N O P ex ey cs sn cd sd sa ca;grind
 have M1:=nQ (U_S a a) (U_C g h) sa cd t0 t2' lt1;have M2:=nQ (U_C a a) (U_S g h) ca sd t0 t2' lt1;have M3:=nQ u2 (U_C p q) M2 cs (by clear n N O P ex ey cs sn cd sd sa ca M1 M2;grind) t2' lt1
 have A:=Cq u1 u3 M1 M3
 have id1:sg a*dtp a c e+cg a*r*cc=sg c:=by
  have u:=cO a;have k:=congrArg (·*(sg c)) u;have z:cg a*r*cc=cg a*(r*cc):=by clear ex ey n N;grind
  rw [z,<-ex];unfold dtp;clear ex ey n N M1 M2 M3 A cs sn cd sd sa ca u;grind
 rw [id1] at A;have oc:=(g1 c).2;unfold O1 at oc;have on:=fe
 have s1:InE S.1 S.2 (sg c) (20*td):=by
  have a1:S.1=max (jX a a g h p q).1 (-1073741824):=rfl;have a2:S.2=min (jX a a g h p q).2 1073741824:=rfl;have A':InE (jX a a g h p q).1 (jX a a g h p q).2 (sg c) (20*td):=A.le (by clear n N O P ex ey cs sn cd sd sa ca M1 M2 M3 A id1;grind)
  unfold InE at A' ⊢
  rw [a1,a2];have k1:max (jX a a g h p q).1 (-1073741824)=(jX a a g h p q).1∨max (jX a a g h p q).1 (-1073741824)=-1073741824:=by omega
  have k2:min (jX a a g h p q).2 1073741824=(jX a a g h p q).2∨min (jX a a g h p q).2 1073741824=1073741824:=by omega
  clear M1 M2 M3 A ex ey n N cs sn cd sd sa ca id1 a1 a2
  constructor
  . rcases k1 with k|k
    . rw [k];exact A'.1
    . rw [k,show ((-1073741824:Int):Rat)=-1073741824 from rfl];clear A';grind
  . rcases k2 with k|k
    . rw [k];exact A'.2
    . rw [k,show ((1073741824:Int):Rat)=1073741824 from rfl];clear A';grind
 have y1:InE Y.1 Y.2 (cg a*cg c*sg e) (50*td):=by
  have v1:=(U_M (U_S p q) (U_S g h)).2.2;have N1:=nQ (U_S p q) (U_S g h) sn sd t2' t2' lt1;have N2:=nQ v1 (U_C a a) N1 ca (by clear n N O P ex ey cs sn cd sd sa ca M1 M2 M3 A id1;grind) t0 (by clear n N O P ex ey cs sn cd sd sa ca M1 M2 M3 A id1;grind)
  have id2:ss*r*cg a=cg a*cg c*sg e:=by
   have z:ss*r*cg a=r*ss*cg a:=by clear ex ey n N N1 N2 M1 M2 M3 A id1;grind
   rw [z,<-ey];clear ex ey n N N1 N2 M1 M2 M3 A id1;grind
  rw [id2] at N2;exact N2.le (by clear n N O P ex ey cs sn cd sd sa ca M1 M2 M3 A id1 N1 N2;grind)
 have x1:InE X.1 X.2 (cg a*cg c*cg e) (50*td):=by
  have us:=IM a a g h p q;have v2:=(U_M (U_S a a) us).2.2;have N1:=nQ (U_S a a) us sa s1 t0 (by clear n N O P ex ey cs sn cd sd sa ca M1 M2 M3 A id1 y1;grind) (by clear n N O P ex ey cs sn cd sd sa ca M1 M2 M3 A id1 y1;grind)
  have N2:=Fe (U_C g h) v2 cd N1;have id3:dtp a c e-sg a*sg c=cg a*cg c*cg e:=by unfold dtp;clear ex ey n N N1 N2 M1 M2 M3 A id1;grind
  rw [id3] at N2;exact N2.le (by clear n N O P ex ey cs sn cd sd sa ca M1 M2 M3 A id1 N1 N2;grind)
 exact ⟨s1,y1,x1⟩
theorem there_holds (a b c d:Int) (h1:PtV a b) (h2:PtV c d) (B:0<=(aP a b c d).getD 0 0/\(aP a b c d).getD 0 0<=(aP a b c d).getD 1 0/\(aP a b c d).getD 1 0<=10800000) (D:List Int) (hD:D=fO a a b b ((aX a b c d).getD 0 0) ((aX a b c d).getD 1 0) ((aP a b c d).getD 0 0) ((aP a b c d).getD 1 0)) :
 (D.getD 0 0<=c/\c<=D.getD 1 0)/\((D.getD 2 0=-10800000/\D.getD 3 0=10800000)∨(-10800000<=D.getD 2 0/\D.getD 2 0<10800000/\D.getD 2 0<=D.getD 3 0/\D.getD 3 0-D.getD 2 0<21600000/\(d-D.getD 2 0)%21600000<=D.getD 3 0-D.getD 2 0)):=by
 obtain ⟨S,Y,X⟩:=FZ a b c d h1 h2 B;obtain ⟨v0,v1,v2,v3⟩:=Tq a a b b ((aX a b c d).getD 0 0) ((aX a b c d).getD 1 0) ((aP a b c d).getD 0 0) ((aP a b c d).getD 1 0);rw [<-hD] at v0 v1 v2 v3;rw [v0,v1,v2,v3];obtain ⟨t0,t1,t2,t3,t4,t5⟩:=tdn;have c0:-5400000<=c/\c<=5400000:=by unfold PtV at h2;omega
 refine ⟨⟨G9 c0.1 c0.2 (by have:=S.1;clear S Y X hD v0 v1 v2 v3;grind),RO c0.1 c0.2 (by have:=S.2;clear S Y X hD v0 v1 v2 v3;grind)⟩,?_⟩
 have eb:uF a a ((aP a b c d).getD 0 0) ((aP a b c d).getD 1 0) ((aX a b c d).getD 0 0) ((aX a b c d).getD 1 0)=aV (drY a a ((aP a b c d).getD 0 0) ((aP a b c d).getD 1 0) ((aX a b c d).getD 0 0) ((aX a b c d).getD 1 0)).1 (drY a a ((aP a b c d).getD 0 0) ((aP a b c d).getD 1 0) ((aX a b c d).getD 0 0) ((aX a b c d).getD 1 0)).2 (drX a a ((aP a b c d).getD 0 0) ((aP a b c d).getD 1 0) ((aX a b c d).getD 0 0) ((aX a b c d).getD 1 0)).1 (drX a a ((aP a b c d).getD 0 0) ((aP a b c d).getD 1 0) ((aX a b c d).getD 0 0) ((aX a b c d).getD 1 0)).2:=rfl;have eh:yu a a ((aP a b c d).getD 0 0) ((aP a b c d).getD 1 0) ((aX a b c d).getD 0 0) ((aX a b c d).getD 1 0)=bI (drY a a ((aP a b c d).getD 0 0) ((aP a b c d).getD 1 0) ((aX a b c d).getD 0 0) ((aX a b c d).getD 1 0)).1 (drY a a ((aP a b c d).getD 0 0) ((aP a b c d).getD 1 0) ((aX a b c d).getD 0 0) ((aX a b c d).getD 1 0)).2 (drX a a ((aP a b c d).getD 0 0) ((aP a b c d).getD 1 0) ((aX a b c d).getD 0 0) ((aX a b c d).getD 1 0)).1 (drX a a ((aP a b c d).getD 0 0) ((aP a b c d).getD 1 0) ((aX a b c d).getD 0 0) ((aX a b c d).getD 1 0)).2:=rfl;have uy:U (drY a a ((aP a b c d).getD 0 0) ((aP a b c d).getD 1 0) ((aX a b c d).getD 0 0) ((aX a b c d).getD 1 0)):=(U_M (U_M (U_S _ _) (U_S _ _)).2.2 (U_C _ _)).2.2;have fx:=(cZ _ _).1 (U_D (U_C ((aP a b c d).getD 0 0) ((aP a b c d).getD 1 0)) (U_M (U_S a a) (IM a a ((aP a b c d).getD 0 0) ((aP a b c d).getD 1 0) ((aX a b c d).getD 0 0) ((aX a b c d).getD 1 0))).2.2).2.2;have fx':-2147483648<=(drX a a ((aP a b c d).getD 0 0) ((aP a b c d).getD 1 0) ((aX a b c d).getD 0 0) ((aX a b c d).getD 1 0)).1/\(drX a a ((aP a b c d).getD 0 0) ((aP a b c d).getD 1 0) ((aX a b c d).getD 0 0) ((aX a b c d).getD 1 0)).1<=(drX a a ((aP a b c d).getD 0 0) ((aP a b c d).getD 1 0) ((aX a b c d).getD 0 0) ((aX a b c d).getD 1 0)).2/\(drX a a ((aP a b c d).getD 0 0) ((aP a b c d).getD 1 0) ((aX a b c d).getD 0 0) ((aX a b c d).getD 1 0)).2<=2147483648:=fx;rw [eb,eh];clear eb eh v0 v1 v2 v3 hD fx S B;generalize drY a a ((aP a b c d).getD 0 0) ((aP a b c d).getD 1 0) ((aX a b c d).getD 0 0) ((aX a b c d).getD 1 0)=P at *
 generalize drX a a ((aP a b c d).getD 0 0) ((aP a b c d).getD 1 0) ((aX a b c d).getD 0 0) ((aX a b c d).getD 1 0)=Q at *
 have bb:=iT P.1 P.2 Q.1 Q.2;have ca:=fP a (by unfold PtV at h1;omega)
 have cc:=fP c (by omega)
 have R0:=Rat.mul_nonneg ca cc;have sy:=ny (Y.le (show 50*td<=100*td by clear Y X R0;grind)) t5
 have sx:=ny (X.le (show 50*td<=100*td by clear Y X R0 sy;grind)) t5
 have z1:1073741824*(cg a*cg c*sg (sgd (d-b)))=1073741824*(cg a*cg c)*sg (sgd (d-b)):=by clear Y X sx sy;grind
 have z2:1073741824*(cg a*cg c*cg (sgd (d-b)))=1073741824*(cg a*cg c)*cg (sgd (d-b)):=by clear Y X sx sy z1;grind
 rw [z1] at sy;rw [z2] at sx;have sd:(sgd (d-b))%21600000=(d-b)%21600000:=by unfold sgd;split<;>omega
 unfold U at uy;cases ho:fK P.1 P.2 Q.1 Q.2
 . have H:=bear_holds (c:=sgd (d-b)) (r:=1073741824*(cg a*cg c)) uy.2.1 fx'.2.1 (by omega) ⟨fx'.1,fx'.2.2⟩ ho (Rat.mul_nonneg (by decide) R0) sx.1 sx.2 sy.1 sy.2
   have hf:=mV uy.2.1 fx'.2.1 (by omega) ⟨fx'.1,fx'.2.2⟩ ho
   right
   clear Y X sx sy z1 z2 R0 ca cc;generalize aV P.1 P.2 Q.1 Q.2=L at *
   generalize bI P.1 P.2 Q.1 Q.2=G at *
   generalize sgd (d-b)=e at *
   have sb:=lV (b+L);have sm:(sgd (b+L))%21600000=(b+L)%21600000:=by unfold sgd;split<;>omega
   unfold Bi;rw [if_neg (by omega)]
   simp only;omega
 . left
   have eL:aV P.1 P.2 Q.1 Q.2=0:=by unfold aV;rw [ho];rfl
   have eH:bI P.1 P.2 Q.1 Q.2=21600000:=by unfold bI;rw [ho];rfl
   rw [eL,eH];unfold Bi;rw [if_pos (by omega)]
   exact ⟨rfl,rfl⟩
theorem vo (n:Int):bU n n=bLo n/\bW n n=bHi n:=by
 unfold bU bW
 constructor
 . by_cases h:bV n n 16200000=true
   . rw [if_pos h];unfold bV av at h;have e:=(kY n 16200000 (by have:=of_decide_eq_true h;omega)).1
     rw [e];decide +kernel
   . rw [if_neg h];omega
 . by_cases h:bV n n 5400000=true
   . rw [if_pos h];unfold bV av at h;have e:=(kY n 5400000 (by have:=of_decide_eq_true h;omega)).2
     rw [e];decide +kernel
   . rw [if_neg h];omega
theorem Lx (n:Int):uH (-n)=uH n:=by
 have h:=yG (n+5400000);have h2:=EI
 have e:bLo (-n+5400000)=bLo (n+5400000)/\bHi (-n+5400000)=bHi (n+5400000):=by
  have p1:=kY (-n+5400000) ((-n+5400000+5400000)%21600000-5400000) (by omega)
  have p2:=kY (n+5400000) ((n+5400000+5400000)%21600000-5400000) (by omega)
  rw [p1.1,p1.2,p2.1,p2.2];have m:(-n+5400000+5400000)%21600000=0∨0<(-n+5400000+5400000)%21600000:=by omega
  have k:(-n+5400000+5400000)%21600000-5400000=10800000-((n+5400000+5400000)%21600000-5400000)∨((-n+5400000+5400000)%21600000-5400000)=((n+5400000+5400000)%21600000-5400000):=by omega
  rcases k with k|k
  . rw [k]
    by_cases q:5400000<=(n+5400000+5400000)%21600000-5400000
    . have r:=yG ((n+5400000+5400000)%21600000-5400000) q (by omega)
      exact ⟨r.1.symm,r.2.symm⟩
    . have r:=yG (10800000-((n+5400000+5400000)%21600000-5400000)) (by omega) (by omega)
      rw [show 10800000-(10800000-((n+5400000+5400000)%21600000-5400000))=(n+5400000+5400000)%21600000-5400000 by omega] at r
      exact r
  . rw [k];exact ⟨rfl,rfl⟩
 unfold uH uJ sW;rw [(vo (-n+5400000)).1,(vo (-n+5400000)).2,(vo (n+5400000)).1,(vo (n+5400000)).2,e.1,e.2]
theorem RG {p q:IV} (hp:U p) (hq:U q):uM p q=uM q p:=by
 rw [(U_M hp hq).1,(U_M hq hp).1];unfold iH ja mn4 mx4;rw [Int.mul_comm q.1 p.1,Int.mul_comm q.1 p.2,Int.mul_comm q.2 p.1,Int.mul_comm q.2 p.2];refine Prod.ext ?_ ?_<;>simp only<;>congr 1<;>omega
theorem Sk (a b c d:Int):aP a b c d=aP c d a b:=by
 have e:iN a c (sgd (d-b))=iN c a (sgd (b-d)):=by
  unfold iN;rw [show c-a=-(a-c) by omega,Lx,RG (U_C a a) (U_C c c)]
  have h:uH (sgd (d-b))=uH (sgd (b-d)):=by
   by_cases q:sgd (d-b)=-sgd (b-d)
   . rw [q,Lx]
   . have:sgd (d-b)=sgd (b-d):=by unfold sgd at *;split<;>split<;>omega
     rw [this]
  rw [h]
 unfold aP;rw [e]
