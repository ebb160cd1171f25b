/- Plain: rotated positions, and the angle between latitudes on one meridian. -/
import Derived.Test.YtbdlccacamalpaaZVtP
import Derived.Test.YtbdlccacamalpaaZVbP
set_option linter.unusedVariables false
set_option linter.unusedSimpArgs false
namespace Go.Proofs.Ytbdlccacamalpaa
open Go.RowKit Alm Sx
theorem Ug (a b:Int):Nr (sg (b+a)) (sg b*cg a+cg b*sg a) (300*ee):=by
 have e:=bC;have s:=(qo (b+a)).symm;have c:=SQ a (b-5400000);rw [show b-5400000+a=b+a-5400000 by omega] at c
 have q1:=qo b;have q2:=(qK (b-5400000)).2;rw [show b-5400000+5400000=b by omega] at q2
 have ob:=(g1 (b-5400000)).2;have m1:=Nr.mul q1 (Nr.refl (cg a)) (g1 (b-5400000)).1 (g1 a).1 (by grind) (by grind)
 have m2:=Nr.mul q2.symm (Nr.refl (sg a)) (by unfold O1 at *;constructor<;>grind) (g1 a).2 (by grind) (by grind)
 have y:cg (b-5400000)*cg a-sg (b-5400000)*sg a=cg (b-5400000)*cg a+-sg (b-5400000)*sg a:=by grind
 rw [y] at c;have x:=(s.trans c).trans (m1.add m2);exact x.le (by clear x m1 m2 s c q1 q2 y;grind)
theorem SK (l m t:Int) :
 ((uM (uC l l) (uC (m+t) (m+t))).1<=(roX (uM (uC l l) (uC m m)) (uM (uC l l) (uS m m)) t t).2/\(roX (uM (uC l l) (uC m m)) (uM (uC l l) (uS m m)) t t).1<=(uM (uC l l) (uC (m+t) (m+t))).2) /\
 ((uM (uC l l) (uS (m+t) (m+t))).1<=(roY (uM (uC l l) (uC m m)) (uM (uC l l) (uS m m)) t t).2/\(roY (uM (uC l l) (uC m m)) (uM (uC l l) (uS m m)) t t).1<=(uM (uC l l) (uS (m+t) (m+t))).2):=by
 have e:=bC;have R:=(Ti (zU l m) t).1;have B:=zU l (m+t);have om:=iT m;have ot:=iT t;have a1:=Si (a:=cg m) (b:=cg t) (c:=sg m) (d:=-sg t) (by clear R B ot;grind) (by clear R B om;grind)
 have a2:=Si (a:=sg m) (b:=cg t) (c:=cg m) (d:=sg t) (by clear R B ot a1;grind) (by clear R B om a1;grind)
 have n1:=Nr.mul (Nr.refl (cg l)) (SQ t m) (g1 l).1 (by unfold O1;clear R B om ot a2;constructor<;>grind) (by clear R B om ot a1 a2;grind) (by clear R B om ot a1 a2;grind)
 have n2:=Nr.mul (Nr.refl (cg l)) (Ug t m) (g1 l).1 (by unfold O1;clear R B om ot a1 n1;constructor<;>grind) (by clear R B om ot a1 a2 n1;grind) (by clear R B om ot a1 a2 n1;grind)
 have TX:=R.tx;have TY:=R.ty;have BX:=B.tx;have BY:=B.ty;clear R B om ot a1 a2;have y1:cg l*(cg m*cg t-sg m*sg t)=cg l*cg m*cg t-cg l*sg m*sg t:=by clear TX TY BX BY n1 n2;grind
 have y2:cg l*(sg m*cg t+cg m*sg t)=cg l*cg m*sg t+cg l*sg m*cg t:=by clear TX TY BX BY n1 n2 y1;grind
 rw [y1] at n1;rw [y2] at n2;clear y1 y2;unfold Nr at n1 n2;have b:8*ee+100*ee+(0+300*ee)<=1000000*ee:=by clear TX TY BX BY n1 n2;grind
 exact ⟨BL BX TX (g:=0+300*ee) (by clear TX TY BX BY n2 b;grind) (by clear TX TY BX BY n2 b;grind) b (by clear TX TY BX BY n1 n2 b;grind) (by clear TX TY BX BY n1 n2 b;grind),BL BY TY (g:=0+300*ee) (by clear TX TY BX BY n1 b;grind) (by clear TX TY BX BY n1 b;grind) b (by clear TX TY BX BY n1 n2 b;grind) (by clear TX TY BX BY n1 n2 b;grind)⟩
theorem TB (a b c:Int):Nr (cg (a-c)) (cg a*cg b*(cg c*cg b)+cg a*sg b*(cg c*sg b)+sg a*sg c) (70*ee):=by
 have h:=yn c a;have on:=iT b;have k:=congrArg (·*(cg a*cg c)) on;have y:cg a*cg c+sg a*sg c=cg a*cg b*(cg c*cg b)+cg a*sg b*(cg c*sg b)+sg a*sg c:=by clear h on;grind
 rw [y] at h;exact h
theorem diff_holds {R D S:IV} {d:Rat} {n:Int} (hn:0<=n/\n<=10800000) (od:O1 d) (near:Nr (cg n) d (150*ee)) (TS:Tr S (1-d*d) 525 (9600*ee)) (TD:Tr D d 129 (1200*ee)) (fS:fxV S.1 S.2=true) (fD:fxV D.1 D.2=true) (eR:R=(rtL S.1 S.2,rtH S.1 S.2)) (nR:0<=R.1) (fR:fxV R.1 R.2=true) (ho:bY R.1 R.2 D.1 D.2=false) :
 ay R.1 R.2 D.1 D.2<=n/\n<=aU R.1 R.2 D.1 D.2:=by
 have e:=bC;have z0:0<=sg n:=JB n (by omega)
 have on:=iT n;have sq:=Nr.mul near near (g1 n).1 od (by clear near on;grind) (by clear near on;grind)
 obtain ⟨t1,t2,t3,t4⟩:=TS;obtain ⟨d1,d2,d3,d4⟩:=TD;unfold Nr at near sq;have i1:InE D.1 D.2 (cg n) (1350*ee):=⟨by clear t3 t4 sq on d4;grind,by clear t3 t4 sq on d3;grind⟩
 have tiny:1073741824*(1350*ee)<=1/40000000:=by unfold ee;decide +kernel
 have sc:=qA i1 tiny;have s3:(S.1:Rat)*u30-9900*ee<=sg n*sg n:=by clear t4 d3 d4 i1 sc near;grind
 have s4:sg n*sg n<=(S.2:Rat)*u30+9900*ee:=by clear t3 d3 d4 i1 sc near s3;grind
 clear t3 t4 d3 d4 i1 near sq on od tiny;have fb:=(bT _ _).1 fS;have gb:=(bT _ _).1 fD;have rb:=(bT _ _).1 fR
 have conv:∀ w:Rat,(w*u30)*1073741824=w:=fun w=>by
  have u1:=dz;have:(w*u30)*1073741824=w*(1073741824*u30):=by grind
  rw [this,u1,Rat.mul_one]
 have tiny:1073741824*(1073741824*(9900*ee))<=1/40000000:=by unfold ee;decide +kernel
 have y1:(R.1:Rat)-1/40000000<=1073741824*sg n:=by
  rw [eR];have a:=JJ (a:=S.1) (b:=S.2) z0 (show 0<=9900*ee by clear s3 s4 sc;grind) s3 (by omega)
  have k:=Rat.mul_nonneg (show 0<=sg n+1073741824*(9900*ee)-(rtL S.1 S.2:Rat)*u30 by clear s3 s4 sc;grind) (show (0:Rat)<=1073741824 by decide)
  have c:=conv (rtL S.1 S.2)
  show (rtL S.1 S.2:Rat)-1/40000000<=1073741824*sg n;clear s3 s4 sc conv eR
  grind
 have y2:1073741824*sg n<=(R.2:Rat)+1/40000000:=by
  rw [eR];show 1073741824*sg n<=(rtH S.1 S.2:Rat)+1/40000000
  by_cases hb:1<=S.2
  . have a:=GY (a:=S.1) (b:=S.2) z0 (show 0<=9900*ee by clear s3 s4 sc;grind) s4 ⟨hb,by omega⟩
    have k:=Rat.mul_nonneg (show 0<=(rtH S.1 S.2:Rat)*u30+1073741824*(9900*ee)-sg n by clear s3 s4 sc;grind) (show (0:Rat)<=1073741824 by decide)
    have c:=conv (rtH S.1 S.2)
    clear s3 s4 sc conv eR hb y1
    grind
  . have up:=dV;have s2:(S.2:Rat)<=((0:Int):Rat):=Rat.intCast_le_intCast.2 (by omega)
    rw [show ((0:Int):Rat)=0 from rfl] at s2
    have k0:=Rat.mul_nonneg (show 0<=0-(S.2:Rat) by grind) (Rat.le_of_lt up)
    have n0:0<=rtH S.1 S.2:=by have h:R.2=rtH S.1 S.2:=by rw [eR]
                               omega
    have n0':((0:Int):Rat)<=rtH S.1 S.2:=Rat.intCast_le_intCast.2 n0;rw [show ((0:Int):Rat)=0 from rfl] at n0'
    have small:sg n<=1/1000000000000000000000:=by
     refine Rat.not_lt.1 fun hh=>?_
     have k:=Rat.mul_pos (show 0<sg n-1/1000000000000000000000 by grind) (show 0<sg n+1/1000000000000000000000 by grind)
     have t:9900*ee<=1/1000000000000000000000*(1/1000000000000000000000):=by unfold ee;decide +kernel
     clear s3 sc conv eR hb y1 n0 n0' s2
     grind
    clear s3 s4 sc conv eR hb y1 n0 s2 k0
    grind
 have B:=bear_holds (c:=n) (r:=1073741824) rb.2.1 gb.2.1 ⟨by omega,by omega⟩ ⟨by omega,by omega⟩ ho (by decide) sc.1 sc.2 y1 y2
 have u:=A8 nR rb.2.1 gb.2.1 rb.2.2 ⟨gb.1,gb.2.2⟩ ho;have b:=lc R.1 R.2 D.1 D.2;clear y1 y2 sc s3 s4 conv tiny z0 e fb gb rb eR fS fD fR ho
 generalize ay R.1 R.2 D.1 D.2=L at *
 generalize aU R.1 R.2 D.1 D.2=H at *
 omega
