/- Plain: rotated unit vectors; angles that meet. -/
import Derived.Test.YtbdlccacamalpaaZVrQ
import Derived.Test.YtbdlccacamalpaaZVe4
import Derived.Test.YtbdlccacamalpaaZBin
set_option linter.unusedVariables false
set_option linter.unusedSimpArgs false
namespace Go.Proofs.Ytbdlccacamalpaa
open Go.RowKit Alm Sx
theorem BL {p q:IV} {x y e f g:Rat} {k m:Int} (h:Tr p x k e) (hq:Tr q y m f) (d1:x-y<=g) (d2:y-x<=g) (he:e+f+g<=1000000*ee) (e0:0<=e) (f0:0<=f):p.1<=q.2/\q.1<=p.2:=by
 obtain ⟨_,_,h3,h4⟩:=h;obtain ⟨_,_,g3,g4⟩:=hq;have b:=Dv;have hs:(1:Rat)/2000000000<u30:=by rw [dm];decide +kernel
 exact ⟨ule (x:=x+e) (by clear h4 g3 g4;grind) (by clear h3 h4 g3;grind),ule (x:=y+f) (by clear h3 h4 g4;grind) (by clear g3 g4 h3;grind)⟩
theorem Tn {Y Z Y' Z':IV} {y z y' z' f g:Rat} {k m:Int} (hy:Tr Y y k f) (hz:Tr Z z k f) (hy':Tr Y' y' m g) (hz':Tr Z' z' m g) (hk:0<=k/\k<=20) (hm:0<=m/\m<=20) (hf:0<=f/\f<=100*ee) (hg:0<=g/\g<=100*ee) (h1:y*y+z*z<=1) (h2:y'*y'+z'*z'<=1) (o1:O1 y) (o2:O1 z) (o3:O1 y') (o4:O1 z') :
 (er0 Y Z'=0/\er0 Z Y'=0/\er2 (uM Y Z') (uM Z Y')=0)/\Tr (crX Y Z Y' Z') (y*z'-z*y') 86 (800*ee)/\O1 (y*z'-z*y'):=by
 have e:=bC;have e2:=wU;have f4:f<=1/4000000000:=by clear h1 h2;grind
 have g4:g<=1/4000000000:=by clear h1 h2;grind
 have M1:=mO hy hz' o1 o4 ⟨hf.1,f4⟩ ⟨hg.1,g4⟩ (by omega) (by omega)
 have M2:=mO hz hy' o2 o3 ⟨hf.1,f4⟩ ⟨hg.1,g4⟩ (by omega) (by omega)
 have am:=Si (a:=y) (b:=z') (c:=z) (d:=-y') h1 (by grind)
 have s:2*f+2*g<=1/4000000000:=by clear h1 h2 am;grind
 have D:=RH M1.2.1 M2.2.1 (by grind) (by grind) s s (by omega) (by omega)
 exact ⟨⟨M1.1,M2.1,D.1⟩,D.2.1.le (by omega) (by clear h1 h2 am;grind),by unfold O1;constructor<;>grind⟩
theorem Sr {X Y Z X' Y' Z':IV} {x y z x' y' z' f g:Rat} {k m:Int} (A:Cu X Y Z x y z k f) (B:Cu X' Y' Z' x' y' z' m g) (a:x*x+y*y+z*z=1) (b:x'*x'+y'*y'+z'*z'=1) (hk:0<=k/\k<=20) (hm:0<=m/\m<=20) (hf:0<=f/\f<=100*ee) (hg:0<=g/\g<=100*ee) :
 ((er0 Y Z'=0/\er0 Z Y'=0/\er2 (uM Y Z') (uM Z Y')=0)/\(er0 Z X'=0/\er0 X Z'=0/\er2 (uM Z X') (uM X Z')=0)/\(er0 X Y'=0/\er0 Y X'=0/\er2 (uM X Y') (uM Y X')=0)) /\
 Cu (crX Y Z Y' Z') (crX Z X Z' X') (crX X Y X' Y') (y*z'-z*y') (z*x'-x*z') (x*y'-y*x') 86 (800*ee) /\
 (y*z'-z*y')*(y*z'-z*y')+(z*x'-x*z')*(z*x'-x*z')+(x*y'-y*x')*(x*y'-y*x')=1-(x*x'+y*y'+z*z')*(x*x'+y*y'+z*z'):=by
 obtain ⟨ox,oy,oz⟩:=I9 a;obtain ⟨px,py,pz⟩:=I9 b;have sx:=bX x;have sy:=bX y;have sz:=bX z;have tx:=bX x';have ty:=bX y';have tz:=bX z'
 have c1:=Tn A.ty A.tz B.ty B.tz hk hm hf hg (by clear hf hg;grind) (by clear hf hg;grind) oy oz py pz
 have c2:=Tn A.tz A.tx B.tz B.tx hk hm hf hg (by clear hf hg c1;grind) (by clear hf hg c1;grind) oz ox pz px
 have c3:=Tn A.tx A.ty B.tx B.ty hk hm hf hg (by clear hf hg c1 c2;grind) (by clear hf hg c1 c2;grind) ox oy px py
 have lag:(y*z'-z*y')*(y*z'-z*y')+(z*x'-x*z')*(z*x'-x*z')+(x*y'-y*x')*(x*y'-y*x')=1-(x*x'+y*y'+z*z')*(x*x'+y*y'+z*z'):=by
  have m:(x*x+y*y+z*z)*(x'*x'+y'*y'+z'*z')=1:=by rw [a,b,Rat.mul_one]
  clear c1 c2 c3 a b sx sy sz tx ty tz ox oy oz px py pz A B hf hg;grind
 have dn:=bX (x*x'+y*y'+z*z');exact ⟨⟨c1.1,c2.1,c3.1⟩,⟨c1.2.1,c2.2.1,c3.2.1,by rw [lag];clear c1 c2 c3 lag hf hg sx sy sz tx ty tz;grind⟩,lag⟩
theorem Sv {d e f:Rat} {P Q W:Int} (d3:(P:Rat)*u30-e<=d) (d4:d<=(Q:Rat)*u30+e) (t4:1-d*d<=(W:Rat)*u30+f) (c1:((-200:Int):Rat)<=(P:Rat)) (c2:(Q:Rat)<=((200:Int):Rat)) (c3:(W:Rat)<=((1000:Int):Rat)) (he:e<=1/1000000000) (hf:f<=1/1000000000):False:=by
 rw [show ((-200:Int):Rat)=-200 from rfl] at c1
 rw [show ((200:Int):Rat)=200 from rfl] at c2
 rw [show ((1000:Int):Rat)=1000 from rfl] at c3
 have up:=dV;have ub:u30<=1/1000000000:=by rw [dm];decide +kernel
 have k1:=Rat.mul_le_mul_of_nonneg_right c1 (Rat.le_of_lt up);have k2:=Rat.mul_le_mul_of_nonneg_right c2 (Rat.le_of_lt up);have k3:=Rat.mul_le_mul_of_nonneg_right c3 (Rat.le_of_lt up);clear c1 c2 c3;generalize (P:Rat)*u30=P at *
 generalize (Q:Rat)*u30=Q at *
 generalize (W:Rat)*u30=W at *
 have b1:d<=1/1000000:=by clear t4 k3;grind
 have b2:-(1/1000000)<=d:=by clear t4 k3;grind
 have b3:=Rat.mul_nonneg (show 0<=1/1000000-d by grind) (show 0<=1/1000000+d by grind)
 clear d3 d4 k1 k2 b1 b2;grind
theorem Tg {X Y Z X' Y' Z':IV} {x y z x' y' z' f g:Rat} {k m:Int} (A:Cu X Y Z x y z k f) (B:Cu X' Y' Z' x' y' z' m g) (a:x*x+y*y+z*z=1) (b:x'*x'+y'*y'+z'*z'=1) (hk:0<=k/\k<=20) (hm:0<=m/\m<=20) (hf:0<=f/\f<=100*ee) (hg:0<=g/\g<=100*ee) {S D R:IV} {d:Rat} (eS:S=smI (crX Y Z Y' Z') (crX Z X Z' X') (crX X Y X' Y')) (eD:D=dtI X Y Z X' Y' Z') (eR:R=uR S) (ed:d=x*x'+y*y'+z*z') :
 (er3 (crX Y Z Y' Z')=0/\er3 (crX Z X Z' X')=0/\er1 (uQ (crX Y Z Y' Z')) (uQ (crX Z X Z' X'))=0/\er3 (crX X Y X' Y')=0/\er1 (sm2 (crX Y Z Y' Z') (crX Z X Z' X')) (uQ (crX X Y X' Y'))=0/\er4 S=0) /\
 (er0 X X'=0/\er0 Y Y'=0/\er1 (uM X X') (uM Y Y')=0/\er0 Z Z'=0/\er1 (dt2 X Y X' Y') (uM Z Z')=0) /\
 R=(rtL S.1 S.2,rtH S.1 S.2)/\0<=R.1/\bY R.1 R.2 D.1 D.2=false/\Tr S (1-d*d) 525 (9600*ee)/\Tr D d 129 (1200*ee):=by
 obtain ⟨_,C,lag⟩:=Sr A B a b hk hm hf hg;have e:=bC;have e2:=wU;have eu:=Dv;have be:10000*ee<=1/4000000000:=by unfold ee;decide +kernel
 obtain ⟨E,T,n0⟩:=TJ C (by decide) ⟨by grind,by grind⟩
 obtain ⟨G,Dt⟩:=E9 A B (by omega) (by omega) ⟨hf.1,by grind⟩ ⟨hg.1,by grind⟩
 rw [lag,<-ed,<-eS] at T;rw [<-ed,<-eD] at Dt;rw [<-eS] at n0;have cl:=C.le;rw [lag,<-ed] at cl;have dn:=bX d
 have sn:0<=1-d*d:=by
  rw [ed,<-lag];have a:=bX (y*z'-z*y');have b:=bX (z*x'-x*z');have c:=bX (x*y'-y*x');clear lag cl dn T Dt ed eS eD eR hf hg;grind
 have T2:Tr S (1-d*d) 525 (9600*ee):=T.le (by decide) (by clear lag cl dn sn ed;grind)
 have D2:Tr D d 129 (1200*ee):=Dt.le (by omega) (by clear lag cl dn sn ed;grind)
 have fx:=Ec T2 (by clear lag ed;grind) (by clear lag ed;grind) (by clear lag cl dn sn ed;grind) (by decide)
 have Q:=I6 fx n0;rw [<-eR] at Q;refine ⟨⟨E.1,E.2.1,E.2.2.1,E.2.2.2.1,E.2.2.2.2,Q.1⟩,G,Q.2.1,by rw [Q.2.1];exact Q.2.2,?_,T2,D2⟩
 rw [Q.2.1];clear E G C lag a b A B eS eD eR ed T Dt hf hg;cases ho:bY (rtL S.1 S.2) (rtH S.1 S.2) D.1 D.2
 . rfl
 . exfalso;have h:=of_decide_eq_true ho;have r0:rtL S.1 S.2=0:=by have:=Q.2.2;omega
   rw [bT] at fx;have q:=(gV (max 0 S.1*1073741824) (by omega) (by omega)).2.2
   have r1:rtV (max 0 S.1*1073741824)=0:=r0;rw [r1] at q;have s0:S.1<=0:=by omega
   obtain ⟨t1,t2,t3,t4⟩:=T2;obtain ⟨d1,d2,d3,d4⟩:=D2;have c1:((-200:Int):Rat)<=(D.1:Rat):=Rat.intCast_le_intCast.2 (by omega)
   have c2:(D.2:Rat)<=((200:Int):Rat):=Rat.intCast_le_intCast.2 (by omega)
   have c3:(S.2:Rat)<=((1000:Int):Rat):=Rat.intCast_le_intCast.2 (by omega)
   exact Sv d3 d4 t4 c1 c2 c3 (by clear c1 c2 c3 d3 d4 t3 t4 sn dn cl h ho fx;grind) (by clear c1 c2 c3 d3 d4 t3 t4 sn dn cl h ho fx;grind)
theorem SI {yl yh xl xh yl' yh' xl' xh':Int} (hy:0<=yl/\yl<=yh/\yh<=2147483648) (hx:-2147483648<=xl/\xl<=xh/\xh<=2147483648) (hy':0<=yl'/\yl'<=yh'/\yh'<=2147483648) (hx':-2147483648<=xl'/\xl'<=xh'/\xh'<=2147483648) (ho:bY yl yh xl xh=false) (ho':bY yl' yh' xl' xh'=false) (my:yl<=yh'/\yl'<=yh) (mx:xl<=xh'/\xl'<=xh) :
 ay yl yh xl xh<=aU yl' yh' xl' xh'/\ay yl' yh' xl' xh'<=aU yl yh xl xh:=by
 have p1:=Sk (yl:=yl) (yh:=yh) (xl:=xl) (xh:=xh) (yl':=max yl yl') (yh':=max yl yl') (xl':=max xl xl') (xh':=max xl xl') (by omega) (by omega) (by omega) (by omega)
 have p2:=Sk (yl:=yl') (yh:=yh') (xl:=xl') (xh:=xh') (yl':=max yl yl') (yh':=max yl yl') (xl':=max xl xl') (xh':=max xl xl') (by omega) (by omega) (by omega) (by omega)
 have op:bY (max yl yl') (max yl yl') (max xl xl') (max xl xl')=false:=by
  have h:=of_decide_eq_false ho;unfold bY;rw [decide_eq_false_iff_not];omega
 have u1:=A8 hy.1 hy.2.1 hx.2.1 hy.2.2 ⟨hx.1,hx.2.2⟩ ho;have u2:=A8 hy'.1 hy'.2.1 hx'.2.1 hy'.2.2 ⟨hx'.1,hx'.2.2⟩ ho'
 have u3:=A8 (yl:=max yl yl') (yh:=max yl yl') (xl:=max xl xl') (xh:=max xl xl') (by omega) (by omega) (by omega) (by omega) ⟨by omega,by omega⟩ op
 have b3:=lc (max yl yl') (max yl yl') (max xl xl') (max xl xl');have b1:=lc yl yh xl xh;have b2:=lc yl' yh' xl' xh'
 clear ho ho' op hy hx hy' hx' my mx;generalize ay yl yh xl xh=l1 at *
 generalize aU yl yh xl xh=h1 at *
 generalize ay yl' yh' xl' xh'=l2 at *
 generalize aU yl' yh' xl' xh'=h2 at *
 generalize ay (max yl yl') (max yl yl') (max xl xl') (max xl xl')=l3 at *
 generalize aU (max yl yl') (max yl yl') (max xl xl') (max xl xl')=h3 at *
 omega
theorem Sw {S T:IV} (hS:fxV S.1 S.2=true) (hT:fxV T.1 T.2=true) (h:S.1<=T.2) (h0:0<=T.1):rtL S.1 S.2<=rtH T.1 T.2:=by
 rw [bT] at hS hT;have up:=GV (n:=max 0 S.1*1073741824) (k:=T.2*1073741824) (by omega) (by omega) (by omega)
 unfold rtL rtH;split<;>omega
theorem Ti {X Y Z:IV} {x y z:Rat} (A:Un X Y Z x y z) (t:Int) :
 Cu (roX X Y t t) (roY X Y t t) Z (x*cg t-y*sg t) (x*sg t+y*cg t) z 20 (100*ee)/\(x*cg t-y*sg t)*(x*cg t-y*sg t)+(x*sg t+y*cg t)*(x*sg t+y*cg t)+z*z=1:=by
 have e:=bC;have e2:=wU;obtain ⟨ox,oy,oz⟩:=I9 A.one;have oc:=(g1 t).1;have os:=(g1 t).2;have on:=iT t;have one:=A.one;have zz:=bX z;have M1:=mO A.tx (yu t) ox oc ⟨by clear on one;grind,by clear on one;grind⟩ ⟨by clear on one;grind,by clear on one;grind⟩ (by decide) (by decide)
 have M2:=mO A.ty (ym t) oy os ⟨by clear on one;grind,by clear on one;grind⟩ ⟨by clear on one;grind,by clear on one;grind⟩ (by decide) (by decide)
 have M3:=mO A.tx (ym t) ox os ⟨by clear on one;grind,by clear on one;grind⟩ ⟨by clear on one;grind,by clear on one;grind⟩ (by decide) (by decide)
 have M4:=mO A.ty (yu t) oy oc ⟨by clear on one;grind,by clear on one;grind⟩ ⟨by clear on one;grind,by clear on one;grind⟩ (by decide) (by decide)
 have am:=Si (a:=x) (b:=cg t) (c:=y) (d:=-sg t) (by clear on M1 M2 M3 M4;grind) (by clear one M1 M2 M3 M4;grind)
 have am2:=Si (a:=x) (b:=sg t) (c:=y) (d:=cg t) (by clear on M1 M2 M3 M4 am;grind) (by clear one M1 M2 M3 M4 am;grind)
 have s:2*(8*ee)+2*(2*ee)<=1/4000000000:=by clear on one am am2 M1 M2 M3 M4;grind
 have D:=RH M1.2.1 M2.2.1 (by clear on one M1 M2 M3 M4;grind) (by clear on one M1 M2 M3 M4;grind) s s (by decide) (by decide)
 have S:=FW M3.2.1 M4.2.1 (by clear on one M1 M2 M3 M4 D;grind) (by clear on one M1 M2 M3 M4 D;grind) s s (by decide) (by decide)
 have fin:(x*cg t-y*sg t)*(x*cg t-y*sg t)+(x*sg t+y*cg t)*(x*sg t+y*cg t)+z*z=1:=by
  have k:=congrArg (·*(x*x+y*y)) on;clear M1 M2 M3 M4 am am2 D S A;grind
 exact ⟨⟨D.2.1.le (by decide) (by clear on one am am2 fin;grind),S.2.1.le (by decide) (by clear on one am am2 fin;grind),A.tz.le (by decide) (by clear on one am am2 fin;grind),by rw [fin];exact Rat.le_refl⟩,fin⟩
theorem TU {x y z x' y' z':Rat} (t:Int):(x*cg t-y*sg t)*(x'*cg t-y'*sg t)+(x*sg t+y*cg t)*(x'*sg t+y'*cg t)+z*z'=x*x'+y*y'+z*z':=by
 have on:=iT t;have k:=congrArg (·*(x*x'+y*y')) on;clear on;grind
