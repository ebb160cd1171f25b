/- Plain: distances along great circles, and the law of the triangle. -/
import Derived.Test.YtmldbeipmappnaaZGc
import Derived.Test.YtmldbeipmappnaaZDs
set_option linter.unusedVariables false
set_option linter.unusedSimpArgs false
namespace Go.Proofs.Ytmldbeipmappnaa
open Alm Sx
theorem JZ {a1 a2 a3 b1 b2 b3:Rat} (ha:a1*a1+a2*a2+a3*a3=1) (hb:b1*b1+b2*b2+b3*b3=1):(b2*a3-b3*a2)*(b2*a3-b3*a2)+(b3*a1-b1*a3)*(b3*a1-b1*a3)+(b1*a2-b2*a1)*(b1*a2-b2*a1)=1-(a1*b1+a2*b2+a3*b3)*(a1*b1+a2*b2+a3*b3):=by
 have m:(a1*a1+a2*a2+a3*a3)*(b1*b1+b2*b2+b3*b3)=1:=by rw [ha,hb,Rat.mul_one]
 clear ha hb;grind
def dot (a b c d:Int):Rat:=cg a*cg b*(cg c*cg d)+cg a*sg b*(cg c*sg d)+sg a*sg c
theorem Et (a b:Int):cg a*cg b*(cg a*cg b)+cg a*sg b*(cg a*sg b)+sg a*sg a=1:=by
 have u:=bX a;have v:=bX b;have k:=congrArg (·*(cg a*cg a)) v;clear v;grind
theorem Ru (a b c d:Int):O1 (dot a b c d):=by
 have L:=JZ (Et a b) (Et c d);have s1:=dh (cg c*sg d*sg a-sg c*(cg a*sg b));have s2:=dh (sg c*(cg a*cg b)-cg c*cg d*sg a);have s3:=dh (cg c*cg d*(cg a*sg b)-cg c*sg d*(cg a*cg b));have e:dot a b c d=cg a*cg b*(cg c*cg d)+cg a*sg b*(cg c*sg d)+sg a*sg c:=rfl;rw [<-e] at L;have h:dot a b c d*dot a b c d<=1:=by clear e;grind
 clear L s1 s2 s3 e;generalize dot a b c d=D at *
 unfold O1
 constructor
 . refine Rat.not_lt.1 fun k=>?_
   have:=Rat.mul_pos (show 0 < -1-D by grind) (show 0<1-D by grind);grind
 . refine Rat.not_lt.1 fun k=>?_
   have:=Rat.mul_pos (show 0<D-1 by grind) (show 0<D+1 by grind);grind
theorem ym {x y:Rat} (hx:O1 x) (hy:O1 y):O1 (x*y):=by
 unfold O1 at *
 have a:=Rat.mul_nonneg (show 0<=1-x by grind) (show 0<=1-y by grind)
 have b:=Rat.mul_nonneg (show 0<=1-x by grind) (show 0<=1+y by grind)
 have c:=Rat.mul_nonneg (show 0<=1+x by grind) (show 0<=1-y by grind)
 have d:=Rat.mul_nonneg (show 0<=1+x by grind) (show 0<=1+y by grind)
 constructor<;>grind
theorem zq {x y z e:Rat} (hx:O1 x) (h:Nr y z e):Nr (x*y) (x*z) e:=by
 unfold O1 Nr at *
 have a:=Rat.mul_nonneg (show 0<=1-x by grind) (show 0<=e-(y-z) by grind)
 have b:=Rat.mul_nonneg (show 0<=1-x by grind) (show 0<=e+(y-z) by grind)
 have c:=Rat.mul_nonneg (show 0<=1+x by grind) (show 0<=e-(y-z) by grind)
 have d:=Rat.mul_nonneg (show 0<=1+x by grind) (show 0<=e+(y-z) by grind)
 constructor<;>grind
theorem UL (n:Int):sg (sgd n)=sg n/\cg (sgd n)=cg n:=ni (by unfold sgd;split<;>omega)
theorem ui (a b c d:Int):Nr (dot a b c d) (sg a*sg c+cg a*cg c*cg (sgd (d-b))) (70*ee):=by
 have s:=lQ b d;rw [(UL (d-b)).2];have m:=zq (ym (g1 a).1 (g1 c).1) s;unfold dot Nr at *
 clear s
 constructor<;>grind
theorem KE (a b c d:Int):InE (gI a c (sgd (d-b))).1 (gI a c (sgd (d-b))).2 (1/2*(1-dot a b c d)) (100*ee):=by
 have ep:=bB;have p1:(0:Rat)<=2*ee:=by grind
 have um:=(U_M (U_C a a) (U_C c c)).2.2;have um2:=(U_M um (U_H (sgd (d-b)))).2.2;have M2:=jC (U_C a a) (U_C c c) (kX a a a (.inl rfl)) (kX c c c (.inl rfl)) p1 p1 (g1 a).1;have M3:=jC um (U_H (sgd (d-b))) M2 (Dv (sgd (d-b))) (by grind) (by grind) (ym (g1 a).1 (g1 c).1)
 have A:=Jt (U_H (c-a)) um2 (Dv (c-a)) M3;have D:=lQ a c;have E:=ui a b c d;unfold InE at A ⊢
 unfold Nr at D E;show ((uA _ _).1:Rat)*u30-_<=_/\_<=((uA _ _).2:Rat)*u30+_;clear um um2 M2 M3 p1
 constructor<;>grind
theorem Wi (x:Int):max x 0=x/\0<=x∨max x 0=0/\x<=0:=by omega
theorem Wm (x:Int):min x 1073741824=x/\x<=1073741824∨min x 1073741824=1073741824/\1073741824<=x:=by omega
theorem LM {y:Int} {z:Rat} (hy:y<=1073741824) (hz:z<=1) (h:z<=(y:Rat)*u30):z-10*ee<=cg (oP y):=by
 have ep:=bB;unfold oP;have e1:yU y 1073741824=y:=by unfold yU;split<;>omega
 rw [e1];obtain ⟨a0,a1,a2,_⟩:=bW (-y);generalize bC (-y)=m at *
 have q:=(eG m).2;rw [show (5400000:Int)+m=m+5400000 by omega]
 unfold Nr at q;rcases a2 with a2|a2
 . have l:bHi (-5400000)=-1073741824:=by decide +kernel
   have s:=(tY m).2;rw [a2] at s q ⊢
   rw [l] at s;have u1:=eB;have k:((-1073741824:Int):Rat)=-1073741824:=rfl;rw [k] at s;clear a0 a1 h;grind
 . have s:=(tY m).2;have c:(bHi m:Rat)<=((-y:Int):Rat):=Rat.intCast_le_intCast.2 a2;rw [Rat.intCast_neg] at c;have u:=Rat.mul_le_mul_of_nonneg_right c (Rat.le_of_lt dQ);clear a0 a1 a2 c e1;grind
theorem Jo (m:Int):Nr (sg (-m)) (-sg m) (80*ee):=by
 have h:=sO m 0;have z0:sg 0=0/\cg 0=1:=by decide +kernel
 rw [z0.1,z0.2,show (0:Int)-m=-m by omega] at h
 unfold Nr at *
 constructor<;>grind
theorem JM {y:Int} {z:Rat} (hy:-1073741824<=y) (hz:-1<=z) (h:(y:Rat)*u30<=z):cg (qH y)<=z+100*ee:=by
 have ep:=bB;unfold qH;have e1:Ad y (-1073741824)=y:=by unfold Ad;split<;>omega
 rw [e1];obtain ⟨a0,a1,a2,_⟩:=bW y;generalize bC y=m at *
 have q:=(eG (-m)).2;have o:=Jo m;rw [show (5400000:Int)-m=-m+5400000 by omega]
 unfold Nr at q o;rcases a2 with a2|a2
 . have l:bHi (-5400000)=-1073741824:=by decide +kernel
   have s:=(tY m).2;rw [a2] at s q o ⊢
   rw [l] at s;have u1:=eB;have k:((-1073741824:Int):Rat)=-1073741824:=rfl;rw [k] at s;clear a0 a1 h;grind
 . have s:=(tY m).2;have c:(bHi m:Rat)<=(y:Rat):=Rat.intCast_le_intCast.2 a2;have u:=Rat.mul_le_mul_of_nonneg_right c (Rat.le_of_lt dQ);clear a0 a1 a2 c e1;grind
theorem fxR (y:Int):((1073741824-2*y:Int):Rat)*u30=1-2*((y:Rat)*u30):=by
 have u1:=eB;rw [Rat.intCast_sub,Rat.intCast_mul];have k:((1073741824:Int):Rat)=1073741824:=rfl;have k2:((2:Int):Rat)=2:=rfl;rw [k,k2];grind
theorem zk (a b c d:Int):dot a b c d-300*ee<=cg ((bY a b c d).getD 0 0)/\cg ((bY a b c d).getD 1 0)<=dot a b c d+300*ee:=by
 obtain ⟨e0,e1,_⟩:=jc a b c d;rw [e0,e1];have T:=KE a b c d;have o:=Ru a b c d;have ep:=bB;have u1:=eB;unfold InE at T;unfold O1 at o;generalize (gI a c (sgd (d-b))).1=L at *
 generalize (gI a c (sgd (d-b))).2=H at *
 generalize dot a b c d=D at *
 have z0:((0:Int):Rat)*u30=0:=by rw [show ((0:Int):Rat)=0 from rfl,Rat.zero_mul]
 constructor
 . unfold yu
   have k:=LM (y:=1073741824-2*max L 0) (z:=D-200*ee) (by omega) (by clear T;grind) (by
    rw [fxR];rcases Wi L with m|m
    . rw [m.1];clear m;grind
    . rw [m.1,z0];clear T;grind)
   clear T u1 z0;grind
 . unfold wU
   have k:=JM (y:=1073741824-2*min H 1073741824) (z:=D+200*ee) (by omega) (by clear T;grind) (by
    rw [fxR];rcases Wm H with m|m
    . rw [m.1];clear m;grind
    . rw [m.1,show ((1073741824:Int):Rat)=1073741824 from rfl,u1];clear T;grind)
   clear T u1 z0;grind
