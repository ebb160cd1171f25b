/- Plain: currents are found again. -/
import Derived.Test.YtmldbeipmappnaaZCoT
import Derived.Test.YtmldbeipmappnaaZRd
set_option linter.unusedVariables false
set_option linter.unusedSimpArgs false
namespace Go.Proofs.Ytmldbeipmappnaa
open Go.RowKit Alm Sx
def e20:Rat:=1/1000000000000000000000000
def e12:Rat:=1/1000000000000
def e13:Rat:=1/10000000000000
theorem wB:1000000*ee<=e20/\400001*(2*ee+8*tin)<=1/2*e20/\10*e20<=e13/\0<e20/\0<e13/\3*e13+1000000*ee<=e12/\2000000*e12<=1/1000/\4096*e12<=1/40000000/\e13<=1/1000:=by unfold ee tin e20 e12 e13;decide +kernel
theorem Wh {c s d:Rat} (n:Nr (c*c+s*s) 1 d) (hd:d<=1/100):(-(11/10)<=c/\c<=11/10)/\(-(11/10)<=s/\s<=11/10):=by
 unfold Nr at n;have a:=bT c;have b:=bT s;refine ⟨⟨?_,?_⟩,⟨?_,?_⟩⟩
 . refine Rat.not_lt.1 fun k=>?_
   have:=Rat.mul_pos (show 0 < -(11/10)-c by grind) (show 0<11/10-c by grind);grind
 . refine Rat.not_lt.1 fun k=>?_
   have:=Rat.mul_pos (show 0<c-11/10 by grind) (show 0<c+11/10 by grind);grind
 . refine Rat.not_lt.1 fun k=>?_
   have:=Rat.mul_pos (show 0 < -(11/10)-s by grind) (show 0<11/10-s by grind);grind
 . refine Rat.not_lt.1 fun k=>?_
   have:=Rat.mul_pos (show 0<s-11/10 by grind) (show 0<s+11/10 by grind);grind
theorem zR {lo hi l h:Int} {r x e t:Rat} (H:InE lo hi x e) (h0:0<=l) (lh:l<=h) (hh:h<=400000) (r1:(l:Rat)-t<=r) (r2:r<=(h:Rat)+t) (he:0<=e) (ht:0<=t) (x1:-(11/10)<=x/\x<=11/10) :
 ((mnV (dM lo hi l) (dM lo hi h):Int):Rat)-(400000*e+2*t)<=r*x/\r*x<=((mxV (dI lo hi l) (dI lo hi h):Int):Rat)+(400000*e+2*t):=by
 obtain ⟨y,y1,y2,y3,y4⟩:=jV (dA lh) r1 r2 ht;have a:=ve H h0;have b:=ve H (show 0<=h by omega)
 have m1:((mnV (dM lo hi l) (dM lo hi h):Int):Rat)<=(dM lo hi l:Rat):=dA (by unfold mnV;split<;>omega)
 have m2:((mnV (dM lo hi l) (dM lo hi h):Int):Rat)<=(dM lo hi h:Rat):=dA (by unfold mnV;split<;>omega)
 have m3:(dI lo hi l:Rat)<=((mxV (dI lo hi l) (dI lo hi h):Int):Rat):=dA (by unfold mxV;split<;>omega)
 have m4:(dI lo hi h:Rat)<=((mxV (dI lo hi l) (dI lo hi h):Int):Rat):=dA (by unfold mxV;split<;>omega)
 have hb:(h:Rat)<=400000:=dA (b:=400000) hh;have lb:(l:Rat)<=400000:=dA (b:=400000) (by omega)
 have k1:=Rat.mul_nonneg (show 0<=400000-(h:Rat) by grind) he
 have k2:=Rat.mul_nonneg (show 0<=400000-(l:Rat) by grind) he
 have t1:=Rat.mul_nonneg (show 0<=t-(r-y) by grind) (show 0<=11/10-x by grind)
 have t2:=Rat.mul_nonneg (show 0<=t-(r-y) by grind) (show 0<=11/10+x by grind)
 have t3:=Rat.mul_nonneg (show 0<=t+(r-y) by grind) (show 0<=11/10-x by grind)
 have t4:=Rat.mul_nonneg (show 0<=t+(r-y) by grind) (show 0<=11/10+x by grind)
 have q1:(r-y)*x<=2*t:=by clear a b m1 m2 m3 m4 k1 k2 H;grind
 have q2:-(2*t)<=(r-y)*x:=by clear a b m1 m2 m3 m4 k1 k2 H q1;grind
 have e1:r*x=y*x+(r-y)*x:=by grind
 clear t1 t2 t3 t4 r1 r2 y3 y4
 by_cases hx:0<=x
 . have z1:=Rat.mul_nonneg (show 0<=y-(l:Rat) by grind) hx
   have z2:=Rat.mul_nonneg (show 0<=(h:Rat)-y by grind) hx
   constructor
   . clear b m2 m3 m4 z2 q1 k1;grind
   . clear a m1 m2 m3 z1 q2 k2;grind
 . have z1:=Rat.mul_nonneg (show 0<=y-(l:Rat) by grind) (show 0<=-x by grind)
   have z2:=Rat.mul_nonneg (show 0<=(h:Rat)-y by grind) (show 0<=-x by grind)
   constructor
   . clear a m1 m3 m4 z1 q1 k2;grind
   . clear b m1 m2 m4 z2 q2 k1;grind
theorem Td {a b l h:Int} {r c s:Rat} (O:Onc a b c s (8*tin)) (n:Nr (c*c+s*s) 1 del) (h0:0<=l) (lh:l<=h) (hh:h<=400000) (r1:(l:Rat)-e13<=r) (r2:r<=(h:Rat)+e13) :
 (((paV a b l h).getD 0 0:Rat)-3*e13<=r*c/\r*c<=((paV a b l h).getD 1 0:Rat)+3*e13)/\(((paV a b l h).getD 2 0:Rat)-3*e13<=r*s/\r*s<=((paV a b l h).getD 3 0:Rat)+3*e13):=by
 obtain ⟨n1,n2,n3,n4,n5,_⟩:=wB;have sc:=wV;have ob:=Wh n sc.2.2.2.1;have e0:0<=2*ee+8*tin:=by have:=bz;clear n1 n2 n3 O n;grind
 have C:=zR O.cos h0 lh hh r1 r2 e0 (Rat.le_of_lt n5) ob.1;have S:=zR O.sin h0 lh hh r1 r2 e0 (Rat.le_of_lt n5) ob.2;have w:400000*(2*ee+8*tin)+2*e13<=3*e13:=by clear C S O n;grind
 have e:(paV a b l h).getD 0 0=mnV (dM (uC a b).1 (uC a b).2 l) (dM (uC a b).1 (uC a b).2 h)/\(paV a b l h).getD 1 0=mxV (dI (uC a b).1 (uC a b).2 l) (dI (uC a b).1 (uC a b).2 h)/\(paV a b l h).getD 2 0=mnV (dM (uS a b).1 (uS a b).2 l) (dM (uS a b).1 (uS a b).2 h)/\(paV a b l h).getD 3 0=mxV (dI (uS a b).1 (uS a b).2 l) (dI (uS a b).1 (uS a b).2 h):=⟨rfl,rfl,rfl,rfl⟩;rw [e.1,e.2.1,e.2.2.1,e.2.2.2];clear e O n ob sc n1 n2 n3;refine ⟨⟨?_,?_⟩,⟨?_,?_⟩⟩
 . have:=C.1;clear C S;grind
 . have:=C.2;clear C S;grind
 . have:=S.1;clear C S;grind
 . have:=S.2;clear C S;grind
theorem Ty {R M:Rat} (hM:1<=M) (hR:0<=R) (h:R*R<=M*M+1/2*e13):R<=M+e13:=by
 have n5:=wB.2.2.2.2.1;refine Rat.not_lt.1 fun k=>?_
 have:=Rat.mul_pos (show 0<R-(M+e13) by grind) (show 0<R+(M+e13) by grind)
 have:=Rat.mul_nonneg (show 0<=M-1 by grind) (Rat.le_of_lt n5)
 have:=Rat.mul_nonneg (Rat.le_of_lt n5) (Rat.le_of_lt n5);grind
theorem PO {R M:Rat} (hM:1<=M) (hR:0<=R) (h:M*M<=R*R+1/2*e13):M-e13<=R:=by
 have n5:=wB.2.2.2.2.1;refine Rat.not_lt.1 fun k=>?_
 have a:=Rat.mul_pos (show 0<M-e13-R by grind) (show 0<M+R by grind)
 have b:=Rat.mul_nonneg (show 0<=M-1 by grind) (Rat.le_of_lt n5)
 have c:=Rat.mul_nonneg hR (Rat.le_of_lt n5);grind
theorem Wd {X Y R A B M e f g:Rat} (v:M*M<=A+B) (a:A<=X*X+1000000*e) (b:B<=Y*Y+1000000*e) (n:X*X+Y*Y-R*R<=f) (h:2000000*e+f<=g):M*M<=R*R+g:=by
 generalize X*X=x at *
 generalize Y*Y=y at *
 generalize M*M=m at *
 generalize R*R=r at *
 grind
theorem aa0 {X Y R A B M e f g:Rat} (v:A+B<=M*M) (a:X*X-1000000*e<=A) (b:Y*Y-1000000*e<=B) (n:-f<=X*X+Y*Y-R*R) (h:2000000*e+f<=g):R*R<=M*M+g:=by
 generalize X*X=x at *
 generalize Y*Y=y at *
 generalize M*M=m at *
 generalize R*R=r at *
 grind
theorem QC {n0 n1 x0 x1:Int} {X Y:Rat} (b1:-400000<=n0/\n0<=n1/\n1<=400000) (b2:-400000<=x0/\x0<=x1/\x1<=400000) (hX:X<=400000/\-400000<=X) (hY:Y<=400000/\-400000<=Y)
 (p1:(n0:Rat)-e20<=X) (p2:X<=(n1:Rat)+e20) (q1:(x0:Rat)-e20<=Y) (q2:Y<=(x1:Rat)+e20)
 (he:∀ z:Rat,True) (P1:InE (4096*n0) (4096*n1) (4096*u30*X) (4096*u30*(2000000*ee))) (Q1:InE (4096*x0) (4096*x1) (4096*u30*Y) (4096*u30*(2000000*ee))) :
 ∃ r c s:Rat,0<=r/\X=r*c/\Y=r*s/\Nr (c*c+s*s) 1 del/\Onc ((coV n0 n1 x0 x1).getD 0 0) ((coV n0 n1 x0 x1).getD 1 0) c s (8*tin)/\((coV n0 n1 x0 x1).getD 2 0:Rat)-e13<=r/\r<=((coV n0 n1 x0 x1).getD 3 0:Rat)+e13:=by
 obtain ⟨m1,m2,m3,m4,m5,_,_,_,m9⟩:=wB;have up:=dU
 obtain ⟨r,c,s,r0,ex,ey,⟨n,_⟩,O⟩:=ze (yl:=4096*x0) (yh:=4096*x1) (xl:=4096*n0) (xh:=4096*n1) (by omega) (by omega) (by omega) (by omega) P1 Q1 (by
  have t:1073741824*(4096*u30*(2000000*ee))<=eta:=by rw [dY];unfold ee eta;decide +kernel
  exact t)
 have k0:(0:Rat)<4096*u30:=by clear P1 Q1 n O ex ey;grind
 have hi:(4096*u30)*(4096*u30)⁻¹=1:=Rat.mul_inv_cancel _ (by clear P1 Q1 n O ex ey;grind)
 have i0:0<(4096*u30)⁻¹:=Rat.inv_pos.2 k0
 have X1:X=r*(4096*u30)⁻¹*c:=by
  have:X=(4096*u30)⁻¹*(4096*u30*X):=by rw [<-Rat.mul_assoc,Rat.mul_comm _ (4096*u30),hi,Rat.one_mul]
  rw [this,ex];clear P1 Q1 n O ex ey;grind
 have Y1:Y=r*(4096*u30)⁻¹*s:=by
  have:Y=(4096*u30)⁻¹*(4096*u30*Y):=by rw [<-Rat.mul_assoc,Rat.mul_comm _ (4096*u30),hi,Rat.one_mul]
  rw [this,ey];clear P1 Q1 n O ex ey;grind
 have R0:0<=r*(4096*u30)⁻¹:=Rat.mul_nonneg r0 (Rat.le_of_lt i0);clear ex ey P1 Q1 hi i0 k0 up;generalize r*(4096*u30)⁻¹=R at *
 have lA:=sH b1 hX.1 hX.2 (Rat.le_of_lt m4) p1 p2;have lB:=sH b2 hY.1 hY.2 (Rat.le_of_lt m4) q1 q2;have l1:=kJ b1;have l2:=kJ b2;have g1':=kG b1;have g2':=kG b2;have k1:=uI l1.1 l1.2;have k2:=uI l2.1 l2.2;have k3:=uI g1'.1 g1'.2;have k4:=uI g2'.1 g2'.2;have V:=su (bM n0 n1*bM n0 n1+bM x0 x1*bM x0 x1) (by omega) (by omega)
 have W:=Ma (bG n0 n1*bG n0 n1+bG x0 x1*bG x0 x1) (by omega) (by omega)
 have eV:(coV n0 n1 x0 x1).getD 2 0=rtV (bM n0 n1*bM n0 n1+bM x0 x1*bM x0 x1):=rfl;have eW:(coV n0 n1 x0 x1).getD 3 0=rtU (bG n0 n1*bG n0 n1+bG x0 x1*bG x0 x1):=rfl;refine ⟨R,c,s,R0,X1,Y1,n,O,?_,?_⟩
 all_goals
  have dl:400000*400000*del<=1/10*e13/\4000000*e20<=1/10*e13:=by unfold del e13 e20;decide +kernel
  have nrm:Nr (X*X+Y*Y) (R*R) (R*R*del):=by
   have e:X*X+Y*Y=R*R*(c*c+s*s):=by rw [X1,Y1];clear lA lB n p1 p2 q1 q2;grind
   rw [e];unfold Nr at *
   have a:=Rat.mul_nonneg (bT R) (show 0<=del-(c*c+s*s-1) by clear lA lB;grind)
   have b:=Rat.mul_nonneg (bT R) (show 0<=del+(c*c+s*s-1) by clear lA lB;grind)
   clear e n lA lB;constructor<;>grind
  have xb:=Rat.mul_nonneg (show 0<=400000-X by grind) (show 0<=400000+X by grind)
  have yb:=Rat.mul_nonneg (show 0<=400000-Y by grind) (show 0<=400000+Y by grind)
  have Rb:R*R<=4*(400000*400000):=by
   unfold Nr at nrm;have:=wV.2.2.2.1;have z:=Rat.mul_nonneg (bT R) (show 0<=1/100-del by clear nrm lA lB n;grind)
   clear lA lB n;grind
  have rd:=Rat.mul_nonneg (show 0<=4*(400000*400000)-R*R by clear lA lB n nrm;grind) wV.2.1
  unfold Nr at nrm
 . rw [eV];have v1:((rtV (bM n0 n1*bM n0 n1+bM x0 x1*bM x0 x1)*rtV (bM n0 n1*bM n0 n1+bM x0 x1*bM x0 x1):Int):Rat)<=((bM n0 n1*bM n0 n1+bM x0 x1*bM x0 x1:Int):Rat):=dA V.2.1;have v0:((0:Int):Rat)<=(rtV (bM n0 n1*bM n0 n1+bM x0 x1*bM x0 x1):Rat):=dA V.1;rw [show ((0:Int):Rat)=0 from rfl] at v0
   rw [Rat.intCast_mul,Rat.intCast_add] at v1
   by_cases z:rtV (bM n0 n1*bM n0 n1+bM x0 x1*bM x0 x1)=0
   . rw [z,show ((0:Int):Rat)=0 from rfl];clear lA lB n nrm v1 v0;grind
   . have o:((1:Int):Rat)<=(rtV (bM n0 n1*bM n0 n1+bM x0 x1*bM x0 x1):Rat):=dA (by omega)
     rw [show ((1:Int):Rat)=1 from rfl] at o
     have lA1:=lA.1;have lB1:=lB.1;clear lA lB p1 p2 q1 q2 n V W eV eW k1 k2 k3 k4 l1 l2 g1' g2' b1 b2 z v0;generalize ((bM n0 n1*bM n0 n1:Int):Rat)=A at *
     generalize ((bM x0 x1*bM x0 x1:Int):Rat)=B at *
     generalize (rtV (bM n0 n1*bM n0 n1+bM x0 x1*bM x0 x1):Rat)=M at *
     exact PO o R0 (Wd v1 lA1 lB1 nrm.2 (by clear v1 lA1 lB1 nrm o xb yb hX hY X1 Y1;grind))
 . rw [eW];have w1:((bG n0 n1*bG n0 n1+bG x0 x1*bG x0 x1:Int):Rat)<=((rtU (bG n0 n1*bG n0 n1+bG x0 x1*bG x0 x1)*rtU (bG n0 n1*bG n0 n1+bG x0 x1*bG x0 x1):Int):Rat):=dA W.2.1;rw [Rat.intCast_mul,Rat.intCast_add] at w1
   by_cases z:rtU (bG n0 n1*bG n0 n1+bG x0 x1*bG x0 x1)=0
   . rw [z,show ((0:Int):Rat)=0 from rfl]
     have W2:=W.2.1;rw [z] at W2
     have f:bG n0 n1=0/\bG x0 x1=0:=by
      have a:=Int.mul_nonneg g1'.1 g1'.1;have b:=Int.mul_nonneg g2'.1 g2'.1;have a0:bG n0 n1*bG n0 n1=0:=by omega
      have b0:bG x0 x1*bG x0 x1=0:=by omega
      exact ⟨by rcases Int.mul_eq_zero.1 a0 with h|h<;>exact h,by rcases Int.mul_eq_zero.1 b0 with h|h<;>exact h⟩
     have z1:n0=0/\n1=0:=by have:=f.1;unfold bG at this;omega
     have z2:x0=0/\x1=0:=by have:=f.2;unfold bG at this;omega
     rw [z1.1,show ((0:Int):Rat)=0 from rfl] at p1
     rw [z1.2,show ((0:Int):Rat)=0 from rfl] at p2
     rw [z2.1,show ((0:Int):Rat)=0 from rfl] at q1
     rw [z2.2,show ((0:Int):Rat)=0 from rfl] at q2
     clear lA lB n V W W2 eV eW k1 k2 k3 k4 l1 l2 g1' g2' b1 b2 z z1 z2 w1 f;have a:=Rat.mul_nonneg (show 0<=e20-X by grind) (show 0<=e20+X by grind)
     have b:=Rat.mul_nonneg (show 0<=e20-Y by grind) (show 0<=e20+Y by grind)
     refine Rat.not_lt.1 fun k=>?_
     have d:=Rat.mul_pos (show 0<R-10*e20 by grind) (show 0<R+10*e20 by grind)
     have t:=Rat.mul_nonneg (bT R) (show 0<=1/100-del by have:=wV.2.2.2.1;clear a b d nrm;grind)
     have e2:=Rat.mul_pos m4 m4;clear xb yb Rb hX hY rd;grind
   . have o:((1:Int):Rat)<=(rtU (bG n0 n1*bG n0 n1+bG x0 x1*bG x0 x1):Rat):=dA (by have:=W.1;omega)
     rw [show ((1:Int):Rat)=1 from rfl] at o
     have lA1:=lA.2;have lB1:=lB.2;clear lA lB p1 p2 q1 q2 n V W eV eW k1 k2 k3 k4 l1 l2 g1' g2' b1 b2 z;generalize ((bG n0 n1*bG n0 n1:Int):Rat)=A at *
     generalize ((bG x0 x1*bG x0 x1:Int):Rat)=B at *
     generalize (rtU (bG n0 n1*bG n0 n1+bG x0 x1*bG x0 x1):Rat)=M at *
     exact Ty o R0 (aa0 w1 lA1 lB1 nrm.1 (by clear w1 lA1 lB1 nrm o xb yb hX hY X1 Y1;grind))
theorem ND {n0 n1 x0 x1 c v:Int} {e:Rat} (ep:0<=e) (e1:2000000*e<=1/1000) (e2:4096*e<=1/40000000) (b1:-400000<=n0/\n0<=n1/\n1<=400000) (b2:-400000<=x0/\x0<=x1/\x1<=400000) (hv:0<=v/\v<=400000)
 (p1:(n0:Rat)-e<=v*cg c) (p2:(v:Rat)*cg c<=(n1:Rat)+e) (q1:(x0:Rat)-e<=v*sg c) (q2:(v:Rat)*sg c<=(x1:Rat)+e) :
 ((coV n0 n1 x0 x1).getD 2 0<=v/\v<=(coV n0 n1 x0 x1).getD 3 0)/\(fK (4096*x0) (4096*x1) (4096*n0) (4096*n1)=false->(c-(coV n0 n1 x0 x1).getD 0 0)%21600000<=(coV n0 n1 x0 x1).getD 1 0-(coV n0 n1 x0 x1).getD 0 0):=by
 obtain ⟨oc,os⟩:=g1 c;have v0:(0:Rat)<=v:=Rat.intCast_le_intCast.2 hv.1;have v4:(v:Rat)<=400000:=Rat.intCast_le_intCast.2 hv.2;have n1':=o1m oc (show -(400000:Rat)<=v by grind) v4
 have n2':=o1m os (show -(400000:Rat)<=v by grind) v4
 rw [Rat.mul_comm] at n1' n2'
 refine ⟨⟨?_,?_⟩,fun ho=>?_⟩
 . have a:=(sH b1 n1'.2 n1'.1 ep p1 p2).1;have b:=(sH b2 n2'.2 n2'.1 ep q1 q2).1;have u:=congrArg (·*((v:Rat)*v)) (cO c)
   have s:((bM n0 n1*bM n0 n1+bM x0 x1*bM x0 x1:Int):Rat)<((v*v+1:Int):Rat):=by
    rw [Rat.intCast_add,Rat.intCast_add,Rat.intCast_mul v v,show ((1:Int):Rat)=1 from rfl]
    clear p1 p2 q1 q2 b1 b2 hv n1' n2' oc os;generalize ((bM n0 n1*bM n0 n1:Int):Rat)=A at *
    generalize ((bM x0 x1*bM x0 x1:Int):Rat)=B at *
    grind
   have s':=Rat.intCast_lt_intCast.1 s;have l1:=kJ b1;have l2:=kJ b2;have k1:=uI l1.1 l1.2;have k2:=uI l2.1 l2.2;exact Xq (by omega) (by omega) hv.1 (by omega)
 . have a:=(sH b1 n1'.2 n1'.1 ep p1 p2).2;have b:=(sH b2 n2'.2 n2'.1 ep q1 q2).2;have u:=congrArg (·*((v:Rat)*v)) (cO c)
   have s:((v*v-1:Int):Rat)<((bG n0 n1*bG n0 n1+bG x0 x1*bG x0 x1:Int):Rat):=by
    rw [Rat.intCast_add,Rat.intCast_sub,Rat.intCast_mul v v,show ((1:Int):Rat)=1 from rfl]
    clear p1 p2 q1 q2 b1 b2 hv n1' n2' oc os;generalize ((bG n0 n1*bG n0 n1:Int):Rat)=A at *
    generalize ((bG x0 x1*bG x0 x1:Int):Rat)=B at *
    grind
   have s':=Rat.intCast_lt_intCast.1 s;have l1:=kG b1;have l2:=kG b2;have k1:=uI l1.1 l1.2;have k2:=uI l2.1 l2.2;exact Xy (by omega) (by omega) hv.1 (by omega)
 . have z:∀ n:Int,((4096*n:Int):Rat)=4096*(n:Rat):=fun n=>by rw [Rat.intCast_mul];rfl
   refine bear_holds (yl:=4096*x0) (yh:=4096*x1) (xl:=4096*n0) (xh:=4096*n1) (c:=c) (r:=4096*v) (by omega) (by omega) (by omega) (by omega) ho (by grind) ?_ ?_ ?_ ?_
   all_goals
    rw [z];clear hv b1 b2 z ho oc os n1' n2'
    grind
theorem DZ {a b c d:Int} {x y e f:Rat} (h1:(a:Rat)-e<=x/\x<=(b:Rat)+e) (h2:(c:Rat)-f<=y/\y<=(d:Rat)+f):((a-d:Int):Rat)-(e+f)<=x-y/\x-y<=((b-c:Int):Rat)+(e+f):=by
 rw [Rat.intCast_sub,Rat.intCast_sub]
 constructor<;>grind
theorem DU {a b c d:Int} {x y e f:Rat} (h1:(a:Rat)-e<=x/\x<=(b:Rat)+e) (h2:(c:Rat)-f<=y/\y<=(d:Rat)+f):((a+c:Int):Rat)-(e+f)<=x+y/\x+y<=((b+d:Int):Rat)+(e+f):=by
 rw [Rat.intCast_add,Rat.intCast_add]
 constructor<;>grind
theorem Gi {a b:Int} {x e:Rat} (h:(a:Rat)-e<=x/\x<=(b:Rat)+e):InE (4096*a) (4096*b) (4096*u30*x) (4096*u30*e):=by
 have up:=dU;have z:∀ n:Int,((4096*n:Int):Rat)=4096*(n:Rat):=fun n=>by rw [Rat.intCast_mul];rfl
 unfold InE;rw [z,z];have k1:=Rat.mul_nonneg (Rat.le_of_lt up) (show 0<=x-((a:Rat)-e) by grind)
 have k2:=Rat.mul_nonneg (Rat.le_of_lt up) (show 0<=(b:Rat)+e-x by grind)
 constructor<;>grind
theorem Au {v c:Rat} {w:Int} (h0:0<=v) (h:v<=200000) (o:O1 c):-200000<=v*c/\v*c<=200000:=by
 unfold O1 at o;have a:=Rat.mul_nonneg h0 (show 0<=1-c by grind)
 have b:=Rat.mul_nonneg h0 (show 0<=1+c by grind)
 constructor<;>grind
theorem Cr {a b l h p q u w:Int} (h1:MV a b l h) (h2:MV p q u w) (M F:List Int) (hM:M=coS (paV a b l h) (paV p q u w)) (hF:F=coD (paV (M.getD 0 0) (M.getD 1 0) (M.getD 2 0) (M.getD 3 0)) (paV a b l h)) (m0:0<=M.getD 2 0) (m1:M.getD 2 0<=M.getD 3 0) (m2:M.getD 3 0<=200000) (bF:(-400000<=(paV (M.getD 0 0) (M.getD 1 0) (M.getD 2 0) (M.getD 3 0)).getD 0 0-(paV a b l h).getD 1 0/\(paV (M.getD 0 0) (M.getD 1 0) (M.getD 2 0) (M.getD 3 0)).getD 0 0-(paV a b l h).getD 1 0<=(paV (M.getD 0 0) (M.getD 1 0) (M.getD 2 0) (M.getD 3 0)).getD 1 0-(paV a b l h).getD 0 0/\(paV (M.getD 0 0) (M.getD 1 0) (M.getD 2 0) (M.getD 3 0)).getD 1 0-(paV a b l h).getD 0 0<=400000)/\(-400000<=(paV (M.getD 0 0) (M.getD 1 0) (M.getD 2 0) (M.getD 3 0)).getD 2 0-(paV a b l h).getD 3 0/\(paV (M.getD 0 0) (M.getD 1 0) (M.getD 2 0) (M.getD 3 0)).getD 2 0-(paV a b l h).getD 3 0<=(paV (M.getD 0 0) (M.getD 1 0) (M.getD 2 0) (M.getD 3 0)).getD 3 0-(paV a b l h).getD 2 0/\(paV (M.getD 0 0) (M.getD 1 0) (M.getD 2 0) (M.getD 3 0)).getD 3 0-(paV a b l h).getD 2 0<=400000))
 (bS:(-400000<=(paV a b l h).getD 0 0+(paV p q u w).getD 0 0/\(paV a b l h).getD 0 0+(paV p q u w).getD 0 0<=(paV a b l h).getD 1 0+(paV p q u w).getD 1 0/\(paV a b l h).getD 1 0+(paV p q u w).getD 1 0<=400000)/\(-400000<=(paV a b l h).getD 2 0+(paV p q u w).getD 2 0/\(paV a b l h).getD 2 0+(paV p q u w).getD 2 0<=(paV a b l h).getD 3 0+(paV p q u w).getD 3 0/\(paV a b l h).getD 3 0+(paV p q u w).getD 3 0<=400000)) :
 (F.getD 2 0<=u/\w<=F.getD 3 0)/\((F.getD 0 0=0/\F.getD 1 0=21600000)∨(F.getD 1 0-F.getD 0 0<=10800001/\(p-F.getD 0 0)%21600000+(q-p)<=F.getD 1 0-F.getD 0 0)):=by
 obtain ⟨n1,n2,n3,n4,n5,n6,n7,n8,n9⟩:=wB;have e0:=bz;have vab:=(cK a b).1 h1.1;have vpq:=(cK p q).1 h2.1;have A:=Hm (a:=a) (b:=b) (l:=l) (h:=h) (c:=a) (v:=l) ⟨Int.le_refl _,vab.2.1⟩ h1.2.1 ⟨Int.le_refl _,h1.2.2.1⟩ (by omega)
 have l0:(0:Rat)<=l:=dA (a:=0) h1.2.1;have l2:(l:Rat)<=200000:=dA (b:=200000) (by omega)
 have K:∀ c v:Int,(p<=c/\c<=q)->(u<=v/\v<=w)->(F.getD 2 0<=v/\v<=F.getD 3 0)/\(fK (4096*((paV (M.getD 0 0) (M.getD 1 0) (M.getD 2 0) (M.getD 3 0)).getD 2 0-(paV a b l h).getD 3 0)) (4096*((paV (M.getD 0 0) (M.getD 1 0) (M.getD 2 0) (M.getD 3 0)).getD 3 0-(paV a b l h).getD 2 0)) (4096*((paV (M.getD 0 0) (M.getD 1 0) (M.getD 2 0) (M.getD 3 0)).getD 0 0-(paV a b l h).getD 1 0)) (4096*((paV (M.getD 0 0) (M.getD 1 0) (M.getD 2 0) (M.getD 3 0)).getD 1 0-(paV a b l h).getD 0 0))=false->(c-F.getD 0 0)%21600000<=F.getD 1 0-F.getD 0 0):=fun c v hc hv=>by
  have B:=Hm (a:=p) (b:=q) (l:=u) (h:=w) (c:=c) (v:=v) hc h2.2.1 hv (by omega)
  have v0:(0:Rat)<=v:=dA (a:=0) (by omega)
  have v2:(v:Rat)<=200000:=dA (b:=200000) (by omega)
  have a1:=Au (w:=0) l0 l2 (g1 a).1;have a2:=Au (w:=0) l0 l2 (g1 a).2;have b1:=Au (w:=0) v0 v2 (g1 c).1;have b2:=Au (w:=0) v0 v2 (g1 c).2;have SX:=DU A.1 B.1;have SY:=DU A.2 B.2;have w2:1000000*ee+1000000*ee=2000000*ee:=by clear A B SX SY a1 a2 b1 b2;grind
  rw [w2] at SX SY;have w3:2000000*ee<=e20:=by unfold ee e20;decide +kernel
  obtain ⟨r,cc,ss,r0,eX,eY,nn,O,r1,r2⟩:=QC (X:=l*cg a+v*cg c) (Y:=l*sg a+v*sg c) bS.1 bS.2 (by clear A B SX SY a2 b2;constructor<;>grind) (by clear A B SX SY a1 b1;constructor<;>grind) (by have:=SX.1;clear A B SX SY a1 a2 b1 b2;grind) (by have:=SX.2;clear A B SX SY a1 a2 b1 b2;grind) (by have:=SY.1;clear A B SX SY a1 a2 b1 b2;grind) (by have:=SY.2;clear A B SX SY a1 a2 b1 b2;grind) (fun _=>trivial) (Gi SX) (Gi SY)
  have eS:coV ((paV a b l h).getD 0 0+(paV p q u w).getD 0 0) ((paV a b l h).getD 1 0+(paV p q u w).getD 1 0) ((paV a b l h).getD 2 0+(paV p q u w).getD 2 0) ((paV a b l h).getD 3 0+(paV p q u w).getD 3 0)=M:=by rw [hM];rfl
  rw [eS] at O r1 r2;have P:=Td O nn m0 m1 (by omega) r1 r2
  rw [<-eX,<-eY] at P;have DX:=DZ P.1 A.1;have DY:=DZ P.2 A.2;have f1:(l:Rat)*cg a+v*cg c-l*cg a=v*cg c:=by clear P A B SX SY DX DY a1 a2 b1 b2 eX eY;grind
  have f2:(l:Rat)*sg a+v*sg c-l*sg a=v*sg c:=by clear P A B SX SY DX DY a1 a2 b1 b2 eX eY;grind
  rw [f1] at DX;rw [f2] at DY;have T:=ND (c:=c) (v:=v) (e:=e12) (by unfold e12;decide +kernel) n7 n8 bF.1 bF.2 (by omega) (by have:=DX.1;clear A B SX SY DX DY P a1 a2 b1 b2;grind) (by have:=DX.2;clear A B SX SY DX DY P a1 a2 b1 b2;grind) (by have:=DY.1;clear A B SX SY DX DY P a1 a2 b1 b2;grind) (by have:=DY.2;clear A B SX SY DX DY P a1 a2 b1 b2;grind)
  have eF:coV ((paV (M.getD 0 0) (M.getD 1 0) (M.getD 2 0) (M.getD 3 0)).getD 0 0-(paV a b l h).getD 1 0) ((paV (M.getD 0 0) (M.getD 1 0) (M.getD 2 0) (M.getD 3 0)).getD 1 0-(paV a b l h).getD 0 0) ((paV (M.getD 0 0) (M.getD 1 0) (M.getD 2 0) (M.getD 3 0)).getD 2 0-(paV a b l h).getD 3 0) ((paV (M.getD 0 0) (M.getD 1 0) (M.getD 2 0) (M.getD 3 0)).getD 3 0-(paV a b l h).getD 2 0)=F:=by rw [hF];rfl
  rw [eF] at T;exact T
 refine ⟨⟨(K p u (by omega) (by omega)).1.1,(K p w (by omega) (by omega)).1.2⟩,?_⟩
 have eF0:F.getD 0 0=aV (4096*((paV (M.getD 0 0) (M.getD 1 0) (M.getD 2 0) (M.getD 3 0)).getD 2 0-(paV a b l h).getD 3 0)) (4096*((paV (M.getD 0 0) (M.getD 1 0) (M.getD 2 0) (M.getD 3 0)).getD 3 0-(paV a b l h).getD 2 0)) (4096*((paV (M.getD 0 0) (M.getD 1 0) (M.getD 2 0) (M.getD 3 0)).getD 0 0-(paV a b l h).getD 1 0)) (4096*((paV (M.getD 0 0) (M.getD 1 0) (M.getD 2 0) (M.getD 3 0)).getD 1 0-(paV a b l h).getD 0 0)):=by rw [hF];rfl
 have eF1:F.getD 1 0=bI (4096*((paV (M.getD 0 0) (M.getD 1 0) (M.getD 2 0) (M.getD 3 0)).getD 2 0-(paV a b l h).getD 3 0)) (4096*((paV (M.getD 0 0) (M.getD 1 0) (M.getD 2 0) (M.getD 3 0)).getD 3 0-(paV a b l h).getD 2 0)) (4096*((paV (M.getD 0 0) (M.getD 1 0) (M.getD 2 0) (M.getD 3 0)).getD 0 0-(paV a b l h).getD 1 0)) (4096*((paV (M.getD 0 0) (M.getD 1 0) (M.getD 2 0) (M.getD 3 0)).getD 1 0-(paV a b l h).getD 0 0)):=by rw [hF];rfl
 clear A hF hM;generalize (paV (M.getD 0 0) (M.getD 1 0) (M.getD 2 0) (M.getD 3 0)).getD 2 0-(paV a b l h).getD 3 0=y0 at *
 generalize (paV (M.getD 0 0) (M.getD 1 0) (M.getD 2 0) (M.getD 3 0)).getD 3 0-(paV a b l h).getD 2 0=y1 at *
 generalize (paV (M.getD 0 0) (M.getD 1 0) (M.getD 2 0) (M.getD 3 0)).getD 0 0-(paV a b l h).getD 1 0=z0 at *
 generalize (paV (M.getD 0 0) (M.getD 1 0) (M.getD 2 0) (M.getD 3 0)).getD 1 0-(paV a b l h).getD 0 0=z1 at *
 cases ho:fK (4096*y0) (4096*y1) (4096*z0) (4096*z1)
 . right
   have wd:F.getD 1 0-F.getD 0 0<=10800001:=by rw [eF0,eF1];exact mV (by omega) (by omega) (by omega) (by omega) ho
   refine ⟨wd,?_⟩;have s:=yT (L:=F.getD 0 0) (H:=F.getD 1 0) (a:=p) (by omega) (q-p).toNat (fun c h1 h2=>(K c u (by omega) (by omega)).2 ho)
   have:((q-p).toNat:Int)=q-p:=Int.toNat_of_nonneg (by omega)
   omega
 . left
   exact ⟨by rw [eF0];unfold aV;rw [ho];rfl,by rw [eF1];unfold bI;rw [ho];rfl⟩
