/- Plain: the leg of the difference of latitude and of the departure of a leg contains it. -/
import Derived.Test.YtmldbeipmappnaaZLgo
import Derived.Test.YtmldbeipmappnaaZDs
import Derived.Test.YtmldbeipmappnaaZTrc
import Derived.Test.YtmldbeipmappnaaZRefP
set_option linter.unusedVariables false
set_option linter.unusedSimpArgs false
namespace Go.Proofs.Ytmldbeipmappnaa
open Go.RowKit Alm Sx
theorem aiz {P d q:Int} (hd:0<d) (h:q=P/d):q*d<=P/\P<q*d+d:=by
 have a:=Int.ediv_mul_le P (b:=d) (by omega)
 have b:=Int.lt_ediv_add_one_mul_self P hd;rw [<-h] at a b;rw [Int.add_mul,Int.one_mul] at b;exact ⟨a,b⟩
theorem aiN {P d q:Int} (hd:0<d) (h:q=-(-P/d)):P<=q*d/\q*d<P+d:=by
 have a:=aiz (P:=-P) (d:=d) (q:=-q) hd (by rw [h];omega)
 rw [Int.neg_mul] at a;omega
theorem ah6 {p q:Int} (h:p<=q):(p:Rat)<=(q:Rat):=Rat.intCast_le_intCast.2 h
theorem ajr {a b:Int} {x y:Rat} (h1:(a:Rat)*u30<=x) (h2:x<=(b:Rat)*u30) (hy:x<=y) (hy2:-x<=y) :
 (sqL a b:Rat)*u30<=x*x/\x*x<=(sqH a b:Rat)*u30/\(sqH a b:Rat)*u30-(sqL a b:Rat)*u30<=((b:Rat)*u30-(a:Rat)*u30)*(2*y+2*((b:Rat)*u30-(a:Rat)*u30))+2*u30:=by
 have up:=dU;have u1:=fe
 have conv:∀ s t:Int,s*1073741824<=t->(s:Rat)*u30<=(t:Rat)*(u30*u30):=fun s t h=>by
  have c:=ah6 h;rw [Rat.intCast_mul,show ((1073741824:Int):Rat)=1073741824 from rfl] at c
  have k:=Rat.mul_nonneg (Rat.mul_nonneg (Rat.le_of_lt up) (Rat.le_of_lt up)) (show 0<=(t:Rat)-(s:Rat)*1073741824 by clear h1 h2 hy hy2;grind)
  have e:(s:Rat)*1073741824*(u30*u30)=(s:Rat)*u30*(1073741824*u30):=by clear h1 h2 hy hy2 k c;grind
  rw [u1,Rat.mul_one] at e;clear h1 h2 hy hy2 c;grind
 have conv2:∀ s t:Int,t<=s*1073741824->(t:Rat)*(u30*u30)<=(s:Rat)*u30:=fun s t h=>by
  have k:=conv (-s) (-t) (by omega)
  rw [Rat.intCast_neg,Rat.intCast_neg] at k;clear h1 h2 hy hy2;grind
 have sq:∀ s:Int,((s*s:Int):Rat)*(u30*u30)=((s:Rat)*u30)*((s:Rat)*u30):=fun s=>by rw [Rat.intCast_mul];clear h1 h2 hy hy2;grind
 have lh:((sqL a b+1:Int):Rat)*u30=(sqL a b:Rat)*u30+u30:=by rw [Rat.intCast_add,show ((1:Int):Rat)=1 from rfl];clear h1 h2 hy hy2;grind
 have hl:((sqH a b-1:Int):Rat)*u30=(sqH a b:Rat)*u30-u30:=by rw [Rat.intCast_sub,show ((1:Int):Rat)=1 from rfl];clear h1 h2 hy hy2;grind
 have H:max (a*a) (b*b)<=sqH a b*1073741824/\sqH a b*1073741824<max (a*a) (b*b)+1073741824:=aiN (by decide) rfl
 have ha:=conv2 (sqH a b) (a*a) (by omega)
 have hb:=conv2 (sqH a b) (b*b) (by omega)
 rw [sq] at ha hb;have mx:max (a*a) (b*b)=a*a∨max (a*a) (b*b)=b*b:=by omega
 have hu:(sqH a b:Rat)*u30<=((a:Rat)*u30)*((a:Rat)*u30)+u30∨(sqH a b:Rat)*u30<=((b:Rat)*u30)*((b:Rat)*u30)+u30:=by
  rcases mx with m|m
  . left;have k:=conv (sqH a b-1) (a*a) (by omega);rw [hl,sq] at k;clear h1 h2 hy hy2 ha hb;grind
  . right;have k:=conv (sqH a b-1) (b*b) (by omega);rw [hl,sq] at k;clear h1 h2 hy hy2 ha hb;grind
 clear H mx
 by_cases z:a<=0/\0<=b
 . have L:sqL a b=0:=by unfold sqL;rw [if_pos z];rfl
   rw [L,show ((0:Int):Rat)=0 from rfl,Rat.zero_mul] at *
   have a0:(a:Rat)*u30<=0:=by have:=zt z.1;rw [show ((0:Int):Rat)=0 from rfl,Rat.zero_mul] at this;exact this
   have b0:0<=(b:Rat)*u30:=by have:=zt z.2;rw [show ((0:Int):Rat)=0 from rfl,Rat.zero_mul] at this;exact this
   clear conv conv2 sq lh hl z L
   generalize (a:Rat)*u30=A at *
   generalize (b:Rat)*u30=B at *
   generalize (sqH a b:Rat)*u30=Q at *
   have xx:=bT x;have y0:0<=y:=by grind
   refine ⟨by grind,?_,?_⟩
   . by_cases k:0<=x
     . have:=Rat.mul_nonneg (show 0<=B-x by grind) (show 0<=B+x by grind);clear hu ha;grind
     . have:=Rat.mul_nonneg (show 0<=x-A by grind) (show 0<=-(A+x) by grind);clear hu hb;grind
   . have k1:=Rat.mul_nonneg (show 0<=B-A by grind) y0
     have k2:=Rat.mul_nonneg b0 (show 0<=-A by grind)
     have k3:=bT A;have k4:=bT B;rcases hu with hu|hu
     . clear ha hb;grind
     . clear ha hb;grind
 . have L:sqL a b*1073741824<=min (a*a) (b*b)/\min (a*a) (b*b)<sqL a b*1073741824+1073741824:=aiz (by decide) (by unfold sqL;rw [if_neg z])
   have la:=conv (sqL a b) (a*a) (by omega)
   have lb:=conv (sqL a b) (b*b) (by omega)
   rw [sq] at la lb;have mn:min (a*a) (b*b)=a*a∨min (a*a) (b*b)=b*b:=by omega
   have lu:((a:Rat)*u30)*((a:Rat)*u30)-u30<=(sqL a b:Rat)*u30∨((b:Rat)*u30)*((b:Rat)*u30)-u30<=(sqL a b:Rat)*u30:=by
    rcases mn with m|m
    . left;have k:=conv2 (sqL a b+1) (a*a) (by omega);rw [lh,sq] at k;clear h1 h2 hy hy2 ha hb hu la lb;grind
    . right;have k:=conv2 (sqL a b+1) (b*b) (by omega);rw [lh,sq] at k;clear h1 h2 hy hy2 ha hb hu la lb;grind
   have side:(0:Rat)<=(a:Rat)*u30∨(b:Rat)*u30<=0:=by
    by_cases q:0<=a
    . left;have:=zt q;rw [show ((0:Int):Rat)=0 from rfl,Rat.zero_mul] at this;exact this
    . right;have:=zt (show b<=0 by omega);rw [show ((0:Int):Rat)=0 from rfl,Rat.zero_mul] at this;exact this
   clear conv conv2 sq lh hl L mn z
   generalize (a:Rat)*u30=A at *
   generalize (b:Rat)*u30=B at *
   generalize (sqH a b:Rat)*u30=Q at *
   generalize (sqL a b:Rat)*u30=P at *
   rcases side with s|s
   . have k1:=Rat.mul_nonneg (show 0<=x-A by grind) (show 0<=A+x by grind)
     have k2:=Rat.mul_nonneg (show 0<=B-x by grind) (show 0<=B+x by grind)
     have k3:=Rat.mul_nonneg (show 0<=B-A by grind) (show 0<=y-A by grind)
     have k4:=Rat.mul_nonneg (show 0<=B-A by grind) (show 0<=B-A by grind)
     have k5:=Rat.mul_nonneg (show 0<=B-A by grind) s
     refine ⟨by clear hu lu ha hb lb k2 k3 k4 k5;grind,by clear hu lu ha la lb k1 k3 k4 k5;grind,?_⟩
     rcases hu with hu|hu<;>rcases lu with lu|lu<;>(clear ha hb la lb k1 k2;grind)
   . have k1:=Rat.mul_nonneg (show 0<=B-x by grind) (show 0<=-(B+x) by grind)
     have k2:=Rat.mul_nonneg (show 0<=x-A by grind) (show 0<=-(A+x) by grind)
     have k3:=Rat.mul_nonneg (show 0<=B-A by grind) (show 0<=y+B by grind)
     have k4:=Rat.mul_nonneg (show 0<=B-A by grind) (show 0<=B-A by grind)
     have k5:=Rat.mul_nonneg (show 0<=B-A by grind) (show 0<=-B by grind)
     refine ⟨by clear hu lu ha hb la k2 k3 k4 k5;grind,by clear hu lu hb la lb k1 k3 k4 k5;grind,?_⟩
     rcases hu with hu|hu<;>rcases lu with lu|lu<;>(clear ha hb la lb k1 k2;grind)
theorem ajx {x q:Rat} (h:x*x<=q*q) (hq:0<=q):x<=q/\-x<=q:=by
 constructor
 . refine Rat.not_lt.1 fun k=>?_
   have:=Rat.mul_pos (show 0<x-q by grind) (show 0<x+q by grind);grind
 . refine Rat.not_lt.1 fun k=>?_
   have:=Rat.mul_pos (show 0 < -x-q by grind) (show 0 < -x+q by grind);grind
def mt:Rat:=1/100000000000000000000000000000000000
theorem ais:0<mt/\1000*mt<=1/1000000000000000/\8796093022208*mt<=1/1000000000000000/\2199023255552*(1073741824*(4*ee))<=mt/\4398046511104*(2*ee)<=mt:=by unfold mt ee;decide +kernel
theorem ajK {S0 S1 R0 R1:Int} {q D m:Rat} (eR0:R0=rtL S0 S1) (eR1:R1=rtH S0 S1) (hS:0<=S0/\S0<=S1/\S1<=2147483648) (q1:1<=q) (q2:q<=2) (lo:(S0:Rat)*u30<=q*q+16*mt) (hi:q*q-16*mt<=(S1:Rat)*u30) :
 0<=R0/\R0<=R1/\(R0:Rat)*u30<=q+16*mt/\q-16*mt<=(R1:Rat)*u30/\(S0:Rat)*u30<=((R0:Rat)*u30+u30)*((R0:Rat)*u30+u30)/\((R1:Rat)*u30-u30)*((R1:Rat)*u30-u30)<=(S1:Rat)*u30+u30*u30:=by
 have up:=dU;have u1:=fe;have mo:=ais;have L:=su (max 0 S0*1073741824) (by omega) (by omega)
 have H:=su (S1*1073741824) (by omega) (by omega)
 have mx:max 0 S0=S0:=by omega
 have e0:R0=rtV (S0*1073741824):=by rw [eR0];unfold rtL;rw [mx]
 rw [mx,<-e0] at L
 have hR1:0<=R1/\S1*1073741824<=R1*R1/\(R1-1)*(R1-1)<=S1*1073741824+1/\rtV (S1*1073741824)<=R1:=by
  rw [eR1];unfold rtH;split
  . refine ⟨by omega,?_,?_,by omega⟩
    . have:=H.2.2;omega
    . rw [show rtV (S1*1073741824)+1-1=rtV (S1*1073741824) by omega];have:=H.2.1;omega
  . refine ⟨H.1,by have:=H.2.1;omega,?_,Int.le_refl _⟩
    have e:(rtV (S1*1073741824)-1)*(rtV (S1*1073741824)-1)=rtV (S1*1073741824)*rtV (S1*1073741824)-2*rtV (S1*1073741824)+1:=by grind
    have h1:=H.1;have h2:=H.2.1;rw [e];omega
 have mono:R0<=rtV (S1*1073741824):=by
  refine Int.not_lt.1 fun hh=>?_
  have:=Int.mul_le_mul (show rtV (S1*1073741824)+1<=R0 by omega) (show rtV (S1*1073741824)+1<=R0 by omega) (by have:=H.1;omega) L.1
  have h2:=H.2.2;have l1:=L.2.1;omega
 have conv:∀ s t:Int,s*1073741824<=t->(s:Rat)*u30<=(t:Rat)*(u30*u30):=fun s t h=>by
  have c:=ah6 h;rw [Rat.intCast_mul,show ((1073741824:Int):Rat)=1073741824 from rfl] at c
  have k:=Rat.mul_nonneg (Rat.mul_nonneg (Rat.le_of_lt up) (Rat.le_of_lt up)) (show 0<=(t:Rat)-(s:Rat)*1073741824 by clear lo hi;grind)
  have e:(s:Rat)*1073741824*(u30*u30)=(s:Rat)*u30*(1073741824*u30):=by clear lo hi k c;grind
  rw [u1,Rat.mul_one] at e;clear lo hi c;grind
 have conv2:∀ s t:Int,t<=s*1073741824->(t:Rat)*(u30*u30)<=(s:Rat)*u30:=fun s t h=>by
  have k:=conv (-s) (-t) (by omega)
  rw [Rat.intCast_neg,Rat.intCast_neg] at k;clear lo hi;grind
 have r0:(0:Rat)<=(R0:Rat)*u30:=Rat.mul_nonneg (ah6 (p:=0) L.1) (Rat.le_of_lt up);have r1:(0:Rat)<=(R1:Rat)*u30:=Rat.mul_nonneg (ah6 (p:=0) hR1.1) (Rat.le_of_lt up);have c1:=conv2 S0 (R0*R0) L.2.1;have c2:=conv S1 (R1*R1) hR1.2.1
 have c3:=conv S0 ((R0+1)*(R0+1)) (by have:=L.2.2;omega)
 have c4:(((R1-1)*(R1-1):Int):Rat)*(u30*u30)<=(S1:Rat)*u30+u30*u30:=by
  have k:=ah6 hR1.2.2.1;rw [Rat.intCast_add,Rat.intCast_mul S1,show ((1073741824:Int):Rat)=1073741824 from rfl,show ((1:Int):Rat)=1 from rfl] at k
  have k2:=Rat.mul_nonneg (Rat.mul_nonneg (Rat.le_of_lt up) (Rat.le_of_lt up)) (show 0<=(S1:Rat)*1073741824+1-(((R1-1)*(R1-1):Int):Rat) by clear lo hi c1 c2 c3;grind)
  have e:(S1:Rat)*1073741824*(u30*u30)=(S1:Rat)*u30*(1073741824*u30):=by clear lo hi k k2 c1 c2 c3;grind
  rw [u1,Rat.mul_one] at e;clear lo hi c1 c2 c3 k;grind
 rw [Rat.intCast_mul] at c1 c2 c3 c4;rw [Rat.intCast_add,show ((1:Int):Rat)=1 from rfl] at c3
 rw [Rat.intCast_sub,show ((1:Int):Rat)=1 from rfl] at c4
 have l0:=L.1;clear conv conv2 L H mx e0 eR0 eR1 hS
 have hm:=mono;have h1:=hR1.2.2.2;refine ⟨by omega,by omega,?_,?_,by clear lo hi c1 c2 c4;grind,by clear lo hi c1 c2 c3;grind⟩
 . refine Rat.not_lt.1 fun k=>?_
   clear c2 c3 c4 hi r1 hR1 hm h1 mono l0;generalize (R0:Rat)=A at *
   have a:=Rat.mul_pos (show 0<A*u30-(q+16*mt) by grind) (show 0<A*u30+q by grind)
   have b:=Rat.mul_nonneg (Rat.le_of_lt mo.1) (show 0<=A*u30+q-1 by grind)
   grind
 . refine Rat.not_lt.1 fun k=>?_
   clear c1 c3 c4 lo r0 hR1 hm h1 mono l0;generalize (R1:Rat)=A at *
   have a:=Rat.mul_pos (show 0<q-16*mt-A*u30 by grind) (show 0<q+A*u30 by grind)
   have b:=Rat.mul_nonneg (Rat.le_of_lt mo.1) (show 0<=A*u30+q-1 by grind)
   grind
theorem ak9 {a b e f D m:Int} {C S:Rat} (u:C*C+S*S=1) (hD:1<=D) (D2:D<=1099511627776) (a1:(a:Rat)-mt<=D*C) (a2:(D:Rat)*C<=b+mt) (e1:(e:Rat)-mt<=D*S) (e2:(D:Rat)*S<=f+mt) (hb:b<=m) (ha:-m<=a) (hf:f<=m) (he:-m<=e) (m0:0<=m):1<=m/\2*D<=3*m:=by
 have mo:=ais;have b':=ah6 hb;have a':=ah6 ha;have f':=ah6 hf;have e':=ah6 he;have m':=ah6 m0;have d':=ah6 hD;have d2:=ah6 D2;rw [Rat.intCast_neg] at a' e'
 rw [show ((0:Int):Rat)=0 from rfl] at m'
 rw [show ((1:Int):Rat)=1 from rfl] at d'
 rw [show ((1099511627776:Int):Rat)=1099511627776 from rfl] at d2
 have key:(D:Rat)*D<=2*((m+mt)*(m+mt)):=by
  have k1:=Rat.mul_nonneg (show 0<=(m:Rat)+mt-D*C by clear u;grind) (show 0<=(m:Rat)+mt+D*C by clear u;grind)
  have k2:=Rat.mul_nonneg (show 0<=(m:Rat)+mt-D*S by clear u k1;grind) (show 0<=(m:Rat)+mt+D*S by clear u k1;grind)
  have k3:=congrArg (·*((D:Rat)*D)) u;clear a1 a2 e1 e2 b' a' f' e' mo;grind
 have sm:2*((m+mt)*(m+mt))<=2*((m:Rat)*m)+1/100∨(4398046511104:Rat)<m:=by
  by_cases q:(4398046511104:Rat)<m
  . exact .inr q
  . left
    have k:=Rat.mul_nonneg (show 0<=4398046511104-(m:Rat) by grind) (Rat.le_of_lt mo.1)
    have k2:=Rat.mul_nonneg (Rat.le_of_lt mo.1) (show 0<=1/1000-mt by clear key k;grind)
    clear key a1 a2 e1 e2 u;grind
 constructor
 . refine Int.not_lt.1 fun h=>?_
   have:m=0:=by omega
   rw [this] at sm key;rw [show ((0:Int):Rat)=0 from rfl] at sm key
   rcases sm with sm|sm
   . have:=Rat.mul_nonneg (show 0<=(D:Rat)-1 by grind) (show 0<=(D:Rat)+1 by grind)
     clear a1 a2 e1 e2 u;grind
   . exact absurd sm (by decide)
 . refine Int.not_lt.1 fun h=>?_
   have h2:=ah6 (show 3*m+1<=2*D by omega)
   rw [Rat.intCast_add,Rat.intCast_mul,Rat.intCast_mul,show ((3:Int):Rat)=3 from rfl,show ((2:Int):Rat)=2 from rfl,show ((1:Int):Rat)=1 from rfl] at h2
   have k:=Rat.mul_nonneg (show 0<=2*(D:Rat)-(3*m+1) by clear key sm;grind) (show 0<=2*(D:Rat)+(3*m+1) by clear key sm;grind)
   have k2:=Rat.mul_nonneg m' m'
   clear a1 a2 e1 e2 u;rcases sm with sm|sm<;>grind
theorem aiE {a b m:Int} {D C q:Rat} (hm:1<=m) (eq:q*m=D) (a1:(a:Rat)-mt<=D*C) (a2:D*C<=b+mt):(lvX a m:Rat)*u30-mt<=q*C/\q*C<=(lvY b m:Rat)*u30+mt:=by
 have up:=dU;have u1:=fe;have mo:=ais.1;have m1:(1:Rat)<=m:=ah6 (p:=1) hm;have X:=(aiz (P:=a*1073741824) (d:=m) (q:=lvX a m) (by omega) rfl).1
 have Y:=(aiN (P:=b*1073741824) (d:=m) (q:=lvY b m) (by omega) rfl).1
 have X':=ah6 X;have Y':=ah6 Y;rw [Rat.intCast_mul,Rat.intCast_mul,show ((1073741824:Int):Rat)=1073741824 from rfl] at X' Y'
 have kx:=Rat.mul_nonneg (Rat.le_of_lt up) (show 0<=(a:Rat)*1073741824-(lvX a m:Rat)*m by grind)
 have ky:=Rat.mul_nonneg (Rat.le_of_lt up) (show 0<=(lvY b m:Rat)*m-(b:Rat)*1073741824 by clear kx;grind)
 have z:∀ w:Rat,w*1073741824*u30=w:=fun w=>by rw [Rat.mul_assoc,u1,Rat.mul_one]
 have za:=z a;have zb:=z b;have e:q*C*m=D*C:=by rw [<-eq];clear kx ky za zb;grind
 clear z X Y X' Y'
 generalize (lvX a m:Rat)=P at *
 generalize (lvY b m:Rat)=Q at *
 have mm:=Rat.mul_nonneg (Rat.le_of_lt mo) (show 0<=(m:Rat)-1 by grind)
 constructor
 . refine Rat.not_lt.1 fun k=>?_
   have:=Rat.mul_pos (show 0<P*u30-mt-q*C by grind) (show 0<(m:Rat) by grind)
   clear ky zb a2 up u1;grind
 . refine Rat.not_lt.1 fun k=>?_
   have:=Rat.mul_pos (show 0<q*C-(Q*u30+mt) by grind) (show 0<(m:Rat) by grind)
   clear kx za a1 up u1;grind
theorem ai0 {a b m D:Int} {q:Rat} (hm:1<=m) (eq:q*m=D) (w:(b-a)*1073741824<=D+2147483648):(lvY b m:Rat)*u30-(lvX a m:Rat)*u30<=(q+2)*u30+2*(m:Rat)⁻¹:=by
 have up:=dU;have u1:=fe;have m1:(1:Rat)<=m:=ah6 (p:=1) hm;have hi:(m:Rat)*(m:Rat)⁻¹=1:=Rat.mul_inv_cancel _ (by grind)
 have X:=(aiz (P:=a*1073741824) (d:=m) (q:=lvX a m) (by omega) rfl).2
 have Y:=(aiN (P:=b*1073741824) (d:=m) (q:=lvY b m) (by omega) rfl).2
 have W:(lvY b m*m-lvX a m*m)<=D+2147483648+2*m:=by
  have e:(b-a)*1073741824=b*1073741824-a*1073741824:=Int.sub_mul _ _ _;rw [e] at w;generalize lvX a m*m=P at *
  generalize lvY b m*m=Q at *
  omega
 have W':=ah6 W;rw [Rat.intCast_sub,Rat.intCast_mul,Rat.intCast_mul,Rat.intCast_add,Rat.intCast_add,Rat.intCast_mul,show ((2147483648:Int):Rat)=2147483648 from rfl,show ((2:Int):Rat)=2 from rfl] at W'
 have k:=Rat.mul_nonneg (Rat.le_of_lt up) (show 0<=(D:Rat)+2147483648+2*m-((lvY b m:Rat)*m-(lvX a m:Rat)*m) by grind)
 have u2:(2147483648:Rat)*u30=2:=by
  have:(2147483648:Rat)*u30=2*(1073741824*u30):=by grind
  rw [this,u1];decide +kernel
 clear X Y W W' w;generalize (lvX a m:Rat)=P at *
 generalize (lvY b m:Rat)=Q at *
 generalize (m:Rat)⁻¹=i at *
 refine Rat.not_lt.1 fun h=>?_
 have p:=Rat.mul_pos (show 0<Q*u30-P*u30-((q+2)*u30+2*i) by grind) (show 0<(m:Rat) by grind)
 have z:(Q*u30-P*u30-((q+2)*u30+2*i))*m=u30*(Q*m-P*m)-(q*m*u30+2*m*u30+2*(m*i)):=by clear p k h;grind
 rw [z,hi,eq] at p;clear z h;have z2:u30*((D:Rat)+2147483648+2*m-(Q*m-P*m))=D*u30+2147483648*u30+2*m*u30-u30*(Q*m-P*m):=by clear p k;grind
 rw [z2,u2] at k;grind
theorem ajU {X x q:Rat} (h1:X-x<=mt) (h2:-mt<=X-x) (hX:-q<=X/\X<=q) (hq:q<=2):x*x<=X*X+8*mt/\X*X-8*mt<=x*x:=by
 have mo:=ais;have a:=Rat.mul_nonneg (show 0<=mt-(X-x) by grind) (show 0<=3-X by grind)
 have b:=Rat.mul_nonneg (show 0<=mt-(X-x) by grind) (show 0<=3+X by grind)
 have c:=Rat.mul_nonneg (show 0<=mt+(X-x) by grind) (show 0<=3-X by grind)
 have d:=Rat.mul_nonneg (show 0<=mt+(X-x) by grind) (show 0<=3+X by grind)
 have e:=Rat.mul_nonneg (show 0<=mt-(X-x) by grind) (show 0<=mt+(X-x) by grind)
 have f:=bT (X-x);have g:=Rat.mul_nonneg (Rat.le_of_lt mo.1) (show 0<=1-mt by grind)
 have p:X*(X-x)<=3*mt:=by clear e f g;grind
 have n:-(3*mt)<=X*(X-x):=by clear e f g p;grind
 have z:x*x=X*X-2*(X*(X-x))+(X-x)*(X-x):=by clear a b c d e f g p n;grind
 rw [z];clear a b c d z
 constructor<;>grind
theorem aiX (x:Rat):∃ y:Rat,0<=y/\x<=y/\-x<=y/\y*y=x*x:=by
 by_cases h:0<=x
 . exact ⟨x,h,Rat.le_refl,by grind,rfl⟩
 . exact ⟨-x,by grind,by grind,Rat.le_refl,by grind⟩
theorem aja (a b:Int):0<=sqL a b:=by
 unfold sqL;have n1:0<=a*a:=by rcases Int.le_total 0 a with h|h;exact Int.mul_nonneg h h;exact Int.mul_nonneg_of_nonpos_of_nonpos h h
 have n2:0<=b*b:=by rcases Int.le_total 0 b with h|h;exact Int.mul_nonneg h h;exact Int.mul_nonneg_of_nonpos_of_nonpos h h
 refine Int.ediv_nonneg ?_ (by decide)
 split<;>omega
theorem ai8 {a b:Int} (h1:-1073741824<=a/\a<=1073741824) (h2:-1073741824<=b/\b<=1073741824):sqH a b<=1073741824:=by
 have sq:∀ x:Int,-1073741824<=x/\x<=1073741824->x*x<=1152921504606846976:=fun x h=>by
  have:=Int.mul_nonneg (show 0<=1073741824-x by omega) (show 0<=1073741824+x by omega)
  have e:(1073741824-x)*(1073741824+x)=1152921504606846976-x*x:=by grind
  omega
 have a1:=sq a h1;have b1:=sq b h2;unfold sqH;omega
theorem aiP {x w y:Rat} (h0:0<=x) (h:x<=w) (hy:0<=y):x*(2*y+2*x)<=w*(2*y+2*w):=by
 have a:=Rat.mul_nonneg (show 0<=w-x by grind) hy
 have b:=Rat.mul_nonneg (show 0<=w-x by grind) (show 0<=w+x by grind)
 grind
theorem ajk {q m D w wx wy yx yy S0 S1 r0 r1 u i t:Rat} (q1:1<=q) (q2:q<=3/2) (hm:67<=m) (mD:m<=D) (eq:q*m=D) (hi:m*i=1) (i0:0<=i) (u0:0<u) (u1:u<=1/1000000000) (ew:w=(q+2)*u+2*i) (ht:0<=t) (ht1:1000*t<=u*u)
 (x0:0<=wx) (x1:wx<=w) (y0:0<=wy) (y1:wy<=w) (hx:0<=yx) (hy:0<=yy) (sq:yx*yx+yy*yy<=q*q+16*t)
 (dl:S1-S0<=wx*(2*yx+2*wx)+2*u+(wy*(2*yy+2*wy)+2*u)) (s1:q*q-16*t<=S1) (a0:S0<=(r0+u)*(r0+u)) (a1:(r1-u)*(r1-u)<=S1+u*u) (p0:0<=r0) (p1:q-16*t<=r1) :
 (r1-r0)*m<=11/2+1/100000000*D:=by
 have u2:=Rat.mul_nonneg (show 0<=1/1000000000-u by grind) (Rat.le_of_lt u0)
 have tt:1000*t<=1/1000000000*u:=by grind
 have ii:i<=1/67:=by
  refine Rat.not_lt.1 fun k=>?_
  have:=Rat.mul_pos (show 0<i-1/67 by grind) (show 0<m by grind)
  clear dl sq a0 a1 ew;grind
 have qu:=Rat.mul_nonneg (show 0<=3/2-q by grind) (Rat.le_of_lt u0)
 have hw:w<=31/1000:=by rw [ew];clear dl sq a0 a1;grind
 have w0:0<=w:=by grind
 have ys:yx+yy<=3/2*q:=by
  refine Rat.not_lt.1 fun k=>?_
  have a:=Rat.mul_pos (show 0<yx+yy-3/2*q by grind) (show 0<yx+yy+3/2*q by grind)
  have b:=bT (yx-yy);have c:=Rat.mul_nonneg (show 0<=q-1 by grind) (show 0<=q+1 by grind)
  clear dl a0 a1 ew;grind
 have nx:=aiP x0 x1 hx;have ny:=aiP y0 y1 hy;have wy':=Rat.mul_nonneg w0 (show 0<=3/2*q-(yx+yy) by grind)
 have d1:S1-S0<=w*(3*q+4*w)+4*u:=by clear a0 a1 sq ew hi eq;grind
 clear dl nx ny wy' x0 x1 y0 y1 sq ys hx hy;have wq:=Rat.mul_nonneg (show 0<=31/1000-w by grind) (show 0<=3*q+4*w by grind)
 have qq:=Rat.mul_nonneg (show 0<=q-1 by grind) (show 0<=q by grind)
 have s0:88/100*(q*q)<=S0:=by clear a0 a1 ew hi eq;grind
 have r0b:93/100*q<=r0+u:=by
  refine Rat.not_lt.1 fun k=>?_
  have a:=Rat.mul_pos (show 0<93/100*q-(r0+u) by grind) (show 0<93/100*q+(r0+u) by grind)
  have b:=Rat.mul_pos (show 0<q by grind) (show 0<q by grind)
  clear a1 ew hi eq d1;grind
 have r1b:99/100*q<=r1-u:=by clear a0 a1 ew hi eq d1 s0 wq;grind
 have m0:0<=m:=by grind
 have um:=Rat.mul_nonneg (Rat.le_of_lt u0) (show 0<=D-m by grind)
 have uD:=Rat.mul_nonneg (show 0<=1/1000000000-u by grind) (show 0<=D by grind)
 by_cases neg:(r1-u)-(r0+u)<=0
 . have k:=Rat.mul_nonneg (show 0<=2*u-(r1-r0) by grind) m0
   clear a0 a1 ew hi eq d1 s0 wq;grind
 . obtain ⟨d,hd⟩:∃ d,d=(r1-u)-(r0+u):=⟨_,rfl⟩;have d0:0<d:=by grind
   have k1:d*((r1-u)+(r0+u))<=w*(3*q+4*w)+4*u+u*u:=by rw [hd];clear ew hi eq s0 wq;grind
   have k2:=Rat.mul_nonneg (Rat.le_of_lt d0) (show 0<=(r1-u)+(r0+u)-185/100*q by grind)
   have k3:d*(185/100*q)<=w*(3*q+4*w)+4*u+u*u:=by clear ew hi eq s0 wq a0 a1;grind
   have mw:m*w<=3*(u*D)+2:=by
    have z:m*w=u*(q*m)+2*(u*m)+2*(m*i):=by rw [ew];clear k1 k2 k3 a0 a1 s0 wq;grind
    rw [z,eq,hi];clear k1 k2 k3 a0 a1 s0 wq ew;grind
   have k4:=Rat.mul_nonneg m0 (show 0<=w*(3*q+4*w)+4*u+u*u-d*(185/100*q) by grind)
   have k5:=Rat.mul_nonneg (show 0<=3*(u*D)+2-m*w by grind) (show 0<=3*q+4*w by grind)
   have k6:=Rat.mul_nonneg (show 0<=3*(u*D)+2 by have:=Rat.mul_nonneg (Rat.le_of_lt u0) (show 0<=D by grind);grind) (show 0<=3124/1000*q-(3*q+4*w) by grind)
   have k7:=Rat.mul_nonneg (Rat.mul_nonneg (Rat.le_of_lt u0) m0) (show 0<=1/1000000000-u by grind)
   have k8:=Rat.mul_nonneg (Rat.mul_nonneg (Rat.le_of_lt u0) m0) (show 0<=q-1 by grind)
   have uDn:=Rat.mul_nonneg (Rat.le_of_lt u0) (show 0<=D by grind)
   have fin:d*m<=34/10+75/10*(u*D):=by
    refine Rat.not_lt.1 fun h=>?_
    have p:=Rat.mul_pos (show 0<d*m-(34/10+75/10*(u*D)) by grind) (show 0<q by grind)
    have q3:=Rat.mul_nonneg (show 0<=q-1 by grind) uDn
    clear k1 k2 k3 a0 a1 s0 wq ew hi eq mw;grind
   have e:(r1-r0)*m=d*m+2*(u*m):=by rw [hd];clear k1 k2 k3 k4 k5 k6 k7 k8 a0 a1 s0 wq ew hi eq mw fin;grind
   rw [e];clear k1 k2 k3 k4 k5 k6 k7 k8 a0 a1 s0 wq ew hi eq mw e hd;grind
theorem Uk (a b:Int):sqL a b<=sqH a b:=by
 unfold sqL sqH;have n1:0<=a*a:=by rcases Int.le_total 0 a with h|h;exact Int.mul_nonneg h h;exact Int.mul_nonneg_of_nonpos_of_nonpos h h
 have n2:0<=b*b:=by rcases Int.le_total 0 b with h|h;exact Int.mul_nonneg h h;exact Int.mul_nonneg_of_nonpos_of_nonpos h h
 generalize a*a=A at *
 generalize b*b=B at *
 split<;>omega
theorem ajT {xl xh yl yh:Int} (h1:-1073741824<=xl/\xl<=1073741824) (h2:-1073741824<=xh/\xh<=1073741824) (h3:-1073741824<=yl/\yl<=1073741824) (h4:-1073741824<=yh/\yh<=1073741824) :
 lvR xl xh yl yh 0=rtL (sqL xl xh+sqL yl yh) (sqH xl xh+sqH yl yh)/\lvR xl xh yl yh 1=rtH (sqL xl xh+sqL yl yh) (sqH xl xh+sqH yl yh)/\0<=sqL xl xh+sqL yl yh/\sqL xl xh+sqL yl yh<=sqH xl xh+sqH yl yh/\sqH xl xh+sqH yl yh<=2147483648/\rtH (sqL xl xh+sqL yl yh) (sqH xl xh+sqH yl yh)<=2147483648:=by
 have a1:=aja xl xh;have a2:=aja yl yh;have b1:=Uk xl xh;have b2:=Uk yl yh;have c1:=ai8 h1 h2;have c2:=ai8 h3 h4;have F1:=aiD (L:=sqL xl xh) (H:=sqH xl xh) (by omega)
 have F2:=aiD (L:=sqL yl yh) (H:=sqH yl yh) (by omega)
 have F3:=aiD (L:=sqL xl xh+sqL yl yh) (H:=sqH xl xh+sqH yl yh) (by omega)
 have s3:∀ p q:Int,(aC 3 [p,q]).getD 0 0=rP (sqL p q) (sqH p q)/\(aC 3 [p,q]).getD 1 0=tF (sqL p q) (sqH p q):=fun _ _=>⟨rfl,rfl⟩
 have s1:∀ p q r s:Int,(aC 1 [p,q,r,s]).getD 0 0=rP (p+r) (q+s)/\(aC 1 [p,q,r,s]).getD 1 0=tF (p+r) (q+s):=fun _ _ _ _=>⟨rfl,rfl⟩
 have s4:∀ p q:Int,(aC 4 [p,q]).getD 0 0=rP (rtL p q) (rtH p q)/\(aC 4 [p,q]).getD 1 0=tF (rtL p q) (rtH p q):=fun _ _=>⟨rfl,rfl⟩
 unfold lvR;rw [(s3 xl xh).1,(s3 xl xh).2,(s3 yl yh).1,(s3 yl yh).2,F1.1,F1.2.1,F2.1,F2.2.1,(s1 _ _ _ _).1,(s1 _ _ _ _).2,F3.1,F3.2.1];clear F1 F2 F3 s3 s1;have hp:0<=sqL xl xh+sqL yl yh/\sqL xl xh+sqL yl yh<=sqH xl xh+sqH yl yh/\sqH xl xh+sqH yl yh<=2147483648:=by omega
 clear a1 a2 b1 b2 c1 c2;generalize sqL xl xh+sqL yl yh=p at *
 generalize sqH xl xh+sqH yl yh=q at *
 obtain ⟨r0,r1,r2⟩:=aiF (n:=max 0 p*1073741824) (k:=q*1073741824) (by omega) (by omega) (by omega)
 have L:rtL p q=rtV (max 0 p*1073741824):=rfl;have H:rtV (q*1073741824)<=rtH p q/\rtH p q<=rtV (q*1073741824)+1:=by unfold rtH;split<;>omega
 have F:=aiD (L:=rtL p q) (H:=rtH p q) (by omega)
 refine ⟨?_,?_,hp.1,hp.2.1,hp.2.2,by omega⟩
 . show (aC 4 [p,q]).getD 0 0=_;rw [(s4 _ _).1,F.1]
 . show (aC 4 [p,q]).getD 1 0=_;rw [(s4 _ _).2,F.2.1]
theorem aiY (n:Int):bU n n=bLo n/\bW n n=bHi n:=by
 unfold bU bW
 constructor
 . by_cases h:bV n n 16200000=true
   . rw [if_pos h];unfold bV av at h;have e:=(kY n 16200000 (by have:=of_decide_eq_true h;omega)).1
     rw [e];decide +kernel
   . rw [if_neg h];omega
 . by_cases h:bV n n 5400000=true
   . rw [if_pos h];unfold bV av at h;have e:=(kY n 5400000 (by have:=of_decide_eq_true h;omega)).2
     rw [e];decide +kernel
   . rw [if_neg h];omega
theorem aj9 {A l D t u e:Rat} (up:0<u) (d0:0<=D) (h:l*u-2*e<=t) (f:A*1073741824<=l*D) (z:A*1073741824*u=A) (de:0<=(1099511627776-D)*e) (mo:4398046511104*(2*e)<=mt) (e0:0<e):A-mt<=D*t:=by
 have a:=Rat.mul_nonneg (Rat.le_of_lt up) (show 0<=l*D-A*1073741824 by clear de mo z;grind)
 have b:=Rat.mul_nonneg d0 (show 0<=t-(l*u-2*e) by clear de mo z a;grind)
 clear f h up;generalize mt=M at *
 grind
theorem akz {B l D t u e:Rat} (up:0<u) (d0:0<=D) (h:t<=l*u+2*e) (f:l*D<=B*1073741824) (z:B*1073741824*u=B) (de:0<=(1099511627776-D)*e) (mo:4398046511104*(2*e)<=mt) (e0:0<e):D*t<=B+mt:=by
 have a:=Rat.mul_nonneg (Rat.le_of_lt up) (show 0<=B*1073741824-l*D by clear de mo z;grind)
 have b:=Rat.mul_nonneg d0 (show 0<=l*u+2*e-t by clear de mo z a;grind)
 clear f h up;generalize mt=M at *
 grind
theorem ajV {lo hi D:Int} {t:Rat} (h1:-1073741824<=lo/\lo<=hi/\hi<=1073741824/\hi<=lo+1) (hD:0<=D/\D<=1099511627776) (ht:InE lo hi t (2*ee)) :
 (-D<=aic lo hi D D/\aic lo hi D D<=aib lo hi D D/\aib lo hi D D<=D)/\(aib lo hi D D-aic lo hi D D)*1073741824<=D+2147483648/\(aic lo hi D D:Rat)-mt<=D*t/\(D:Rat)*t<=aib lo hi D D+mt:=by
 have e1:aic lo hi D D=lo*D/1073741824/\aib lo hi D D=-(-(hi*D)/1073741824):=by
  unfold aic aib dM dI qFl qCe;have:=Int.mul_le_mul_of_nonneg_right h1.2.1 hD.1;generalize lo*D=P at *
  generalize hi*D=Q at *
  omega
 have k1:=Int.mul_le_mul_of_nonneg_right h1.1 hD.1;have k2:=Int.mul_le_mul_of_nonneg_right h1.2.1 hD.1;have k3:=Int.mul_le_mul_of_nonneg_right h1.2.2.1 hD.1;have k4:=Int.mul_le_mul_of_nonneg_right h1.2.2.2 hD.1;rw [Int.add_mul,Int.one_mul] at k4;have f:=aiz (P:=lo*D) (d:=1073741824) (q:=aic lo hi D D) (by decide) e1.1
 have g:=aiN (P:=hi*D) (d:=1073741824) (q:=aib lo hi D D) (by decide) e1.2
 refine ⟨?_,by clear e1;omega,?_,?_⟩
 . rw [e1.1,e1.2];clear f g e1;generalize lo*D=P at *
   generalize hi*D=Q at *
   omega
 all_goals
  have f':=ah6 f.1;have g':=ah6 g.1;rw [Rat.intCast_mul,Rat.intCast_mul,show ((1073741824:Int):Rat)=1073741824 from rfl] at f' g'
  have d0:=ah6 hD.1;have d1:=ah6 hD.2;rw [show ((0:Int):Rat)=0 from rfl] at d0
  rw [show ((1099511627776:Int):Rat)=1099511627776 from rfl] at d1
  have up:=dU;have u1:=fe;have mo:=ais.2.2.2.2;have e0:0<ee:=by unfold ee;decide +kernel
  have de:=Rat.mul_nonneg (show 0<=1099511627776-(D:Rat) by clear f' g' mo;grind) (Rat.le_of_lt e0)
  have z:∀ w:Rat,w*1073741824*u30=w:=fun w=>by rw [Rat.mul_assoc,u1,Rat.mul_one]
  unfold InE at ht;clear e1 k1 k2 k3 k4 f g u1;generalize (aic lo hi D D:Rat)=A at *
  generalize (aib lo hi D D:Rat)=B at *
  have za:=z A;have zb:=z B;clear z
  first
  | exact aj9 up d0 ht.1 f' za de mo e0
  | exact akz up d0 ht.2 g' zb de mo e0
theorem aiM {L H x t:Rat} (h:L<=H) (h1:L-t<=x) (h2:x<=H+t) (ht:0<=t):∃ y,L<=y/\y<=H/\x-y<=t/\-t<=x-y:=by
 by_cases a:x<L
 . exact ⟨L,Rat.le_refl,h,by grind,by grind⟩
 . by_cases b:H<x
   . exact ⟨H,h,Rat.le_refl,by grind,by grind⟩
   . exact ⟨x,by grind,by grind,by grind,by grind⟩
theorem ai2 {a b m:Int} (hm:0<m) (h:-m<=a/\a<=b/\b<=m):(-1073741824<=lvX a m/\lvX a m<=1073741824)/\(-1073741824<=lvY b m/\lvY b m<=1073741824)/\lvX a m<=lvY b m:=by
 have k:=(cZ _ _).1 (aju hm h);have h1:-1073741824<=a*1073741824/m:=(Int.le_ediv_iff_mul_le hm).2 (by omega)
 have h2:-1073741824<=-(b*1073741824)/m:=(Int.le_ediv_iff_mul_le hm).2 (by omega)
 have h3:a*1073741824/m<=1073741824:=Int.ediv_le_of_le_mul hm (by omega)
 have h4:-(b*1073741824)/m<=1073741824:=Int.ediv_le_of_le_mul hm (by omega)
 unfold lvX lvY qFl qCe at *
 refine ⟨⟨h1,h3⟩,⟨by omega,by omega⟩,k.2.1⟩
theorem ajA {R0 R1 m D:Int} {q:Rat} (hm:1<=m) (mD:m<=D) (hD:D<=1099511627776) (eq:q*m=D) (h0:0<=R0) (h1:R0<=R1) (r0:(R0:Rat)*u30<=q+16*mt) (r1:q-16*mt<=(R1:Rat)*u30) :
 dM R0 R1 m<=D/\D<=dI R0 R1 m/\(R1<=2147483648->dI R0 R1 m<=2*m)/\(((R1:Rat)*u30-(R0:Rat)*u30)*m<=11/2+1/100000000*D->dI R0 R1 m-dM R0 R1 m<=8+D/10000000):=by
 have up:=dU;have u1:=fe;have mo:=ais
 have e1:dM R0 R1 m=R0*m/1073741824/\dI R0 R1 m=-(-(R1*m)/1073741824):=by
  unfold dM dI qFl qCe;have:=Int.mul_le_mul_of_nonneg_right h1 (show 0<=m by omega)
  generalize R0*m=P at *
  generalize R1*m=Q at *
  omega
 have f:=aiz (P:=R0*m) (d:=1073741824) (q:=dM R0 R1 m) (by decide) e1.1
 have g:=aiN (P:=R1*m) (d:=1073741824) (q:=dI R0 R1 m) (by decide) e1.2
 clear e1;generalize dM R0 R1 m=L at *
 generalize dI R0 R1 m=H at *
 have z:∀ w:Rat,w*1073741824*u30=w:=fun w=>by rw [Rat.mul_assoc,u1,Rat.mul_one]
 have m1:(1:Rat)<=m:=ah6 (p:=1) hm;have m2:(m:Rat)<=1099511627776:=ah6 (q:=1099511627776) (by omega)
 have mm:=Rat.mul_nonneg (Rat.le_of_lt mo.1) (show 0<=1099511627776-(m:Rat) by clear r0 r1;grind)
 have f1:=ah6 f.1;have g1:=ah6 g.1;rw [Rat.intCast_mul,Rat.intCast_mul,show ((1073741824:Int):Rat)=1073741824 from rfl] at f1 g1
 have zL:=z L;have zH:=z H;have kl:=Rat.mul_nonneg (Rat.le_of_lt up) (show 0<=(R0:Rat)*m-L*1073741824 by clear r0 r1 mo mm;grind)
 have kh:=Rat.mul_nonneg (Rat.le_of_lt up) (show 0<=(H:Rat)*1073741824-R1*m by clear r0 r1 mo mm kl;grind)
 have pl:=Rat.mul_nonneg (show 0<=q+16*mt-(R0:Rat)*u30 by clear mo mm kl kh;grind) (show 0<=(m:Rat) by clear mo mm kl kh;grind)
 have ph:=Rat.mul_nonneg (show 0<=(R1:Rat)*u30-(q-16*mt) by clear mo mm kl kh pl;grind) (show 0<=(m:Rat) by clear mo mm kl kh pl;grind)
 have small:16*mt*m<=1/1000:=by
  have:=mo.2.2.1;clear kl kh pl ph f1 g1 zL zH r0 r1;generalize mt=M at *
  grind
 clear mo mm u1;refine ⟨?_,?_,?_,?_⟩
 . have:(L:Rat)<=D+1/1000:=by
    clear kh ph g1 zH r1 g f r0 f1;generalize mt=M at *
    grind
   refine Int.not_lt.1 fun h=>?_
   have:=ah6 (show D+1<=L by omega)
   rw [Rat.intCast_add,show ((1:Int):Rat)=1 from rfl] at this
   clear kl kh pl ph f1 g1 zL zH r0 r1 f g;grind
 . have:(D:Rat)-1/1000<=H:=by
    clear kl pl f1 zL r0 g f r1 g1;generalize mt=M at *
    grind
   refine Int.not_lt.1 fun h=>?_
   have:=ah6 (show H+1<=D by omega)
   rw [Rat.intCast_add,show ((1:Int):Rat)=1 from rfl] at this
   clear kl kh pl ph f1 g1 zL zH r0 r1 f g;grind
 . intro hR;have:=Int.mul_le_mul_of_nonneg_right hR (show 0<=m by omega)
   clear kl kh pl ph f1 g1 zL zH r0 r1 f small;generalize R1*m=Q at *
   omega
 . intro hn
   have d1:H*1073741824-L*1073741824<=R1*m-R0*m+2147483648:=by
    clear kl kh pl ph f1 g1 zL zH r0 r1 small;omega
   have d2:=ah6 d1;rw [Rat.intCast_sub,Rat.intCast_mul,Rat.intCast_mul,Rat.intCast_add,Rat.intCast_sub,Rat.intCast_mul,Rat.intCast_mul,show ((1073741824:Int):Rat)=1073741824 from rfl,show ((2147483648:Int):Rat)=2147483648 from rfl] at d2
   have z2:=z 2;clear kl kh pl ph f1 g1 r0 r1 small f g d1 z;have k:=Rat.mul_nonneg (Rat.le_of_lt up) (show 0<=(R1:Rat)*m-R0*m+2147483648-((H:Rat)*1073741824-L*1073741824) by clear zL zH hn z2;grind)
   have:(H:Rat)-L<=15/2+1/100000000*D:=by
    clear d2;generalize u30=u at *
    grind
   have c:((100000000*(H-L):Int):Rat)<=((750000000+D:Int):Rat):=by
    rw [Rat.intCast_mul,Rat.intCast_sub,Rat.intCast_add,show ((100000000:Int):Rat)=100000000 from rfl,show ((750000000:Int):Rat)=750000000 from rfl]
    clear k d2 zL zH hn z2;grind
   have c':=Rat.intCast_le_intCast.1 c;clear c this k d2 zL zH hn z2;omega
theorem aj5:1000*mt<=u30*u30/\u30<=1/1000000000:=by unfold mt;rw [dY];decide +kernel
theorem ajW {a b e f m D:Int} {C S:Rat} (hm:1<=m) (mD:m<=D) (D2:D<=1099511627776) (m3:2*D<=3*m) (un:C*C+S*S=1) (ha:-m<=a/\a<=b/\b<=m) (he:-m<=e/\e<=f/\f<=m)
 (a1:(a:Rat)-mt<=D*C) (a2:(D:Rat)*C<=b+mt) (e1:(e:Rat)-mt<=D*S) (e2:(D:Rat)*S<=f+mt) (wa:(b-a)*1073741824<=D+2147483648) (we:(f-e)*1073741824<=D+2147483648) :
 dM (lvR (lvX a m) (lvY b m) (lvX e m) (lvY f m) 0) (lvR (lvX a m) (lvY b m) (lvX e m) (lvY f m) 1) m<=D/\D<=dI (lvR (lvX a m) (lvY b m) (lvX e m) (lvY f m) 0) (lvR (lvX a m) (lvY b m) (lvX e m) (lvY f m) 1) m /\
 dI (lvR (lvX a m) (lvY b m) (lvX e m) (lvY f m) 0) (lvR (lvX a m) (lvY b m) (lvX e m) (lvY f m) 1) m<=2*m /\
 (100<=D->dI (lvR (lvX a m) (lvY b m) (lvX e m) (lvY f m) 0) (lvR (lvX a m) (lvY b m) (lvX e m) (lvY f m) 1) m-dM (lvR (lvX a m) (lvY b m) (lvX e m) (lvY f m) 0) (lvR (lvX a m) (lvY b m) (lvX e m) (lvY f m) 1) m<=8+D/10000000):=by
 have mo:=ais.1;have up:=dU;have m1:(1:Rat)<=m:=ah6 (p:=1) hm;have mi:(m:Rat)*(m:Rat)⁻¹=1:=Rat.mul_inv_cancel _ (by grind)
 obtain ⟨q,hq⟩:∃ q:Rat,q=D*(m:Rat)⁻¹:=⟨_,rfl⟩;have eq:q*m=D:=by rw [hq,Rat.mul_assoc,Rat.mul_comm (m:Rat)⁻¹,mi,Rat.mul_one]
 clear hq;have mD':=ah6 mD;have m3':=ah6 m3;rw [Rat.intCast_mul,Rat.intCast_mul,show ((2:Int):Rat)=2 from rfl,show ((3:Int):Rat)=3 from rfl] at m3'
 have q1:1<=q:=by
  refine Rat.not_lt.1 fun k=>?_
  have:=Rat.mul_pos (show 0<1-q by grind) (show 0<(m:Rat) by grind)
  clear a1 a2 e1 e2 un;grind
 have q2:q<=3/2:=by
  refine Rat.not_lt.1 fun k=>?_
  have:=Rat.mul_pos (show 0<q-3/2 by grind) (show 0<(m:Rat) by grind)
  clear a1 a2 e1 e2 un;grind
 have bx:=aiE hm eq a1 a2;have byy:=aiE hm eq e1 e2;have wx:=ai0 (a:=a) (b:=b) hm eq wa;have wy:=ai0 (a:=e) (b:=f) hm eq we;obtain ⟨x0,x1,x2⟩:=ai2 (m:=m) (by omega) ha
 obtain ⟨y0,y1,y2⟩:=ai2 (m:=m) (by omega) he
 clear a1 a2 e1 e2 wa we ha he;generalize lvX a m=xl at *
 generalize lvY b m=xh at *
 generalize lvX e m=yl at *
 generalize lvY f m=yh at *
 clear a b e f
 have xy:q*C*(q*C)+q*S*(q*S)=q*q:=by
  have:=congrArg (·*(q*q)) un;clear bx byy wx wy un;grind
 clear un;generalize q*C=X at *
 generalize q*S=Y at *
 have sX:=bT X;have sY:=bT Y;have bX:=ajx (x:=X) (q:=q) (by clear bx byy wx wy;grind) (by clear bx byy wx wy;grind)
 have bY:=ajx (x:=Y) (q:=q) (by clear bx byy wx wy;grind) (by clear bx byy wx wy;grind)
 obtain ⟨x,c1,c2,c3,c4⟩:=aiM (zt x2) bx.1 bx.2 (Rat.le_of_lt mo);obtain ⟨y,d1,d2,d3,d4⟩:=aiM (zt y2) byy.1 byy.2 (Rat.le_of_lt mo);have nx:=ajU c3 c4 (q:=q) ⟨by grind,bX.1⟩ (by grind)
 have ny:=ajU d3 d4 (q:=q) ⟨by grind,bY.1⟩ (by grind)
 obtain ⟨yx,hx0,hx1,hx2,hx3⟩:=aiX x;obtain ⟨yy,hy0,hy1,hy2,hy3⟩:=aiX y;have sx:=ajr c1 c2 hx1 hx2;have sy:=ajr d1 d2 hy1 hy2;obtain ⟨l0,l1,l2,l3,l4,l5⟩:=ajT x0 x1 y0 y1;have lo:((sqL xl xh+sqL yl yh:Int):Rat)*u30=(sqL xl xh:Rat)*u30+(sqL yl yh:Rat)*u30:=by rw [Rat.intCast_add,Rat.add_mul]
 have hi:((sqH xl xh+sqH yl yh:Int):Rat)*u30=(sqH xl xh:Rat)*u30+(sqH yl yh:Rat)*u30:=by rw [Rat.intCast_add,Rat.add_mul]
 have s0:((sqL xl xh+sqL yl yh:Int):Rat)*u30<=q*q+16*mt:=by rw [lo];clear wx wy bx byy lo hi;grind
 have s1:q*q-16*mt<=((sqH xl xh+sqH yl yh:Int):Rat)*u30:=by rw [hi];clear wx wy bx byy lo hi s0;grind
 have dl:((sqH xl xh+sqH yl yh:Int):Rat)*u30-((sqL xl xh+sqL yl yh:Int):Rat)*u30<=((xh:Rat)*u30-(xl:Rat)*u30)*(2*yx+2*((xh:Rat)*u30-(xl:Rat)*u30))+2*u30+(((yh:Rat)*u30-(yl:Rat)*u30)*(2*yy+2*((yh:Rat)*u30-(yl:Rat)*u30))+2*u30):=by
  rw [hi,lo];have p:=sx.2.2;have r:=sy.2.2;clear wx wy bx byy lo hi s0 s1 sx sy;generalize ((xh:Rat)*u30-(xl:Rat)*u30)*(2*yx+2*((xh:Rat)*u30-(xl:Rat)*u30))=A at *
  generalize ((yh:Rat)*u30-(yl:Rat)*u30)*(2*yy+2*((yh:Rat)*u30-(yl:Rat)*u30))=B at *
  grind
 have sq:yx*yx+yy*yy<=q*q+16*mt:=by rw [hx3,hy3];clear wx wy bx byy lo hi s0 s1 dl sx sy;grind
 have wx0:=zt x2;have wy0:=zt y2;clear lo hi sx sy nx ny c1 c2 c3 c4 d1 d2 d3 d4 bx byy hx1 hx2 hx3 hy1 hy2 hy3 bX bY sX sY xy;rw [l0,l1];clear l0 l1 x0 x1 x2 y0 y1 y2;generalize sqL xl xh+sqL yl yh=S0 at *
 generalize sqH xl xh+sqH yl yh=S1 at *
 obtain ⟨R0,hR0⟩:∃ R,R=rtL S0 S1:=⟨_,rfl⟩;obtain ⟨R1,hR1⟩:∃ R,R=rtH S0 S1:=⟨_,rfl⟩;obtain ⟨r0,r1,r2,r3,r4,r5⟩:=ajK (D:=0) (m:=0) hR0 hR1 ⟨l2,l3,l4⟩ q1 (by grind) s0 s1
 rw [<-hR0,<-hR1];rw [<-hR1] at l5;obtain ⟨g1,g2,g3,g4⟩:=ajA hm mD D2 eq r0 r1 r2 r3;refine ⟨g1,g2,g3 l5,fun h100=>g4 ?_⟩
 clear g1 g2 g3 g4;have m67:(67:Rat)<=m:=ah6 (p:=67) (by omega)
 have i0:0<=(m:Rat)⁻¹:=by
  refine Rat.not_lt.1 fun k=>?_
  have:=Rat.mul_pos (show 0 < -(m:Rat)⁻¹ by grind) (show 0<(m:Rat) by grind)
  clear wx wy dl;grind
 have num:=aj5;exact ajk q1 q2 m67 mD' eq mi i0 up num.2 rfl (Rat.le_of_lt mo) num.1 (by clear dl wx wy;grind) wx (by clear dl wx wy;grind) wy hx0 hy0 sq dl s1 r4 r5 (Rat.mul_nonneg (ah6 (p:=0) r0) (Rat.le_of_lt up)) r3
