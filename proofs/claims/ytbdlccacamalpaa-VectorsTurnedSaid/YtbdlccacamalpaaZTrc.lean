/- Intervals that hold a true number and are narrow: sums, products, squares and roots of such. -/
import Derived.Test.YtbdlccacamalpaaZUAdd
import Derived.Test.YtbdlccacamalpaaZIso
import Derived.Test.YtbdlccacamalpaaZSgn
set_option linter.unusedVariables false
set_option linter.unusedSimpArgs false
namespace Go.Proofs.Ytbdlccacamalpaa
open Go.RowKit Alm Sx
def Tr (p:IV) (x:Rat) (k:Int) (e:Rat):Prop:=p.1<=p.2/\p.2-p.1<=k/\InE p.1 p.2 x e
def uQ (p:IV):IV:=((az 3 [p.1,p.2]).getD 0 0,(az 3 [p.1,p.2]).getD 1 0)
def uR (p:IV):IV:=((az 4 [p.1,p.2]).getD 0 0,(az 4 [p.1,p.2]).getD 1 0)
theorem jh {L H:Int} (h:-2147483648<=L/\L<=H/\H<=2147483648):fU L H=L/\fJ L H=H/\jT L H=0:=by
 unfold fU fJ jT;rw [if_pos h,if_pos h,if_pos h];exact ⟨rfl,rfl,rfl⟩
theorem ule {n:Int} {m:Int} {x:Rat} (h:(n:Rat)*u30<=x) (hx:x<((m:Rat)+1)*u30):n<=m:=by
 have u:=dV;refine Int.not_lt.1 fun hh=>?_
 have c:((m+1:Int):Rat)<=(n:Rat):=Rat.intCast_le_intCast.2 (by omega)
 rw [Rat.intCast_add,show ((1:Int):Rat)=1 from rfl] at c
 have:=Rat.mul_le_mul_of_nonneg_right c (Rat.le_of_lt u);grind
theorem uge {n:Int} {m:Int} {x:Rat} (h:x<=(n:Rat)*u30) (hx:((m:Rat)-1)*u30<x):m<=n:=by
 have u:=dV;refine Int.not_lt.1 fun hh=>?_
 have c:(n:Rat)<=((m-1:Int):Rat):=Rat.intCast_le_intCast.2 (by omega)
 rw [Rat.intCast_sub,show ((1:Int):Rat)=1 from rfl] at c
 have:=Rat.mul_le_mul_of_nonneg_right c (Rat.le_of_lt u);grind
theorem ic:1/2000000000<=u30:=by rw [dm];decide +kernel
theorem vC {p:IV} {x e:Rat} {k:Int} (h:Tr p x k e) (ho:O1 x) (he:e<=1/4000000000):-1073741824-k<=p.1/\p.1<=1073741824/\-1073741824<=p.2/\p.2<=1073741824+k:=by
 obtain ⟨h1,h2,h3,h4⟩:=h;unfold O1 at ho;have u:=dz;have us:=ic;have a:p.1<=1073741824:=ule (x:=x+e) (by grind) (by rw [show ((1073741824:Int):Rat)=1073741824 from rfl];grind)
 have b:-1073741824<=p.2:=uge (x:=x-e) (by grind) (by rw [show ((-1073741824:Int):Rat)=-1073741824 from rfl];grind)
 omega
theorem Dm {a b B m:Int} (ha:-B<=a/\a<=B) (hb:0<=b/\b<=m) (hB:0<=B):-(B*m)<=a*b/\a*b<=B*m:=by
 have k1:=Int.mul_le_mul_of_nonneg_right ha.2 hb.1;have k2:=Int.mul_le_mul_of_nonneg_right ha.1 hb.1;have k3:=Int.mul_le_mul_of_nonneg_left hb.2 hB;rw [Int.neg_mul] at k2;omega
theorem gW {a b:Int} (ha:-1073742824<=a/\a<=1073742824) (hb:-1073742824<=b/\b<=1073742824):-1152923652091514976<=a*b/\a*b<=1152923652091514976:=by
 rcases Int.le_total 0 b with h|h
 . have k1:=Int.mul_le_mul_of_nonneg_right ha.2 h;have k2:=Int.mul_le_mul_of_nonneg_right ha.1 h;omega
 . have k1:=Int.mul_le_mul_of_nonpos_right ha.2 h;have k2:=Int.mul_le_mul_of_nonpos_right ha.1 h;omega
theorem mO {p q:IV} {x y e f:Rat} {k m:Int} (hp:Tr p x k e) (hq:Tr q y m f) (ox:O1 x) (oy:O1 y) (he:0<=e/\e<=1/4000000000) (hf:0<=f/\f<=1/4000000000) (hk:k<=1000) (hm:m<=1000) :
 (az 0 [p.1,p.2,q.1,q.2]).getD 2 0=0/\Tr (uM p q) (x*y) (k+m+3) (2*e+2*f)/\uM p q=(eD p.1 p.2 q.1 q.2,eY p.1 p.2 q.1 q.2):=by
 have ep:=vC hp ox he.2;have eq:=vC hq oy hf.2;obtain ⟨h1,h2,h3,h4⟩:=hp;obtain ⟨g1,g2,g3,g4⟩:=hq;obtain ⟨a,b⟩:=p;obtain ⟨c,d⟩:=q;simp only at *
 have w1:=gW (a:=a) (b:=c) (by omega) (by omega)
 have w2:=gW (a:=a) (b:=d) (by omega) (by omega)
 have w3:=gW (a:=b) (b:=c) (by omega) (by omega)
 have w4:=gW (a:=b) (b:=d) (by omega) (by omega)
 have d1:=Dm (a:=a) (b:=d-c) (B:=1073742824) (m:=m) (by omega) (by omega) (by decide)
 have d2:=Dm (a:=b) (b:=d-c) (B:=1073742824) (m:=m) (by omega) (by omega) (by decide)
 have d3:=Dm (a:=c) (b:=b-a) (B:=1073742824) (m:=k) (by omega) (by omega) (by decide)
 have d4:=Dm (a:=d) (b:=b-a) (B:=1073742824) (m:=k) (by omega) (by omega) (by decide)
 have e1:a*(d-c)=a*d-a*c:=by grind
 have e2:b*(d-c)=b*d-b*c:=by grind
 have e3:c*(b-a)=b*c-a*c:=by grind
 have e4:d*(b-a)=b*d-a*d:=by grind
 rw [e1] at d1;rw [e2] at d2;rw [e3] at d3;rw [e4] at d4
 have M:-2147483648<=eD a b c d/\eD a b c d<=eY a b c d/\eY a b c d<=2147483648/\eY a b c d-eD a b c d<=k+m+3:=by
  unfold eD eY mn4 mx4;generalize a*c=W1 at *
  generalize a*d=W2 at *
  generalize b*c=W3 at *
  generalize b*d=W4 at *
  clear e1 e2 e3 e4 ep eq h3 h4 g3 g4 ox oy he hf;omega
 have F:=jh (L:=eD a b c d) (H:=eY a b c d) ⟨M.1,M.2.1,M.2.2.1⟩
 have E:uM (a,b) (c,d)=(eD a b c d,eY a b c d):=by
  show (fU _ _,fJ _ _)=_;rw [F.1,F.2.1]
 refine ⟨F.2.2,?_,E⟩;rw [E];refine ⟨M.2.1,M.2.2.2,?_⟩;obtain ⟨x',x1,x2,x3,x4⟩:=rA (l:=(a:Rat)*u30) (h:=(b:Rat)*u30) (x:=x) (Rat.mul_le_mul_of_nonneg_right (Rat.intCast_le_intCast.2 h1) (Rat.le_of_lt dV)) h3 h4 he.1;obtain ⟨y',y1,y2,y3,y4⟩:=rA (l:=(c:Rat)*u30) (h:=(d:Rat)*u30) (x:=y) (Rat.mul_le_mul_of_nonneg_right (Rat.intCast_le_intCast.2 g1) (Rat.le_of_lt dV)) g3 g4 hf.1;have lo:=NJ (a:=a) (b:=b) (c:=c) (d:=d) (m:=eD a b c d) (by unfold eD;omega) x1 x2 y1 y2
 have hi:=Nj (a:=a) (b:=b) (c:=c) (d:=d) (m:=eY a b c d) (by unfold eY;omega) x1 x2 y1 y2
 unfold O1 at ox oy;have k1:=Rat.mul_nonneg (show 0<=1-x by grind) (show 0<=f-(y-y') by grind)
 have k2:=Rat.mul_nonneg (show 0<=1-x by grind) (show 0<=f+(y-y') by grind)
 have k3:=Rat.mul_nonneg (show 0<=1+x by grind) (show 0<=f-(y-y') by grind)
 have k4:=Rat.mul_nonneg (show 0<=1+x by grind) (show 0<=f+(y-y') by grind)
 have l1:=Rat.mul_nonneg (show 0<=2-y' by grind) (show 0<=e-(x-x') by grind)
 have l2:=Rat.mul_nonneg (show 0<=2-y' by grind) (show 0<=e+(x-x') by grind)
 have l3:=Rat.mul_nonneg (show 0<=2+y' by grind) (show 0<=e-(x-x') by grind)
 have l4:=Rat.mul_nonneg (show 0<=2+y' by grind) (show 0<=e+(x-x') by grind)
 clear M F E w1 w2 w3 w4 d1 d2 d3 d4 e1 e2 e3 e4 ep eq h1 h2 g1 g2 h3 h4 g3 g4 x1 x2 y1 y2;unfold InE;simp only;generalize (eD a b c d:Rat)*u30=P at *
 generalize (eY a b c d:Rat)*u30=Q at *
 constructor<;>grind
theorem FW {p q:IV} {x y e f:Rat} {k m:Int} (hp:Tr p x k e) (hq:Tr q y m f) (o1:-(3/2)<=x+y) (o2:x+y<=3/2) (he:e<=1/4000000000) (hf:f<=1/4000000000) (hk:k<=1000) (hm:m<=1000) :
 (az 1 [p.1,p.2,q.1,q.2]).getD 2 0=0/\Tr (uA p q) (x+y) (k+m) (e+f)/\uA p q=(p.1+q.1,p.2+q.2):=by
 obtain ⟨h1,h2,h3,h4⟩:=hp;obtain ⟨g1,g2,g3,g4⟩:=hq;obtain ⟨a,b⟩:=p;obtain ⟨c,d⟩:=q;simp only at *
 have u:=dz;have us:=ic;have i1:a+c<=1610612738:=ule (x:=x+y+e+f) (by rw [Rat.intCast_add];grind) (by rw [show ((1610612738:Int):Rat)=1610612738 from rfl];grind)
 have i2:-1610612738<=b+d:=uge (x:=x+y-e-f) (by rw [Rat.intCast_add];grind) (by rw [show ((-1610612738:Int):Rat)=-1610612738 from rfl];grind)
 have F:=jh (L:=a+c) (H:=b+d) ⟨by omega,by omega,by omega⟩
 have E:uA (a,b) (c,d)=(a+c,b+d):=by
  show (fU _ _,fJ _ _)=_;rw [F.1,F.2.1]
 refine ⟨F.2.2,?_,E⟩;rw [E];refine ⟨by show a+c<=b+d;omega,by show b+d-(a+c)<=k+m;omega,?_⟩
 unfold InE;simp only;rw [Rat.intCast_add,Rat.intCast_add];clear F E h1 h2 g1 g2 i1 i2
 constructor<;>grind
theorem RH {p q:IV} {x y e f:Rat} {k m:Int} (hp:Tr p x k e) (hq:Tr q y m f) (o1:-(3/2)<=x-y) (o2:x-y<=3/2) (he:e<=1/4000000000) (hf:f<=1/4000000000) (hk:k<=1000) (hm:m<=1000) :
 (az 2 [p.1,p.2,q.1,q.2]).getD 2 0=0/\Tr (uD p q) (x-y) (k+m) (e+f)/\uD p q=(p.1-q.2,p.2-q.1):=by
 obtain ⟨h1,h2,h3,h4⟩:=hp;obtain ⟨g1,g2,g3,g4⟩:=hq;obtain ⟨a,b⟩:=p;obtain ⟨c,d⟩:=q;simp only at *
 have u:=dz;have us:=ic;have i1:a-d<=1610612738:=ule (x:=x-y+e+f) (by rw [Rat.intCast_sub];grind) (by rw [show ((1610612738:Int):Rat)=1610612738 from rfl];grind)
 have i2:-1610612738<=b-c:=uge (x:=x-y-e-f) (by rw [Rat.intCast_sub];grind) (by rw [show ((-1610612738:Int):Rat)=-1610612738 from rfl];grind)
 have F:=jh (L:=a-d) (H:=b-c) ⟨by omega,by omega,by omega⟩
 have E:uD (a,b) (c,d)=(a-d,b-c):=by
  show (fU _ _,fJ _ _)=_;rw [F.1,F.2.1]
 refine ⟨F.2.2,?_,E⟩;rw [E];refine ⟨by show a-d<=b-c;omega,by show b-c-(a-d)<=k+m;omega,?_⟩
 unfold InE;simp only;rw [Rat.intCast_sub,Rat.intCast_sub];clear F E h1 h2 g1 g2 i1 i2
 constructor<;>grind
theorem Ec {p:IV} {x e:Rat} {k:Int} (h:Tr p x k e) (o1:-(3/2)<=x) (o2:x<=3/2) (he:e<=1/4000000000) (hk:k<=1000000):fxV p.1 p.2=true:=by
 obtain ⟨h1,h2,h3,h4⟩:=h;have u:=dz;have us:=ic;have i1:p.1<=1610612738:=ule (x:=x+e) (by grind) (by rw [show ((1610612738:Int):Rat)=1610612738 from rfl];grind)
 have i2:-1610612738<=p.2:=uge (x:=x-e) (by grind) (by rw [show ((-1610612738:Int):Rat)=-1610612738 from rfl];grind)
 rw [bT];omega
theorem Qj {p:IV} {x e:Rat} {k:Int} (hp:Tr p x k e) (ox:O1 x) (he:0<=e/\e<=1/4000000000) (hk:k<=1000) :
 (az 3 [p.1,p.2]).getD 2 0=0/\Tr (uQ p) (x*x) (2*k+3) (4*e)/\uQ p=(sqL p.1 p.2,sqH p.1 p.2)/\0<=sqL p.1 p.2:=by
 have ep:=vC hp ox he.2;obtain ⟨h1,h2,h3,h4⟩:=hp;obtain ⟨a,b⟩:=p;simp only at *
 have w1:=gW (a:=a) (b:=a) (by omega) (by omega)
 have w2:=gW (a:=b) (b:=b) (by omega) (by omega)
 have n1:0<=a*a:=by rcases Int.le_total 0 a with h|h;exact Int.mul_nonneg h h;exact Int.mul_nonneg_of_nonpos_of_nonpos h h
 have n2:0<=b*b:=by rcases Int.le_total 0 b with h|h;exact Int.mul_nonneg h h;exact Int.mul_nonneg_of_nonpos_of_nonpos h h
 have d1:=Dm (a:=a) (b:=b-a) (B:=1073742824) (m:=k) (by omega) (by omega) (by decide)
 have d2:=Dm (a:=b) (b:=b-a) (B:=1073742824) (m:=k) (by omega) (by omega) (by decide)
 have e1:a*(b-a)=a*b-a*a:=by grind
 have e2:b*(b-a)=b*b-a*b:=by grind
 rw [e1] at d1;rw [e2] at d2
 have st:a<=0/\0<=b->a*a<=1000000/\b*b<=1000000:=fun h=>by
  have u1:=Int.mul_le_mul (show b<=1000 by omega) (show b<=1000 by omega) h.2 (by decide)
  have u2:=Int.mul_le_mul (show -a<=1000 by omega) (show -a<=1000 by omega) (by omega) (by decide)
  rw [Int.neg_mul_neg] at u2;omega
 have M:0<=sqL a b/\sqL a b<=sqH a b/\sqH a b<=2147483648/\sqH a b-sqL a b<=2*k+3:=by
  unfold sqL sqH
  by_cases h:a<=0/\0<=b
  . have:=st h;rw [if_pos h];generalize a*a=W1 at *
    generalize b*b=W2 at *
    generalize a*b=W3 at *
    clear e1 e2 ep h3 h4 ox he st;omega
  . rw [if_neg h];generalize a*a=W1 at *
    generalize b*b=W2 at *
    generalize a*b=W3 at *
    clear e1 e2 ep h3 h4 ox he st;omega
 have F:=jh (L:=sqL a b) (H:=sqH a b) ⟨by omega,M.2.1,M.2.2.1⟩
 have E:uQ (a,b)=(sqL a b,sqH a b):=by
  show (fU _ _,fJ _ _)=_;rw [F.1,F.2.1]
 refine ⟨F.2.2,?_,E,M.1⟩;rw [E];refine ⟨M.2.1,M.2.2.2,?_⟩;obtain ⟨x',x1,x2,x3,x4⟩:=rA (l:=(a:Rat)*u30) (h:=(b:Rat)*u30) (x:=x) (Rat.mul_le_mul_of_nonneg_right (Rat.intCast_le_intCast.2 h1) (Rat.le_of_lt dV)) h3 h4 he.1;have up:=dV;have u1:=dz
 have hi:x'*x'<=(sqH a b:Rat)*u30:=by
  have hm:∀ s:Int,s*s<=sqH a b*1073741824->((s:Rat)*u30)*((s:Rat)*u30)<=(sqH a b:Rat)*u30:=fun s h=>by
   have c:((s*s:Int):Rat)<=((sqH a b*1073741824:Int):Rat):=Rat.intCast_le_intCast.2 h;rw [Rat.intCast_mul,Rat.intCast_mul,show ((1073741824:Int):Rat)=1073741824 from rfl] at c
   have:=Rat.mul_nonneg (show 0<=(sqH a b:Rat)*1073741824-(s:Rat)*s by grind) (Rat.mul_nonneg (Rat.le_of_lt up) (Rat.le_of_lt up))
   have e:(sqH a b:Rat)*1073741824*(u30*u30)=(sqH a b:Rat)*u30*(1073741824*u30):=by grind
   rw [u1,Rat.mul_one] at e;grind
  have ha:=hm a (by unfold sqH;omega)
  have hb:=hm b (by unfold sqH;omega)
  clear M F E w1 w2 n1 n2 d1 d2 e1 e2 st ep;generalize (a:Rat)*u30=A at *
  generalize (b:Rat)*u30=B at *
  generalize (sqH a b:Rat)*u30=Q at *
  by_cases h:0<=x'
  . have:=Rat.mul_nonneg (show 0<=B-x' by grind) (show 0<=B+x' by grind);grind
  . have:=Rat.mul_nonneg (show 0<=x'-A by grind) (show 0<=-(A+x') by grind);grind
 have lo:(sqL a b:Rat)*u30<=x'*x':=by
  by_cases h:a<=0/\0<=b
  . have:sqL a b=0:=by unfold sqL;rw [if_pos h];rfl
    rw [this,show ((0:Int):Rat)=0 from rfl]
    have:=bX x'
    grind
  . have hm:∀ s:Int,sqL a b*1073741824<=s*s->(sqL a b:Rat)*u30<=((s:Rat)*u30)*((s:Rat)*u30):=fun s h=>by
     have c:((sqL a b*1073741824:Int):Rat)<=((s*s:Int):Rat):=Rat.intCast_le_intCast.2 h;rw [Rat.intCast_mul,Rat.intCast_mul,show ((1073741824:Int):Rat)=1073741824 from rfl] at c
     have:=Rat.mul_nonneg (show 0<=(s:Rat)*s-(sqL a b:Rat)*1073741824 by grind) (Rat.mul_nonneg (Rat.le_of_lt up) (Rat.le_of_lt up))
     have e:(sqL a b:Rat)*1073741824*(u30*u30)=(sqL a b:Rat)*u30*(1073741824*u30):=by grind
     rw [u1,Rat.mul_one] at e;grind
    have ha:=hm a (by unfold sqL;rw [if_neg h];omega)
    have hb:=hm b (by unfold sqL;rw [if_neg h];omega)
    have side:(0:Rat)<=(a:Rat)*u30∨(b:Rat)*u30<=0:=by
     by_cases q:0<=a
     . left;exact Rat.mul_nonneg (Rat.intCast_le_intCast.2 q) (Rat.le_of_lt up)
     . right
       have:(b:Rat)<=0:=Rat.intCast_le_intCast.2 (show b<=0 by omega)
       have:=Rat.mul_nonneg (show 0<=-(b:Rat) by grind) (Rat.le_of_lt up)
       grind
    clear M F E w1 w2 n1 n2 d1 d2 e1 e2 st ep hi h;generalize (a:Rat)*u30=A at *
    generalize (b:Rat)*u30=B at *
    generalize (sqL a b:Rat)*u30=Q at *
    rcases side with s|s
    . have:=Rat.mul_nonneg (show 0<=x'-A by grind) (show 0<=A+x' by grind);grind
    . have:=Rat.mul_nonneg (show 0<=B-x' by grind) (show 0<=-(B+x') by grind);grind
 unfold O1 at ox;have k1:=Rat.mul_nonneg (show 0<=1-x by grind) (show 0<=e-(x-x') by grind)
 have k2:=Rat.mul_nonneg (show 0<=1-x by grind) (show 0<=e+(x-x') by grind)
 have k3:=Rat.mul_nonneg (show 0<=1+x by grind) (show 0<=e-(x-x') by grind)
 have k4:=Rat.mul_nonneg (show 0<=1+x by grind) (show 0<=e+(x-x') by grind)
 have l1:=Rat.mul_nonneg (show 0<=2-x' by grind) (show 0<=e-(x-x') by grind)
 have l2:=Rat.mul_nonneg (show 0<=2-x' by grind) (show 0<=e+(x-x') by grind)
 have l3:=Rat.mul_nonneg (show 0<=2+x' by grind) (show 0<=e-(x-x') by grind)
 have l4:=Rat.mul_nonneg (show 0<=2+x' by grind) (show 0<=e+(x-x') by grind)
 clear M F E w1 w2 n1 n2 d1 d2 e1 e2 st ep h1 h2 h3 h4 x1 x2;unfold InE;simp only;generalize (sqL a b:Rat)*u30=P at *
 generalize (sqH a b:Rat)*u30=Q at *
 constructor<;>grind
theorem JJ {a b:Int} {z e:Rat} (hz:0<=z) (he:0<=e) (h:(a:Rat)*u30-e<=z*z) (ha:a<=2147483648):(rtL a b:Rat)*u30<=z+1073741824*e:=by
 have up:=dV;have u1:=dz;obtain ⟨r0,r1,_⟩:=gV (max 0 a*1073741824) (by omega) (by omega)
 have c0:(0:Rat)<=rtL a b:=Rat.intCast_le_intCast.2 r0;have e0:=Rat.mul_nonneg (show (0:Rat)<=1073741824 by decide) he
 by_cases q:rtL a b=0
 . rw [q,show ((0:Int):Rat)=0 from rfl];grind
 . have p0:(1:Int)<=rtL a b:=by unfold rtL at *;omega
   have p1:((1:Int):Rat)<=rtL a b:=Rat.intCast_le_intCast.2 p0;rw [show ((1:Int):Rat)=1 from rfl] at p1
   have r1':rtL a b*rtL a b<=max 0 a*1073741824:=r1
   have am:max 0 a=a:=by
    by_cases q2:0<=a
    . omega
    . exfalso;rw [show max 0 a=0 by omega,Int.zero_mul] at r1'
      have:1<=rtL a b:=by unfold rtL at *;omega
      have:=Int.mul_le_mul this this (by decide) (by omega)
      omega
   rw [am] at r1'
   have c:((rtL a b*rtL a b:Int):Rat)<=((a*1073741824:Int):Rat):=Rat.intCast_le_intCast.2 r1'
   rw [Rat.intCast_mul,Rat.intCast_mul,show ((1073741824:Int):Rat)=1073741824 from rfl] at c
   clear r0 r1 r1' am q ha;generalize (rtL a b:Rat)=r at *
   generalize (a:Rat)=a at *
   have k1:=Rat.mul_nonneg (show 0<=a*1073741824-r*r by grind) (Rat.mul_nonneg (Rat.le_of_lt up) (Rat.le_of_lt up))
   have e1:a*1073741824*(u30*u30)=a*u30*(1073741824*u30):=by grind
   rw [u1,Rat.mul_one] at e1;have sq:(r*u30)*(r*u30)<=z*z+e:=by grind
   have ru:=Rat.mul_nonneg (show 0<=r-1 by grind) (Rat.le_of_lt up)
   refine Rat.not_lt.1 fun hh=>?_
   have k2:=Rat.mul_nonneg (show 0<=r*u30-(z+1073741824*e) by grind) (show 0<=r*u30+z by grind)
   have k3:=Rat.mul_nonneg e0 (show 0<=r*u30+z-u30 by grind)
   have k4:1073741824*e*u30=e:=by
    have:1073741824*e*u30=e*(1073741824*u30):=by grind
    rw [this,u1,Rat.mul_one]
   have k5:=Rat.mul_pos (show 0<r*u30-(z+1073741824*e) by grind) (show 0<r*u30+z by grind)
   grind
theorem GY {a b:Int} {z e:Rat} (hz:0<=z) (he:0<=e) (h:z*z<=(b:Rat)*u30+e) (hb:1<=b/\b<=2147483648):z<=(rtH a b:Rat)*u30+1073741824*e:=by
 have up:=dV;have u1:=dz;obtain ⟨r0,r1,r2⟩:=gV (b*1073741824) (by omega) (by omega)
 have rh:1<=rtH a b/\b*1073741824<=rtH a b*rtH a b:=by
  unfold rtH
  have p:0<rtV (b*1073741824):=by
   refine Int.not_le.1 fun hh=>?_
   have:rtV (b*1073741824)=0:=by omega
   rw [this] at r2;omega
  split
  . have:(rtV (b*1073741824)+1)*(rtV (b*1073741824)+1)=rtV (b*1073741824)*rtV (b*1073741824)+2*rtV (b*1073741824)+1:=by grind
    omega
  . omega
 have c0:(1:Rat)<=rtH a b:=Rat.intCast_le_intCast.2 rh.1;have e0:=Rat.mul_nonneg (show (0:Rat)<=1073741824 by decide) he
 have c:((b*1073741824:Int):Rat)<=((rtH a b*rtH a b:Int):Rat):=Rat.intCast_le_intCast.2 rh.2;rw [Rat.intCast_mul,Rat.intCast_mul,show ((1073741824:Int):Rat)=1073741824 from rfl] at c
 clear r0 r1 r2 rh hb;generalize (rtH a b:Rat)=r at *
 generalize (b:Rat)=b at *
 have k1:=Rat.mul_nonneg (show 0<=r*r-b*1073741824 by grind) (Rat.mul_nonneg (Rat.le_of_lt up) (Rat.le_of_lt up))
 have e1:b*1073741824*(u30*u30)=b*u30*(1073741824*u30):=by grind
 rw [u1,Rat.mul_one] at e1;have sq:z*z<=(r*u30)*(r*u30)+e:=by grind
 have ru:=Rat.mul_nonneg (show 0<=r-1 by grind) (Rat.le_of_lt up)
 refine Rat.not_lt.1 fun hh=>?_
 have k3:=Rat.mul_nonneg e0 (show 0<=r*u30+z-u30 by grind)
 have k4:1073741824*e*u30=e:=by
  have:1073741824*e*u30=e*(1073741824*u30):=by grind
  rw [this,u1,Rat.mul_one]
 have k5:=Rat.mul_pos (show 0<z-(r*u30+1073741824*e) by grind) (show 0<r*u30+z by grind)
 grind
