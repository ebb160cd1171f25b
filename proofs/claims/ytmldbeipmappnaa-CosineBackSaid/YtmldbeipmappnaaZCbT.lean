/- Plain: hour angles are found again. -/
import Derived.Test.YtmldbeipmappnaaZDs
import Derived.Test.YtmldbeipmappnaaZSpC
import Derived.Test.YtmldbeipmappnaaZQoP
import Derived.Test.YtmldbeipmappnaaZCosM
set_option linter.unusedVariables false
set_option linter.unusedSimpArgs false
namespace Go.Proofs.Ytmldbeipmappnaa
open Go.RowKit Alm Sx
theorem afA {lo hi:Int} {x e:Rat} (ox:O1 x) (h:InE lo hi x e) (he:0<=e):InE (uS (qw lo) (qV hi)).1 (uS (qw lo) (qV hi)).2 x (e+5*ee):=by
 have ep:=bz;have u1:=fe;unfold O1 at ox;unfold InE at h;have a:=(CG (qw lo) (qV hi) (qw lo) (.inl rfl)).1;have b:=(CG (qw lo) (qV hi) (qV hi) (.inr rfl)).2;show ((bU (qw lo) (qV hi):Int):Rat)*u30-_<=x/\x<=((bW (qw lo) (qV hi):Int):Rat)*u30+_;generalize ((bU (qw lo) (qV hi):Int):Rat)=p at *
 generalize ((bW (qw lo) (qV hi):Int):Rat)=q at *
 constructor
 . have k:sg (qw lo)<=x+e+2*ee:=by
    clear a b;unfold qw;obtain ⟨_,_,a2,_⟩:=dE (max lo (-1073741824));generalize bR (max lo (-1073741824))=m at *
    have s:=(ww m).2
    have l:bHi m<=max lo (-1073741824):=by
     rcases a2 with a2|a2
     . rw [a2];have:bHi (-5400000)=-1073741824:=by decide +kernel
       omega
     . exact a2
    have c:max lo (-1073741824)=lo∨max lo (-1073741824)=-1073741824:=by omega
    rcases c with c|c
    . rw [c] at l;have u:=zt l;clear c l a2;grind
    . rw [c] at l;have u:=zt l;rw [show ((-1073741824:Int):Rat)=-1073741824 from rfl] at u
      clear c l a2;grind
   clear b h;grind
 . have k:x<=sg (qV hi)+e+2*ee:=by
    clear a b;unfold qV;obtain ⟨_,_,a2,_⟩:=dE (-(min hi 1073741824));generalize bR (-(min hi 1073741824))=m at *
    have s:=(ww (-m)).1;have hn:=(ack m).1
    have l:min hi 1073741824<=bLo (-m):=by
     rcases a2 with a2|a2
     . rw [a2];have:bLo (- -5400000)=1073741824:=by decide +kernel
       omega
     . omega
    have c:min hi 1073741824=hi∨min hi 1073741824=1073741824:=by omega
    rcases c with c|c
    . rw [c] at l;have u:=zt l;clear c l a2 hn;grind
    . rw [c] at l;have u:=zt l;rw [show ((1073741824:Int):Rat)=1073741824 from rfl] at u
      clear c l a2 hn;grind
   clear a h;grind
theorem afP {y n:Int} (hn:0<=n/\n<=10800000) (h:(y:Rat)*u30<=cg n+1/2*gap):n<=jc y:=by
 have e2:rD y (-1073741824)=max y (-1073741824):=by unfold rD;split<;>omega
 have s:=(gq (-n)).1;have c:=aaZ n;have ep:=bz;have g:=Ad.2.2.2
 have k:=G9 (lo:=y) (n:=5400000-n) (by omega) (by omega) (by
  rw [show (5400000:Int)-n=-n+5400000 by omega]
  unfold Nr at s c;grind)
 unfold qw at k;unfold jc;rw [e2];omega
theorem afU {y n:Int} (hn:0<=n/\n<=10800000) (h:cg n<=(y:Rat)*u30+1/2*gap):jJ y<=n:=by
 have e2:yn y 1073741824=min y 1073741824:=by unfold yn;split<;>omega
 have s:=(gq (-n)).1;have c:=aaZ n;have ep:=bz;have g:=Ad.2.2.2
 have k:=RO (hi:=y) (n:=5400000-n) (by omega) (by omega) (by
  rw [show (5400000:Int)-n=-n+5400000 by omega]
  unfold Nr at s c;grind)
 unfold qV at k;unfold jJ;rw [e2];omega
theorem pY {P d q:Int} (hd:0<d) (h:q=P/d):(q:Rat)*d<=P:=by
 have:=Int.ediv_mul_le P (b:=d) (by omega)
 rw [<-h] at this;have c:((q*d:Int):Rat)<=(P:Rat):=dA this;rw [Rat.intCast_mul] at c;exact c
theorem Fa {n W t L L1 L2 d0 d1 e f g u:Rat} (hu:0<u) (hd:u<=d0) (hd2:d0<=d1) (he:0<=e) (hf:0<=f) (hf2:2*f<=u) (hg:4*(e+f)<=g*u) (N:n-e<=W*t) (D1:d0-f<=W) (D2:W<=d1+f) (t1:-1<=t) (t2:t<=1) (c1:L1*d0<=n) (c2:L2*d1<=n) (l1:L<=L1) (l2:L<=L2):L<=t+g:=by
 refine Rat.not_lt.1 fun hh=>?_
 have g0:0<=g:=by
  refine Rat.not_lt.1 fun k=>?_
  have:=Rat.mul_pos (show 0 < -g by grind) hu
  grind
 by_cases q:0<=n
 . have a:=Rat.mul_nonneg (show 0<=L2-L by grind) (show 0<=d1 by grind)
   have b:=Rat.mul_pos (show 0<L-(t+g) by grind) (show 0<d1 by grind)
   have c:=Rat.mul_nonneg g0 (show 0<=d1-u by grind)
   by_cases p:0<=t
   . have d:=Rat.mul_nonneg (show 0<=d1+f-W by grind) p
     have k:=Rat.mul_nonneg hf (show 0<=1-t by grind)
     grind
   . have d:=Rat.mul_nonneg (show 0<=W-1/2*u by grind) (show 0<=-t by grind)
     have k:-t*u<=2*e:=by grind
     have r:0<=t+g:=by
      refine Rat.not_lt.1 fun z=>?_
      have:=Rat.mul_pos (show 0 < -(t+g) by grind) hu
      grind
     have s:=Rat.mul_nonneg (show 0<=L-(t+g) by grind) (show 0<=d1-u by grind)
     have s2:=Rat.mul_nonneg r (show 0<=d1-u by grind)
     have w:=Rat.mul_nonneg (show 0<=W by grind) (show 0<=-t by grind)
     grind
 . by_cases p:0<=t
   . have a:=Rat.mul_nonneg (show 0<=L1 by grind) (show 0<=d0 by grind)
     grind
   . have a:=Rat.mul_nonneg (show 0<=L1-L by grind) (show 0<=d0 by grind)
     have b:=Rat.mul_pos (show 0<L-(t+g) by grind) (show 0<d0 by grind)
     have c:=Rat.mul_nonneg g0 (show 0<=d0-u by grind)
     have d:=Rat.mul_nonneg (show 0<=W-(d0-f) by grind) (show 0<=-t by grind)
     have k:=Rat.mul_nonneg hf (show 0<=1+t by grind)
     grind
theorem quo_holds {n0 n1 d0 d1:Int} {W t:Rat} (hn:n0<=n1) (hd:0<d0/\d0<=d1) (ot:O1 t) (N:InE n0 n1 (W*t) (40*ee)) (D:InE d0 d1 W (10*ee)) :
 (qoL n0 n1 d0 d1 1073741824:Rat)*u30<=t+1/4*gap/\t<=(qoH n0 n1 d0 d1 1073741824:Rat)*u30+1/4*gap:=by
 have up:=dU;have u1:=fe;have ep:=bz;have sm:4*(40*ee+10*ee)<=1/4*gap*u30/\2*(10*ee)<=u30:=by rw [dY];unfold ee gap;decide +kernel
 unfold O1 at ot;unfold InE at N D;have one:((1:Int):Rat)=1:=rfl;have dp:(1:Rat)<=d0:=by rw [<-one];exact dA (by omega)
 have du:=Rat.mul_nonneg (show 0<=(d0:Rat)-1 by clear N D;grind) (Rat.le_of_lt up)
 have dd1:=zt hd.2
 have F:∀ P d:Int,0<d->((qFl P 1073741824 d:Int):Rat)*u30*(d*u30)<=P*u30/\(P:Rat)*u30<=((qCe P 1073741824 d:Int):Rat)*u30*(d*u30):=fun P d h=>by
  have a:=pY h (q:=qFl P 1073741824 d) rfl;have b:=pY (P:=-(P*1073741824)) h (q:=-qCe P 1073741824 d) (by unfold qCe;omega)
  rw [Rat.intCast_neg,Rat.intCast_neg,Rat.intCast_mul,show ((1073741824:Int):Rat)=1073741824 from rfl] at b
  rw [Rat.intCast_mul,show ((1073741824:Int):Rat)=1073741824 from rfl] at a
  have uu:=Rat.mul_nonneg (Rat.le_of_lt up) (Rat.le_of_lt up);have k1:=Rat.mul_nonneg uu (show 0<=(P:Rat)*1073741824-(qFl P 1073741824 d:Rat)*d by clear N D b;grind)
  have k2:=Rat.mul_nonneg uu (show 0<=(qCe P 1073741824 d:Rat)*d-(P:Rat)*1073741824 by clear N D a k1;grind)
  have z:(P:Rat)*u30*(1073741824*u30)=P*u30:=by rw [u1,Rat.mul_one]
  clear N D a b du dd1 dp
  constructor<;>grind
 obtain ⟨a1,_⟩:=F n0 d0 hd.1;obtain ⟨a2,_⟩:=F n0 d1 (by omega)
 obtain ⟨_,b1⟩:=F n1 d0 hd.1;obtain ⟨_,b2⟩:=F n1 d1 (by omega)
 clear F;have l1:=zt (show qoL n0 n1 d0 d1 1073741824<=qFl n0 1073741824 d0 by unfold qoL;omega)
 have l2:=zt (show qoL n0 n1 d0 d1 1073741824<=qFl n0 1073741824 d1 by unfold qoL;omega)
 have h1:=zt (show qCe n1 1073741824 d0<=qoH n0 n1 d0 d1 1073741824 by unfold qoH;omega)
 have h2:=zt (show qCe n1 1073741824 d1<=qoH n0 n1 d0 d1 1073741824 by unfold qoH;omega)
 constructor
 . exact Fa (n:=n0*u30) (W:=W) (t:=t) (d0:=d0*u30) (d1:=d1*u30) (e:=40*ee) (f:=10*ee) (g:=1/4*gap) (u:=u30) up (by clear N D a1 a2 b1 b2 l1 l2 h1 h2;grind) dd1 (by clear N D a1 a2 b1 b2 l1 l2 h1 h2;grind) (by clear N D a1 a2 b1 b2 l1 l2 h1 h2;grind) sm.2 sm.1 N.1 D.1 D.2 ot.1 ot.2 a1 a2 l1 l2
 . have k:=Fa (n:=-(n1*u30)) (W:=W) (t:=-t) (d0:=d0*u30) (d1:=d1*u30) (e:=40*ee) (f:=10*ee) (g:=1/4*gap) (u:=u30) (L:=-((qoH n0 n1 d0 d1 1073741824:Rat)*u30)) (L1:=-(((qCe n1 1073741824 d0:Int):Rat)*u30)) (L2:=-(((qCe n1 1073741824 d1:Int):Rat)*u30)) up (by clear N D a1 a2 b1 b2 l1 l2 h1 h2;grind) dd1 (by clear N D a1 a2 b1 b2 l1 l2 h1 h2;grind) (by clear N D a1 a2 b1 b2 l1 l2 h1 h2;grind) sm.2 sm.1 (by have:=N.2;clear N D a1 a2 b1 b2 l1 l2 h1 h2;grind) D.1 D.2 (by clear N D a1 a2 b1 b2 l1 l2 h1 h2;grind) (by clear N D a1 a2 b1 b2 l1 l2 h1 h2;grind) (by clear N D a1 a2 b2 l1 l2 h1 h2;grind) (by clear N D a1 a2 b1 l1 l2 h1 h2;grind) (by clear N D a1 a2 b1 b2 l1 l2 h2;grind) (by clear N D a1 a2 b1 b2 l1 l2 h1;grind)
   clear N D a1 a2 b1 b2 l1 l2 h1 h2;grind
def haN (a b c d e f:Int):IV:=uD (uS e f) (uM (uS a b) (uS c d))
def haD (a b c d:Int):IV:=uM (uC a b) (uC c d)
theorem vN (l d t:Int) (hl:-5400000<=l/\l<=5400000) (hd:-5400000<=d/\d<=5400000) (ht:0<=t/\t<=10800000) (N D:IV) (eN:N=haN l l d d ((eF l l d d t t).getD 0 0) ((eF l l d d t t).getD 1 0)) (eD:D=haD l l d d) (p:0<D.1) :
 (qoL N.1 N.2 D.1 D.2 1073741824<=1073741824/\-1073741824<=qoH N.1 N.2 D.1 D.2 1073741824)/\jJ (min (qoH N.1 N.2 D.1 D.2 1073741824) 1073741824)<=t/\t<=jc (max (qoL N.1 N.2 D.1 D.2 1073741824) (-1073741824)):=by
 have ep:=bz;have p2:(0:Rat)<=2*ee:=by grind
 have T:=afe l d t t t (.inl rfl);obtain ⟨v0,v1,_⟩:=eB l l d d t t;rw [v0,v1] at eN
 have oS:O1 (sg l*sg d+cg l*cg d*cg t):=by
  have:=xV l d t;have a:=bT (cg l*sg d-sg l*cg d*cg t);have b:=bT (sg t*cg d);unfold dtp at this;generalize sg l*sg d+cg l*cg d*cg t=D at *
  have h:D*D<=1:=by clear T;grind
  clear T this a b;unfold O1
  constructor
  . refine Rat.not_lt.1 fun k=>?_
    have:=Rat.mul_pos (show 0 < -1-D by grind) (show 0<1-D by grind);grind
  . refine Rat.not_lt.1 fun k=>?_
    have:=Rat.mul_pos (show 0<D-1 by grind) (show 0<D+1 by grind);grind
 have H:=afA oS T (by clear T;grind)
 have sl:=fI (U_S l l) (U_S d d) (lm l) (lm d) p2 p2 (g1 l).2;have um:=(U_M (U_S l l) (U_S d d)).2.2;have X:=Fe (U_S _ _) um H sl;have cl:=fI (U_C l l) (U_C d d) (jq l) (jq d) p2 p2 (g1 l).1;have uc:=(U_M (U_C l l) (U_C d d)).2.2;have e1:sg l*sg d+cg l*cg d*cg t-sg l*sg d=cg l*cg d*cg t:=by clear T H X sl cl;grind
 rw [e1] at X;have X':InE N.1 N.2 (cg l*cg d*cg t) (40*ee):=by rw [eN];exact X.le (by clear T H X sl cl;grind)
 have C':InE D.1 D.2 (cg l*cg d) (10*ee):=by rw [eD];exact InE.le cl (by clear T H X sl cl;grind)
 have fN:=(cZ _ _).1 (U_D (U_S (qw (VB l l d d t t).1) (qV (VB l l d d t t).2)) um).2.2;have fN':N.1<=N.2:=by rw [eN];exact fN.2.1
 have fD:D.1<=D.2:=by rw [eD];exact uc.2.1
 have Q:=quo_holds fN' ⟨p,fD⟩ (g1 t).1 X' C'
 clear T H X sl cl um uc e1 X' C' fN fN' eN eD v0 v1 oS;generalize qoL N.1 N.2 D.1 D.2 1073741824=L at *
 generalize qoH N.1 N.2 D.1 D.2 1073741824=G at *
 have o:=(g1 t).1;unfold O1 at o;have u1:=fe;have up:=dU;have g:=Ai.2;have gs:1/4*gap<u30:=by rw [dY];unfold gap;decide +kernel
 have big:((1073741824:Int):Rat)=1073741824:=rfl;refine ⟨⟨?_,?_⟩,afU ht ?_,afP ht ?_⟩
 . refine Int.not_lt.1 fun k=>?_
   have a:=zt (show 1073741824+1<=L by omega)
   rw [Rat.intCast_add,big,show ((1:Int):Rat)=1 from rfl] at a
   clear fD;grind
 . refine Int.not_lt.1 fun k=>?_
   have a:=zt (show G<=-1073741824-1 by omega)
   rw [Rat.intCast_sub,show ((-1073741824:Int):Rat)=-1073741824 from rfl,show ((1:Int):Rat)=1 from rfl] at a
   clear fD;grind
 . have c:min G 1073741824=G∨min G 1073741824=1073741824:=by omega
   rcases c with c|c
   . rw [c];clear c;grind
   . rw [c,big];clear c Q;grind
 . have c:max L (-1073741824)=L∨max L (-1073741824)=-1073741824:=by omega
   rcases c with c|c
   . rw [c];clear c;grind
   . rw [c,show ((-1073741824:Int):Rat)=-1073741824 from rfl];clear c Q;grind
