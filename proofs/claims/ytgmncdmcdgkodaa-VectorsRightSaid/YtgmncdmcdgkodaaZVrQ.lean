/- Plain: angles between unit vectors. -/
import Derived.Test.YtgmncdmcdgkodaaZVrP
set_option linter.unusedVariables false
set_option linter.unusedSimpArgs false
set_option maxHeartbeats 2000000
namespace Go.Proofs.Ytgmncdmcdgkodaa
open Go.RowKit Alm Sx
theorem fE {p q:IV} (h1:p.1=q.1) (h2:p.2=q.2):p=q:=Prod.ext h1 h2
theorem oG {p q:IV} (hp:U p) (hq:U q):uM p q=uM q p:=by
 rw [(U_M hp hq).1,(U_M hq hp).1];have:=JZ p.1 p.2 q.1 q.2;exact fE this.1 this.2
theorem mO {Y Z Y' Z':IV} (a:U Y) (b:U Z) (c:U Y') (d:U Z'):crX Y' Z' Y Z=uN (crX Y Z Y' Z'):=by
 unfold crX;have e1:=oG c b;have e2:=oG d a;rw [e1,e2];have u1:=(U_M a d).2.2;have u2:=(U_M b c).2.2;rw [(U_D u2 u1).1,(U_D u1 u2).1];unfold uN;exact fE (by show _=-_;simp only;omega) (by show _=-_;simp only;omega)
theorem JQ:1000000*ee<=1/2000000000:=by unfold ee;decide +kernel
theorem jw {p:IV} {k:Int} {e:Rat} (h:Tr p 0 k e) (he:e<=1000000*ee):p.1<=0/\0<=p.2:=by
 obtain ⟨_,_,h3,h4⟩:=h;have u:=fT;have b:=JQ;have bp:=bX
 have f:e<u30:=by
  have:(1:Rat)/2000000000<u30:=by rw [dL];decide +kernel
  grind
 refine ⟨ule (x:=e) (by grind) (by rw [show ((0:Int):Rat)=0 from rfl];grind),uge (x:=-e) (by grind) (by rw [show ((0:Int):Rat)=0 from rfl];grind)⟩
theorem DT {X Y Z X' Y' Z':IV} {x y z x' y' z':Rat} (A:Un X Y Z x y z) (B:Un X' Y' Z' x' y' z') :
 ((dtI (crX Y Z Y' Z') (crX Z X Z' X') (crX X Y X' Y') X Y Z).1<=0/\0<=(dtI (crX Y Z Y' Z') (crX Z X Z' X') (crX X Y X' Y') X Y Z).2) /\
 ((dtI (crX Y Z Y' Z') (crX Z X Z' X') (crX X Y X' Y') X' Y' Z').1<=0/\0<=(dtI (crX Y Z Y' Z') (crX Z X Z' X') (crX X Y X' Y') X' Y' Z').2):=by
 have C:=(lu A B).1;have e:=bX;have d1:=(mG C A.cu (by decide) (by decide) ⟨by grind,by grind⟩ ⟨by grind,by grind⟩).2
 have d2:=(mG C B.cu (by decide) (by decide) ⟨by grind,by grind⟩ ⟨by grind,by grind⟩).2
 rw [show (y*z'-z*y')*x+(z*x'-x*z')*y+(x*y'-y*x')*z=0 by clear d1 d2 C;grind] at d1
 rw [show (y*z'-z*y')*x'+(z*x'-x*z')*y'+(x*y'-y*x')*z'=0 by clear d1 d2 C;grind] at d2
 exact ⟨jw d1 (by grind),jw d2 (by grind)⟩
theorem BX {d e f:Rat} {P Q W:Int} (d3:(P:Rat)*u30-e<=d) (d4:d<=(Q:Rat)*u30+e) (t4:1-d*d<=(W:Rat)*u30+f) (c1:((-39:Int):Rat)<=(P:Rat)) (c2:(Q:Rat)<=((39:Int):Rat)) (c3:(W:Rat)<=((165:Int):Rat)) (he:e<=1/1000000000) (hf:f<=1/1000000000):False:=by
 rw [show ((-39:Int):Rat)=-39 from rfl] at c1
 rw [show ((39:Int):Rat)=39 from rfl] at c2
 rw [show ((165:Int):Rat)=165 from rfl] at c3
 have up:=fM;have ub:u30<=1/1000000000:=by rw [dL];decide +kernel
 have k1:=Rat.mul_le_mul_of_nonneg_right c1 (Rat.le_of_lt up);have k2:=Rat.mul_le_mul_of_nonneg_right c2 (Rat.le_of_lt up);have k3:=Rat.mul_le_mul_of_nonneg_right c3 (Rat.le_of_lt up);clear c1 c2 c3;generalize (P:Rat)*u30=P at *
 generalize (Q:Rat)*u30=Q at *
 generalize (W:Rat)*u30=W at *
 have b1:d<=1/1000000:=by grind
 have b2:-(1/1000000)<=d:=by grind
 have b3:=Rat.mul_nonneg (show 0<=1/1000000-d by grind) (show 0<=1/1000000+d by grind)
 grind
theorem nW {X Y Z X' Y' Z':IV} {x y z x' y' z':Rat} (A:Un X Y Z x y z) (B:Un X' Y' Z' x' y' z') :
 (er3 (crX Y Z Y' Z')=0/\er3 (crX Z X Z' X')=0/\er1 (uQ (crX Y Z Y' Z')) (uQ (crX Z X Z' X'))=0/\er3 (crX X Y X' Y')=0/\er1 (sm2 (crX Y Z Y' Z') (crX Z X Z' X')) (uQ (crX X Y X' Y'))=0/\er4 (smI (crX Y Z Y' Z') (crX Z X Z' X') (crX X Y X' Y'))=0/\er1 (dt2 X Y X' Y') (uM Z Z')=0) /\
 (uR (smI (crX Y Z Y' Z') (crX Z X Z' X') (crX X Y X' Y'))=(rtL (smI (crX Y Z Y' Z') (crX Z X Z' X') (crX X Y X' Y')).1 (smI (crX Y Z Y' Z') (crX Z X Z' X') (crX X Y X' Y')).2,rtH (smI (crX Y Z Y' Z') (crX Z X Z' X') (crX X Y X' Y')).1 (smI (crX Y Z Y' Z') (crX Z X Z' X') (crX X Y X' Y')).2)) /\
 0<=(uR (smI (crX Y Z Y' Z') (crX Z X Z' X') (crX X Y X' Y'))).1 /\
 bN (uR (smI (crX Y Z Y' Z') (crX Z X Z' X') (crX X Y X' Y'))).1 (uR (smI (crX Y Z Y' Z') (crX Z X Z' X') (crX X Y X' Y'))).2 (dtI X Y Z X' Y' Z').1 (dtI X Y Z X' Y' Z').2=false:=by
 obtain ⟨C,lag⟩:=lu A B;have e:=bX;have e2:=qd;have eu:=JQ;obtain ⟨E,T,n0⟩:=Ob C (by decide) ⟨by grind,by grind⟩
 obtain ⟨G,D⟩:=mG A.cu B.cu (by decide) (by decide) ⟨by grind,by grind⟩ ⟨by grind,by grind⟩
 rw [lag] at T;have dn:=bf (x*x'+y*y'+z*z');have cl:=C.le;rw [lag] at cl
 have sn:0<=1-(x*x'+y*y'+z*z')*(x*x'+y*y'+z*z'):=by
  rw [<-lag];have a:=bf (y*z'-z*y');have b:=bf (z*x'-x*z');have c:=bf (x*y'-y*x');clear lag cl dn T D;grind
 have fx:=yZ T (by clear lag;grind) (by clear lag;grind) (by clear lag;grind) (by decide)
 have R:=Pm fx n0;clear C lag;refine ⟨⟨E.1,E.2.1,E.2.2.1,E.2.2.2.1,E.2.2.2.2,R.1,G.2.2.2.2⟩,R.2.1,by rw [R.2.1];exact R.2.2,?_⟩
 rw [R.2.1];generalize smI (crX Y Z Y' Z') (crX Z X Z' X') (crX X Y X' Y')=S at *
 generalize dtI X Y Z X' Y' Z'=Dd at *
 generalize x*x'+y*y'+z*z'=d at *
 clear E G;cases ho:bN (rtL S.1 S.2) (rtH S.1 S.2) Dd.1 Dd.2
 . rfl
 . exfalso;have h:=of_decide_eq_true ho;have r0:rtL S.1 S.2=0:=by have:=R.2.2;omega
   rw [bM] at fx;have q:=(ko (max 0 S.1*1073741824) (by omega) (by omega)).2.2
   have r1:rtV (max 0 S.1*1073741824)=0:=r0;rw [r1] at q;have s0:S.1<=0:=by omega
   obtain ⟨t1,t2,t3,t4⟩:=T;obtain ⟨d1,d2,d3,d4⟩:=D;have c1:((-39:Int):Rat)<=(Dd.1:Rat):=Rat.intCast_le_intCast.2 (by omega)
   have c2:(Dd.2:Rat)<=((39:Int):Rat):=Rat.intCast_le_intCast.2 (by omega)
   have c3:(S.2:Rat)<=((165:Int):Rat):=Rat.intCast_le_intCast.2 (by omega)
   exact BX d3 d4 t4 c1 c2 c3 (by clear c1 c2 c3 d3 d4 t3 t4 sn dn cl h ho fx;grind) (by clear c1 c2 c3 d3 d4 t3 t4 sn dn cl h ho fx;grind)
theorem pM {a b:Int} (h:a<=0/\0<=b) (hw:b-a<=1000):sqL a b=0/\0<=sqH a b/\sqH a b<=1:=by
 have u1:=Int.mul_le_mul (show b<=1000 by omega) (show b<=1000 by omega) h.2 (by decide)
 have u2:=Int.mul_le_mul (show -a<=1000 by omega) (show -a<=1000 by omega) (by omega) (by decide)
 rw [Int.neg_mul_neg] at u2;have n1:=Int.mul_nonneg h.2 h.2;unfold sqL sqH;rw [if_pos h];refine ⟨rfl,?_,?_⟩<;>omega
theorem Dk {a b:Int} (h:0<=b/\b<=3):rtH a b<=56756:=by
 have:b=0∨b=1∨b=2∨b=3:=by omega
 rcases this with rfl|rfl|rfl|rfl<;>(unfold rtH;decide +kernel)
theorem Dy:aU 0 56756 536870912 1073742000=0/\bg 0 56756 536870912 1073742000<400:=by decide +kernel
theorem mU (x:Int) (h:x≠0) (hx:bW x):aZ x 0=(if 0<x then 0 else 10800000)/\fU x 0=true:=by
 have q:qY x 0=0:=by unfold qY;(repeat' split)<;>omega
 have qx:0<qX x 0/\qX x 0<=2147483648:=by
  have:=Alm.q_bd x 0 2147483648 (by omega) hx (by omega)
  exact ⟨this.1,this.2.1⟩
 have d:=fF x 0 (by omega) hx (by omega)
 rw [q] at d;have l:=Ed (qX x 0) qx _ d;refine ⟨?_,?_⟩
 . unfold aZ;rw [l];unfold qT
   (repeat' split)<;>omega
 . unfold fU;rw [l,q];rfl
theorem AR {H xl xh:Int} (h0:0<=H/\H<=2147483648) (hx:0<xl/\xl<=xh/\xh<=2147483648):aU 0 H xl xh=0:=by
 have eo:bN 0 H xl xh=false:=by unfold bN;simp only [decide_eq_false_iff_not];omega
 obtain ⟨f1,f2,l1,l2,fi,_,_,_,cf,_,_,eL,_⟩:=qP h0.1 hx.2.1 eo;have c:=cf xl 0 (.inl rfl) (.inl rfl);rw [Int.mul_zero] at c
 have f0:f2=0:=by
  refine Decidable.byContradiction fun q=>?_
  have:=Int.mul_pos (show 0<f2 by omega) hx.1
  omega
 have f1p:0<f1:=by omega
 rw [eL,f0,(mU f1 (by omega) (by unfold bW;omega)).1,if_pos f1p]
theorem FL {X Y Z:IV} {x y z:Rat} (A:Un X Y Z x y z) :
 aU (uR (smI (crX Y Z Y Z) (crX Z X Z X) (crX X Y X Y))).1 (uR (smI (crX Y Z Y Z) (crX Z X Z X) (crX X Y X Y))).2 (dtI X Y Z X Y Z).1 (dtI X Y Z X Y Z).2=0 /\
 bg (uR (smI (crX Y Z Y Z) (crX Z X Z X) (crX X Y X Y))).1 (uR (smI (crX Y Z Y Z) (crX Z X Z X) (crX X Y X Y))).2 (dtI X Y Z X Y Z).1 (dtI X Y Z X Y Z).2<400:=by
 have C:=(lu A A).1;obtain ⟨_,hR,h0,_⟩:=nW A A;have e:=bX;have e2:=qd;have eu:=JQ;obtain ⟨G,D⟩:=mG A.cu A.cu (by decide) (by decide) ⟨by grind,by grind⟩ ⟨by grind,by grind⟩
 rw [show x*x+y*y+z*z=1 from A.one] at D
 have de:=nY D ⟨by decide +kernel,by decide +kernel⟩ (by clear C G D;grind)
 have Dw:=D.2.1
 have Dh:1073741824<=(dtI X Y Z X Y Z).2:=by
  obtain ⟨_,_,d3,d4⟩:=D;refine uge (x:=1-(6*(8*ee)+6*(8*ee))) (by clear C G d3;grind) ?_
  have u1:=gz;have us:=fT;rw [show ((1073741824:Int):Rat)=1073741824 from rfl]
  have:(1:Rat)/2000000000<u30:=by rw [dL];decide +kernel
  clear C G d3 d4;grind
 have z1:y*z-z*y=0:=by grind
 have z2:z*x-x*z=0:=by grind
 have z3:x*y-y*x=0:=by grind
 have t1:=C.tx;rw [z1] at t1;have t2:=C.ty;rw [z2] at t2;have t3:=C.tz;rw [z3] at t3;have q1:=jw t1 (by clear C G D t1 t2 t3;grind)
 have q2:=jw t2 (by clear C G D t1 t2 t3;grind)
 have q3:=jw t3 (by clear C G D t1 t2 t3;grind)
 have s1:=pM q1 (by have:=t1.2.1;omega)
 have s2:=pM q2 (by have:=t2.2.1;omega)
 have s3:=pM q3 (by have:=t3.2.1;omega)
 have S:smI (crX Y Z Y Z) (crX Z X Z X) (crX X Y X Y)=(0,sqH (crX Y Z Y Z).1 (crX Y Z Y Z).2+sqH (crX Z X Z X).1 (crX Z X Z X).2+sqH (crX X Y X Y).1 (crX X Y X Y).2):=by
  have m:∀ p:IV,sqL p.1 p.2=0->0<=sqH p.1 p.2->sqH p.1 p.2<=1->uQ p=(0,sqH p.1 p.2):=fun p h1 h2 h3=>by
   have F:=kF (L:=sqL p.1 p.2) (H:=sqH p.1 p.2) ⟨by omega,by omega,by omega⟩
   show (fB _ _,dY _ _)=_;rw [F.1,F.2.1,h1]
  have ad:∀ a b:Int,0<=a->a<=10->0<=b->b<=10->uA (0,a) (0,b)=(0,a+b):=fun a b h1 h2 h3 h4=>by
   have F:=kF (L:=0+0) (H:=a+b) ⟨by omega,by omega,by omega⟩
   show (fB (0+0) (a+b),dY (0+0) (a+b))=_;rw [F.1,F.2.1];rfl
  show uA (uA (uQ _) (uQ _)) (uQ _)=_;rw [m _ s1.1 s1.2.1 s1.2.2,m _ s2.1 s2.2.1 s2.2.2,m _ s3.1 s3.2.1 s3.2.2,ad _ _ s1.2.1 (by omega) s2.2.1 (by omega),ad _ _ (by omega) (by omega) s3.2.1 (by omega)]
 have hS:0<=(smI (crX Y Z Y Z) (crX Z X Z X) (crX X Y X Y)).2/\(smI (crX Y Z Y Z) (crX Z X Z X) (crX X Y X Y)).2<=3:=by rw [S];simp only;omega
 have hS1:(smI (crX Y Z Y Z) (crX Z X Z X) (crX X Y X Y)).1=0:=by rw [S]
 have r3:=Dk (a:=(smI (crX Y Z Y Z) (crX Z X Z X) (crX X Y X Y)).1) hS
 have r0:rtL (smI (crX Y Z Y Z) (crX Z X Z X) (crX X Y X Y)).1 (smI (crX Y Z Y Z) (crX Z X Z X) (crX X Y X Y)).2=0:=by
  unfold rtL;rw [hS1];decide +kernel
 have rl:=(bM _ _).1 (CJ (smI (crX Y Z Y Z) (crX Z X Z X) (crX X Y X Y)));rw [hR] at rl ⊢
 simp only at rl ⊢
 rw [r0] at rl ⊢
 generalize rtH (smI (crX Y Z Y Z) (crX Z X Z X) (crX X Y X Y)).1 (smI (crX Y Z Y Z) (crX Z X Z X) (crX X Y X Y)).2=H at *
 clear t1 t2 t3 q1 q2 q3 s1 s2 s3 S hS hS1 r0 hR h0 C G;generalize dtI X Y Z X Y Z=Dd at *
 have dl:=D.1;clear D z1 z2 z3 A;have P:=Al (yl:=0) (yh:=56756) (xl:=536870912) (xh:=1073742000) (yl':=0) (yh':=H) (xl':=Dd.1) (xh':=Dd.2) (by omega) (by omega) (by omega) (by omega)
 have B:=Dy;have Z:=AR (H:=H) (xl:=Dd.1) (xh:=Dd.2) (by omega) (by omega)
 rw [B.1,Z] at P;rw [Z];exact ⟨rfl,by omega⟩
theorem FY {yl yh xl xh:Int} (h0:0<=yl) (hy:yl<=yh) (hx:xl<=xh) (hy2:yh<=2147483648) (hx2:-2147483648<=xl/\xh<=2147483648) (eo:bN yl yh xl xh=false):0<=aU yl yh xl xh/\bg yl yh xl xh<=10800000:=by
 obtain ⟨f1,f2,l1,l2,fi,li,nf0,nl0,_,_,cfl,eL,eH⟩:=qP hy hx eo;have ho:¬ (xl<=0/\0<=xh/\yl<=0/\0<=yh):=of_decide_eq_false eo;have F1:=kJ fi.1 hx hx2;have F2:bW f2:=kJ fi.2 hy ⟨by omega,hy2⟩
 have L1:=kJ li.1 hx hx2;have L2:bW l2:=kJ li.2 hy ⟨by omega,hy2⟩
 have sf:=tH _ _ nf0 F1 F2;have sl:=tH _ _ nl0 L1 L2;have gb:=rT nf0 nl0 cfl F1 F2 L1 L2;have ef:f2=0->aZ f1 f2=(if 0<f1 then 0 else 10800000):=fun h=>by subst h;exact (mU f1 (by omega) F1).1
 have el:l2=0->aZ l1 l2=(if 0<l1 then 0 else 10800000)/\fU l1 l2=true:=fun h=>by subst h;exact mU l1 (by omega) L1
 rw [eL,eH];refine ⟨sf.1.1,?_⟩
 have fa:aZ f1 f2<=10800000:=by
  by_cases h:f2=0
  . rw [ef h];split<;>omega
  . have:=sf.2.2.2.1 (by omega);omega
 have la:aZ l1 l2<=10800000/\(aZ l1 l2=10800000->fU l1 l2=true):=by
  by_cases h:l2=0
  . rw [(el h).1];exact ⟨by split<;>omega,fun _=>(el h).2⟩
  . have:=sl.2.2.2.1 (by omega);omega
 have g2:=gb.2.1
 have key:aZ f1 f2<=aZ l1 l2:=by
  refine Int.not_lt.1 fun hh=>?_
  unfold gp at g2;have a1:aZ f1 f2=10800000:=by omega
  have a2:aZ l1 l2=0:=by omega
  have f0:f2=0:=by
   refine Decidable.byContradiction fun q=>?_
   have:=sf.2.2.2.1 (by omega);omega
  have fn:f1<0:=by
   have:=ef f0;refine Int.not_le.1 fun q=>?_
   rw [if_pos (by omega)] at this
   omega
  unfold crs at cfl;rw [f0,Int.zero_mul] at cfl
  have l0:l2=0:=by
   refine Decidable.byContradiction fun q=>?_
   have:=Int.mul_lt_mul_of_neg_left (show 0<l2 by omega) fn
   omega
  have lp:0<l1:=by
   have:=(el l0).1;refine Int.not_le.1 fun q=>?_
   rw [if_neg (by omega)] at this
   omega
  omega
 have gv:gp f1 f2 l1 l2=aZ l1 l2-aZ f1 f2:=by unfold gp;omega
 rw [gv]
 by_cases h:fU l1 l2=true
 . rw [if_pos h];omega
 . rw [if_neg h];have:aZ l1 l2≠10800000:=fun q=>h (la.2 q)
   omega
theorem J4 (a b:Int):sqL (-b) (-a)=sqL a b/\sqH (-b) (-a)=sqH a b:=by
 unfold sqL sqH;rw [Int.neg_mul_neg,Int.neg_mul_neg,Int.max_comm];refine ⟨?_,rfl⟩
 by_cases h:a<=0/\0<=b
 . rw [if_pos h,if_pos (by omega)]
 . rw [if_neg h,if_neg (by omega),Int.min_comm]
theorem yH (p:IV):uQ (uN p)=uQ p:=by
 have:=J4 p.1 p.2;show (fB (sqL (-p.2) (-p.1)) (sqH (-p.2) (-p.1)),dY (sqL (-p.2) (-p.1)) (sqH (-p.2) (-p.1)))=_;rw [this.1,this.2];rfl
theorem yL {X Y Z X' Y' Z':IV} {x y z x' y' z':Rat} (A:Un X Y Z x y z) (B:Un X' Y' Z' x' y' z') :
 smI (crX Y' Z' Y Z) (crX Z' X' Z X) (crX X' Y' X Y)=smI (crX Y Z Y' Z') (crX Z X Z' X') (crX X Y X' Y')/\dtI X' Y' Z' X Y Z=dtI X Y Z X' Y' Z':=by
 constructor
 . rw [mO A.uy A.uz B.uy B.uz,mO A.uz A.ux B.uz B.ux,mO A.ux A.uy B.ux B.uy];unfold smI sm2;rw [yH,yH,yH]
 . unfold dtI dt2;rw [oG B.ux A.ux,oG B.uy A.uy,oG B.uz A.uz]
