/- Plain: the place, the length and the local coordinates of the vector of a position. -/
import Derived.Test.YtbdlccacamalpaaZVpP
set_option linter.unusedVariables false
set_option linter.unusedSimpArgs false
namespace Go.Proofs.Ytbdlccacamalpaa
open Go.RowKit Alm Sx
theorem Ir {p:IV} {k:Int} {e:Rat} (h:Tr p 1 k e) (he:e<=1000000*ee):p.1<=1073741824/\1073741824<=p.2:=by
 obtain ⟨_,_,h3,h4⟩:=h;have u1:=dz;have hs:(1:Rat)/2000000000<u30:=by rw [dm];decide +kernel
 have b:=Dv;exact ⟨ule (x:=1+e) (by clear h4;grind) (by rw [show ((1073741824:Int):Rat)=1073741824 from rfl];clear h3 h4;grind),uge (x:=1-e) (by clear h3;grind) (by rw [show ((1073741824:Int):Rat)=1073741824 from rfl];clear h3 h4;grind)⟩
theorem EJ {X Y Z:IV} {x y z:Rat} (A:Un X Y Z x y z):(dtI X Y Z X Y Z).1<=1073741824/\1073741824<=(dtI X Y Z X Y Z).2/\(dtI X Y Z X Y Z).2-(dtI X Y Z X Y Z).1<40:=by
 have e:=bC;have eu:=Dv;obtain ⟨G,D⟩:=E9 A.cu A.cu (by decide) (by decide) ⟨by grind,by grind⟩ ⟨by grind,by grind⟩
 rw [show x*x+y*y+z*z=1 from A.one] at D
 obtain ⟨_,d2,d3,d4⟩:=D;have u1:=dz;have hs:(1:Rat)/2000000000<u30:=by rw [dm];decide +kernel
 clear G A;refine ⟨ule (x:=1+(6*(8*ee)+6*(8*ee))) (by clear d4;grind) (by rw [show ((1073741824:Int):Rat)=1073741824 from rfl];clear d3 d4;grind),uge (x:=1-(6*(8*ee)+6*(8*ee))) (by clear d3;grind) (by rw [show ((1073741824:Int):Rat)=1073741824 from rfl];clear d3 d4;grind),by omega⟩
theorem GU (l m:Int) (hl:-5400000<=l/\l<=5400000) (S:IV) (hS:S=hoI (uM (uC l l) (uC m m)) (uM (uC l l) (uS m m))):((S.1:Rat)-1/40000000<=1073741824*cg l/\(1073741824:Rat)*cg l<=(S.2:Rat)+1/40000000)/\(9/10<=cg l->0<S.1):=by
 have A:=zU l m;have e:=bC;have eu:=Dv;have e2:=wU;obtain ⟨ox,oy,_⟩:=I9 A.one;have Q1:=Qj A.tx ox ⟨by grind,by grind⟩ (by decide)
 have Q2:=Qj A.ty oy ⟨by grind,by grind⟩ (by decide)
 have one:=iT m
 have cc:(cg l*cg m)*(cg l*cg m)+(cg l*sg m)*(cg l*sg m)=cg l*cg l:=by
  have:=congrArg (·*(cg l*cg l)) one;grind
 have c0:0<=cg l:=vk l (by omega)
 have c1:=(g1 l).1
 have sq1:cg l*cg l<=1:=by
  unfold O1 at c1;have:=Rat.mul_nonneg c0 (show 0<=1-cg l by grind)
  grind
 have sq0:=bX (cg l);have T:=FW Q1.2.1 Q2.2.1 (by rw [cc];grind) (by rw [cc];grind) (by grind) (by grind) (by decide) (by decide)
 rw [cc] at T;have s0:=(EN A.ux A.uy).2;have fx:fxV (sm2 (uM (uC l l) (uC m m)) (uM (uC l l) (uS m m))).1 (sm2 (uM (uC l l) (uC m m)) (uM (uC l l) (uS m m))).2=true:=oO _ _;have R:=I6 fx s0;have fb:=(bT _ _).1 fx;have T2:Tr (sm2 (uM (uC l l) (uC m m)) (uM (uC l l) (uS m m))) (cg l*cg l) 26 (64*ee):=T.2.1.le (by decide) (by grind)
 have eS:S=(rtL (sm2 (uM (uC l l) (uC m m)) (uM (uC l l) (uS m m))).1 (sm2 (uM (uC l l) (uC m m)) (uM (uC l l) (uS m m))).2,rtH (sm2 (uM (uC l l) (uC m m)) (uM (uC l l) (uS m m))).1 (sm2 (uM (uC l l) (uC m m)) (uM (uC l l) (uS m m))).2):=hS.trans R.2.1;rw [eS];simp only;clear eS hS S A Q1 Q2 one cc T R ox oy fx;generalize sm2 (uM (uC l l) (uC m m)) (uM (uC l l) (uS m m))=s at *
 generalize cg l=z at *
 obtain ⟨t1,t2,t3,t4⟩:=T2;have u1:=dz;have up:=dV;have tiny:1073741824*(1073741824*(64*ee))<=1/40000000:=by unfold ee;decide +kernel
 have conv:∀ w:Rat,(w*u30)*1073741824=w:=fun w=>by
  have:(w*u30)*1073741824=w*(1073741824*u30):=by grind
  rw [this,u1,Rat.mul_one]
 refine ⟨⟨?_,?_⟩,fun h9=>?_⟩
 . have a:=JJ (a:=s.1) (b:=s.2) c0 (show 0<=64*ee by grind) t3 (by omega)
   have k:=Rat.mul_nonneg (show 0<=z+1073741824*(64*ee)-(rtL s.1 s.2:Rat)*u30 by grind) (show (0:Rat)<=1073741824 by decide)
   have c:=conv (rtL s.1 s.2)
   clear t1 t2 t3 t4 fb s0 conv
   grind
 . by_cases hb:1<=s.2
   . have a:=GY (a:=s.1) (b:=s.2) c0 (show 0<=64*ee by grind) t4 ⟨hb,by omega⟩
     have k:=Rat.mul_nonneg (show 0<=(rtH s.1 s.2:Rat)*u30+1073741824*(64*ee)-z by grind) (show (0:Rat)<=1073741824 by decide)
     have c:=conv (rtH s.1 s.2)
     clear t1 t2 t3 t4 fb s0 conv hb
     grind
   . have s2:s.2=0:=by omega
     rw [s2,show ((0:Int):Rat)=0 from rfl] at t4
     have n0:0<=rtH s.1 s.2:=by
      have:=(gV (s.2*1073741824) (by omega) (by omega)).1
      unfold rtH;split<;>omega
     have n0':(0:Rat)<=rtH s.1 s.2:=Rat.intCast_le_intCast.2 n0
     have small:z<=1/1000000000000000000000:=by
      refine Rat.not_lt.1 fun hh=>?_
      have k:=Rat.mul_pos (show 0<z-1/1000000000000000000000 by grind) (show 0<z+1/1000000000000000000000 by grind)
      have t:64*ee<=1/1000000000000000000000*(1/1000000000000000000000):=by unfold ee;decide +kernel
      clear t1 t2 t3 fb s0 conv hb n0 n0'
      grind
     clear t1 t2 t3 t4 fb s0 conv hb n0
     grind
 . have b:1<=s.1:=by
    have w:(26:Int)<s.2:=by
     refine Int.not_le.1 fun hh=>?_
     have c:(s.2:Rat)<=((26:Int):Rat):=Rat.intCast_le_intCast.2 hh;rw [show ((26:Int):Rat)=26 from rfl] at c
     have ub:u30<=1/1000000000:=by rw [dm];decide +kernel
     have k:=Rat.mul_nonneg (show 0<=26-(s.2:Rat) by grind) (Rat.le_of_lt up)
     have k2:=Rat.mul_nonneg (show 0<=z-9/10 by grind) (show 0<=z+9/10 by grind)
     clear t1 t2 t3 fb s0 conv hh c tiny
     grind
    omega
   obtain ⟨r0,_,r2⟩:=gV (max 0 s.1*1073741824) (by omega) (by omega)
   unfold rtL;refine Int.not_le.1 fun hh=>?_
   have:rtV (max 0 s.1*1073741824)=0:=by omega
   rw [this] at r2;omega
theorem qA {L H:Int} {x e:Rat} (h:InE L H x e) (he:1073741824*e<=1/40000000):(L:Rat)-1/40000000<=1073741824*x/\1073741824*x<=(H:Rat)+1/40000000:=by
 obtain ⟨h1,h2⟩:=h;have u1:=dz
 have c1:((L:Rat)*u30)*1073741824=L:=by
  have:((L:Rat)*u30)*1073741824=L*(1073741824*u30):=by grind
  rw [this,u1,Rat.mul_one]
 have c2:((H:Rat)*u30)*1073741824=H:=by
  have:((H:Rat)*u30)*1073741824=H*(1073741824*u30):=by grind
  rw [this,u1,Rat.mul_one]
 have k1:=Rat.mul_nonneg (show 0<=x-(L:Rat)*u30+e by grind) (show (0:Rat)<=1073741824 by decide)
 have k2:=Rat.mul_nonneg (show 0<=(H:Rat)*u30+e-x by grind) (show (0:Rat)<=1073741824 by decide)
 constructor<;>grind
theorem Gc (l m:Int) (hl:-5400000<=l/\l<=5400000) (S:IV) (hS:S=hoI (uM (uC l l) (uC m m)) (uM (uC l l) (uS m m))) (fS:fxV S.1 S.2=true) (nS:0<=S.1) :
 bY (uS l l).1 (uS l l).2 S.1 S.2=false/\slo (ay (uS l l).1 (uS l l).2 S.1 S.2)<=l/\l<=min (slo (ay (uS l l).1 (uS l l).2 S.1 S.2)+(aU (uS l l).1 (uS l l).2 S.1 S.2-ay (uS l l).1 (uS l l).2 S.1 S.2)) 5400000:=by
 obtain ⟨⟨h1,h2⟩,h3⟩:=GU l m hl S hS;have fb:=(bT _ _).1 fS;have us:=U_S l l;have ts:=ym l;have tiny:1073741824*(2*ee)<=1/40000000:=by unfold ee;decide +kernel
 have sc:=qA ts.2.2 tiny;have uu:-1073741824<=(uS l l).1/\(uS l l).1<=(uS l l).2/\(uS l l).2<=1073741824:=us;have w:=ts.2.1;clear ts us hS
 have ho:bY (uS l l).1 (uS l l).2 S.1 S.2=false:=by
  unfold bY;rw [decide_eq_false_iff_not];intro hh;have z1:(-1:Int)<=(uS l l).1:=by omega
  have z2:(uS l l).2<=(1:Int):=by omega
  have y1:((-1:Int):Rat)<=((uS l l).1:Rat):=Rat.intCast_le_intCast.2 z1;have y2:((uS l l).2:Rat)<=((1:Int):Rat):=Rat.intCast_le_intCast.2 z2;rw [show ((-1:Int):Rat)=-1 from rfl] at y1
  rw [show ((1:Int):Rat)=1 from rfl] at y2
  have s1:sg l<=1/1000:=by clear h1 h2 h3;grind
  have s2:-(1/1000)<=sg l:=by clear h1 h2 h3;grind
  have one:=iT l;have c0:0<=cg l:=vk l (by omega)
  have big:9/10<=cg l:=by
   refine Rat.not_lt.1 fun q=>?_
   have k1:=Rat.mul_nonneg (show 0<=1/1000-sg l by grind) (show 0<=1/1000+sg l by grind)
   have k2:=Rat.mul_nonneg (show 0<=9/10-cg l by grind) (show 0<=9/10+cg l by grind)
   clear h1 h2 h3 y1 y2 sc;grind
  have:=h3 big;omega
 have B:=bear_holds (c:=l) (r:=1073741824) uu.2.1 fb.2.1 ⟨by omega,by omega⟩ ⟨by omega,by omega⟩ ho (by decide) h1 h2 sc.1 sc.2
 have R:=qR uu.2.1 fb.2.1 ⟨by omega,by omega⟩ ⟨nS,fb.2.2⟩ ho
 have b:=lc (uS l l).1 (uS l l).2 S.1 S.2;clear h1 h2 h3 sc uu fb fS;refine ⟨ho,?_⟩;clear ho;generalize ay (uS l l).1 (uS l l).2 S.1 S.2=L at *
 generalize aU (uS l l).1 (uS l l).2 S.1 S.2=H at *
 unfold slo at *
 split at R<;>(split;all_goals (try split))<;>omega
theorem FZ (l m:Int) (hl:-5400000<=l/\l<=5400000) (ho:bY (uM (uC l l) (uS m m)).1 (uM (uC l l) (uS m m)).2 (uM (uC l l) (uC m m)).1 (uM (uC l l) (uC m m)).2=false) :
 (m-ay (uM (uC l l) (uS m m)).1 (uM (uC l l) (uS m m)).2 (uM (uC l l) (uC m m)).1 (uM (uC l l) (uC m m)).2)%21600000<=aU (uM (uC l l) (uS m m)).1 (uM (uC l l) (uS m m)).2 (uM (uC l l) (uC m m)).1 (uM (uC l l) (uC m m)).2-ay (uM (uC l l) (uS m m)).1 (uM (uC l l) (uS m m)).2 (uM (uC l l) (uC m m)).1 (uM (uC l l) (uC m m)).2:=by
 have A:=zU l m;have tiny:1073741824*(8*ee)<=1/40000000:=by unfold ee;decide +kernel
 have sx:=qA A.tx.2.2 tiny;have sy:=qA A.ty.2.2 tiny;have ux:-1073741824<=(uM (uC l l) (uC m m)).1/\(uM (uC l l) (uC m m)).1<=(uM (uC l l) (uC m m)).2/\(uM (uC l l) (uC m m)).2<=1073741824:=A.ux;have uy:-1073741824<=(uM (uC l l) (uS m m)).1/\(uM (uC l l) (uS m m)).1<=(uM (uC l l) (uS m m)).2/\(uM (uC l l) (uS m m)).2<=1073741824:=A.uy;rw [<-Rat.mul_assoc] at sx sy;exact bear_holds (c:=m) (r:=1073741824*cg l) uy.2.1 ux.2.1 ⟨by omega,by omega⟩ ⟨by omega,by omega⟩ ho (Rat.mul_nonneg (by decide) (vk l (by omega))) sx.1 sx.2 sy.1 sy.2
theorem yB (l m:Int) (X Y Z:IV) (hX:X=uM (uC l l) (uC m m)) (hY:Y=uM (uC l l) (uS m m)) (hZ:Z=uS l l) :
 loF X Y Z l l m m=0/\loG X Y Z l l m m=0/\((loE X Y m m).1<=0/\0<=(loE X Y m m).2)/\((loN X Y Z l l m m).1<=0/\0<=(loN X Y Z l l m m).2)/\((loU X Y Z l l m m).1<=1073741824/\1073741824<=(loU X Y Z l l m m).2):=by
 have A:=zU l m;rw [<-hX,<-hY,<-hZ] at A;clear hX hY hZ;have e:=bC;have e2:=wU;have eu:=Dv;obtain ⟨ox,oy,oz⟩:=I9 A.one;have cl:=(g1 l).1;have sl:=(g1 l).2;have cm:=(g1 m).1;have sm:=(g1 m).2;have on:=iT m;have ol:=iT l;have M1:=mO A.ty (yu m) oy cm ⟨by grind,by grind⟩ ⟨by grind,by grind⟩ (by decide) (by decide)
 have M2:=mO A.tx (ym m) ox sm ⟨by grind,by grind⟩ ⟨by grind,by grind⟩ (by decide) (by decide)
 have M3:=mO A.tx (yu m) ox cm ⟨by grind,by grind⟩ ⟨by grind,by grind⟩ (by decide) (by decide)
 have M4:=mO A.ty (ym m) oy sm ⟨by grind,by grind⟩ ⟨by grind,by grind⟩ (by decide) (by decide)
 have v1:cg l*sg m*cg m-cg l*cg m*sg m=0:=by grind
 have v2:cg l*cg m*cg m+cg l*sg m*sg m=cg l:=by
  have:=congrArg (·*cg l) on;grind
 have f:2*(8*ee)+2*(2*ee)<=1/4000000000:=by grind
 unfold O1 at cl sl;have D1:=RH M1.2.1 M2.2.1 (by rw [v1];decide +kernel) (by rw [v1];decide +kernel) f f (by decide) (by decide)
 rw [v1] at D1;have S1:=FW M3.2.1 M4.2.1 (by rw [v2];grind) (by rw [v2];grind) f f (by decide) (by decide)
 rw [v2] at S1;have g:2*(8*ee)+2*(2*ee)+(2*(8*ee)+2*(2*ee))<=1/4000000000:=by grind
 have oc:O1 (cg l):=cl;have os:O1 (sg l):=sl;have N1:=mO A.tz (yu l) oz oc ⟨by grind,by grind⟩ ⟨by grind,by grind⟩ (by decide) (by decide)
 have N2:=mO S1.2.1 (ym l) oc os ⟨by grind,g⟩ ⟨by grind,by grind⟩ (by decide) (by decide)
 have N3:=mO A.tz (ym l) oz os ⟨by grind,by grind⟩ ⟨by grind,by grind⟩ (by decide) (by decide)
 have N4:=mO S1.2.1 (yu l) oc oc ⟨by grind,g⟩ ⟨by grind,by grind⟩ (by decide) (by decide)
 have w1:sg l*cg l-cg l*sg l=0:=by grind
 have w2:sg l*sg l+cg l*cg l=1:=ol;have g2:2*(2*(8*ee)+2*(2*ee)+(2*(8*ee)+2*(2*ee)))+2*(2*ee)<=1/4000000000:=by grind
 have D2:=RH N1.2.1 N2.2.1 (by rw [w1];decide +kernel) (by rw [w1];decide +kernel) f g2 (by decide) (by decide)
 rw [w1] at D2;have S2:=FW N3.2.1 N4.2.1 (by rw [w2];decide +kernel) (by rw [w2];decide +kernel) f g2 (by decide) (by decide)
 rw [w2] at S2;have z1:=vo D1.2.1 (by clear M1 M2 M3 M4 N1 N2 N3 N4 D1 D2 S1 S2 A on ol v1 v2 w1 w2;grind)
 have z2:=vo D2.2.1 (by clear M1 M2 M3 M4 N1 N2 N3 N4 D1 D2 S1 S2 A on ol v1 v2 w1 w2;grind)
 exact ⟨D2.1,S2.1,z1,z2,Ir S2.2.1 (by clear M1 M2 M3 M4 N1 N2 N3 N4 D1 D2 S1 S2 A on ol v1 v2 w1 w2 z1 z2;grind)⟩
