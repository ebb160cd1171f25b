/- Plain: angles between vectors, as one function; what VectorsTurned says of them; the contract of Between for wider enclosures. -/
import Derived.Test.YtbdlccacamalpaaZVtQ
import Derived.Test.YtbdlccacamalpaaZVe4
set_option linter.unusedVariables false
set_option linter.unusedSimpArgs false
namespace Go.Proofs.Ytbdlccacamalpaa
open Go.RowKit Alm Sx
def btS (X Y Z X' Y' Z':IV):IV:=smI (crX Y Z Y' Z') (crX Z X Z' X') (crX X Y X' Y')
def btL (X Y Z X' Y' Z':IV):Int:=ay (uR (btS X Y Z X' Y' Z')).1 (uR (btS X Y Z X' Y' Z')).2 (dtI X Y Z X' Y' Z').1 (dtI X Y Z X' Y' Z').2
def btH (X Y Z X' Y' Z':IV):Int:=aU (uR (btS X Y Z X' Y' Z')).1 (uR (btS X Y Z X' Y' Z')).2 (dtI X Y Z X' Y' Z').1 (dtI X Y Z X' Y' Z').2
def VK (X Y Z:IV) (x y z:Rat):Prop:=Cu X Y Z x y z 20 (100*ee)/\x*x+y*y+z*z=1
theorem Un.cw {X Y Z:IV} {x y z:Rat} (A:Un X Y Z x y z):VK X Y Z x y z:=by
 have e:=bC;have l:8*ee<=100*ee:=by grind
 exact ⟨⟨A.tx.le (by decide) l,A.ty.le (by decide) l,A.tz.le (by decide) l,A.cu.le⟩,A.one⟩
theorem Sj {X Y Z X' Y' Z':IV} {x y z x' y' z':Rat} (A:VK X Y Z x y z) (B:VK X' Y' Z' x' y' z') {d:Rat} (hd:d=x*x'+y*y'+z*z') :
 (Tr (btS X Y Z X' Y' Z') (1-d*d) 525 (9600*ee)/\Tr (dtI X Y Z X' Y' Z') d 129 (1200*ee))/\0<=(btS X Y Z X' Y' Z').1 /\
 (uR (btS X Y Z X' Y' Z')=(rtL (btS X Y Z X' Y' Z').1 (btS X Y Z X' Y' Z').2,rtH (btS X Y Z X' Y' Z').1 (btS X Y Z X' Y' Z').2)/\0<=(uR (btS X Y Z X' Y' Z')).1 /\
 bY (uR (btS X Y Z X' Y' Z')).1 (uR (btS X Y Z X' Y' Z')).2 (dtI X Y Z X' Y' Z').1 (dtI X Y Z X' Y' Z').2=false)/\O1 d:=by
 have e:=bC;have W:=Tg A.1 B.1 A.2 B.2 (by decide) (by decide) ⟨by grind,by grind⟩ ⟨by grind,by grind⟩ (S:=btS X Y Z X' Y' Z') (D:=dtI X Y Z X' Y' Z') (R:=uR (btS X Y Z X' Y' Z')) (d:=d) rfl rfl rfl hd
 have C:=Sr A.1 B.1 A.2 B.2 (by decide) (by decide) ⟨by clear W;grind,by clear W;grind⟩ ⟨by clear W;grind,by clear W;grind⟩
 have S:=TJ C.2.1 (by decide) ⟨by clear W C;grind,by clear W C;grind⟩
 have lag:=C.2.2
 have od:O1 d:=by
  have a:=bX (y*z'-z*y');have b:=bX (z*x'-x*z');have c:=bX (x*y'-y*x');rw [<-hd] at lag;clear W C S A B;have k:d*d<=1:=by grind
  clear lag a b c hd;unfold O1
  constructor
  . refine Rat.not_lt.1 fun h=>?_
    have m:=Rat.mul_pos (show 0 < -1-d by grind) (show 0 < -1-d+2 by grind)
    grind
  . refine Rat.not_lt.1 fun h=>?_
    have m:=Rat.mul_pos (show 0<d-1 by grind) (show 0<d-1+2 by grind)
    grind
 exact ⟨W.2.2.2.2.2,S.2.2,⟨W.2.2.1,W.2.2.2.1,W.2.2.2.2.1⟩,od⟩
theorem SN (X Y Z X' Y' Z':IV):fxV (btS X Y Z X' Y' Z').1 (btS X Y Z X' Y' Z').2=true/\fxV (dtI X Y Z X' Y' Z').1 (dtI X Y Z X' Y' Z').2=true/\fxV (uR (btS X Y Z X' Y' Z')).1 (uR (btS X Y Z X' Y' Z')).2=true :=
 ⟨oO (sm2 (crX Y Z Y' Z') (crX Z X Z' X')) (uQ (crX X Y X' Y')),oO (dt2 X Y X' Y') (uM Z Z'),Jd (btS X Y Z X' Y' Z')⟩
theorem Tt {X Y Z X' Y' Z' P Q R P' Q' R':IV} {x y z x' y' z' p q r p' q' r':Rat} (A:VK X Y Z x y z) (B:VK X' Y' Z' x' y' z') (C:VK P Q R p q r) (D:VK P' Q' R' p' q' r') (h:p*p'+q*q'+r*r'=x*x'+y*y'+z*z') :
 btL X Y Z X' Y' Z'<=btH P Q R P' Q' R'/\btL P Q R P' Q' R'<=btH X Y Z X' Y' Z':=by
 have e:=bC;have F:=Sj A B rfl;have G:=Sj C D h.symm;have x1:=SN X Y Z X' Y' Z'
 have x2:=SN P Q R P' Q' R'
 have mS:=BL F.1.1 G.1.1 (g:=0) (by grind) (by grind) (by grind) (by grind) (by grind)
 have mD:=BL F.1.2 G.1.2 (g:=0) (by grind) (by grind) (by grind) (by grind) (by grind)
 have r1:=Sw x1.1 x2.1 mS.1 G.2.1;have r2:=Sw x2.1 x1.1 mS.2 F.2.1;have i1:=(bT _ _).1 x1.2.1;have i2:=(bT _ _).1 x2.2.1;have j1:=(bT _ _).1 x1.2.2;have j2:=(bT _ _).1 x2.2.2;have f1:=F.2.2.1;have g1:=G.2.2.1;refine SI ⟨f1.2.1,j1.2.1,j1.2.2⟩ i1 ⟨g1.2.1,j2.2.1,j2.2.2⟩ i2 f1.2.2 g1.2.2 ⟨?_,?_⟩ mD
 . rw [f1.1,g1.1];exact r1
 . rw [f1.1,g1.1];exact r2
theorem Vw (n:Int):Nr (cg (-n)) (cg n) (70*ee):=by
 have h:=yn n 0;have z:sg 0=0/\cg 0=1:=by decide +kernel
 rw [z.1,z.2] at h;rw [show (0:Int)-n=-n by omega] at h
 unfold Nr at *
 constructor<;>grind
theorem TA (a b c n:Int) (hn:0<=n/\n<=10800000) (h:n%21600000=(a-c)%21600000∨n%21600000=(-(a-c))%21600000) {X Y Z X' Y' Z':IV} (A:Un X Y Z (cg a*cg b) (cg a*sg b) (sg a)) (B:Un X' Y' Z' (cg c*cg b) (cg c*sg b) (sg c)) :
 btL X Y Z X' Y' Z'<=n/\n<=btH X Y Z X' Y' Z':=by
 have e:=bC;have F:=Sj A.cw B.cw rfl;have x1:=SN X Y Z X' Y' Z'
 have m:=TB a b c
 have nr:Nr (cg n) (cg a*cg b*(cg c*cg b)+cg a*sg b*(cg c*sg b)+sg a*sg c) (150*ee):=by
  clear F x1 A B;rcases h with h|h
  . rw [(Ri h).2];exact m.le (by grind)
  . rw [(Ri h).2];exact ((Vw (a-c)).trans m).le (by clear m;grind)
 exact diff_holds hn F.2.2.2 nr F.1.1 F.1.2 x1.1 x1.2.1 F.2.2.1.1 F.2.2.1.2.1 x1.2.2 F.2.2.1.2.2
