/- Plain numbers: the triangle, mirrored. -/
import Derived.Test.YtknhbpnclokciaaZCosP
import Derived.Test.YtknhbpnclokciaaZMir
set_option linter.unusedVariables false
set_option linter.unusedSimpArgs false
namespace Go.Proofs.Ytknhbpnclokciaa
open Go.RowKit Alm Sx
theorem LD (a b c d:Int):gI (-b) (-a) c d=-iq a b c d/\iq (-b) (-a) c d=-gI a b c d:=by
 have g:∀ a b c d:Int,gI (-b) (-a) c d=-iq a b c d:=by
  intro a b c d;unfold gI iq mn4 mx4;rw [Int.neg_mul,Int.neg_mul,Int.neg_mul,Int.neg_mul,Int.neg_neg];generalize a*c=x1;generalize a*d=x2;generalize b*c=x3;generalize b*d=x4;have:min (min (min (-x3) (-x4)) (-x1)) (-x2)=-(max (max (max x1 x2) x3) x4):=by omega
  rw [this]
 have h:=g (-b) (-a) c d;rw [Int.neg_neg,Int.neg_neg] at h;exact ⟨g a b c d,by omega⟩
theorem KZ (a b c d:Int):gI a b c d=gI c d a b/\iq a b c d=iq c d a b:=by
 have x1:=Int.mul_comm a c;have x2:=Int.mul_comm a d;have x3:=Int.mul_comm b c;have x4:=Int.mul_comm b d;have e1:mn4 a b c d=mn4 c d a b:=by unfold mn4;rw [x1,x2,x3,x4];omega
 have e2:mx4 a b c d=mx4 c d a b:=by unfold mx4;rw [x1,x2,x3,x4];omega
 unfold gI iq;rw [e1,e2];exact ⟨rfl,rfl⟩
theorem FE {p q:IV} (hp:U p) (hq:U q):uM p q=uM q p:=by
 rw [(U_M hp hq).1,(U_M hq hp).1,(KZ p.1 p.2 q.1 q.2).1,(KZ p.1 p.2 q.1 q.2).2]
theorem FY {p:IV} (h:U p):U (uN p):=by unfold U uN at *;simp only;omega
theorem KN {p q:IV} (hp:U p) (hq:U q):uM (uN p) q=uN (uM p q):=by
 rw [(U_M (FY hp) hq).1,(U_M hp hq).1];exact Prod.ext (LD p.1 p.2 q.1 q.2).1 (LD p.1 p.2 q.1 q.2).2
theorem LP {p q:IV} (hp:U p) (hq:U q):uM p (uN q)=uN (uM p q):=by
 rw [FE hp (FY hq),KN hq hp,FE hq hp]
theorem afd (p:IV):uN (uN p)=p:=by unfold uN;simp
theorem ae8 {p q:IV} (hp:U p) (hq:U q):uD (uN p) (uN q)=uN (uD p q):=by
 rw [(U_D (FY hp) (FY hq)).1,(U_D hp hq).1];unfold uN;exact Prod.ext (by show -p.2 - -q.1=-(p.2-q.1);omega) (by show -p.1 - -q.2=-(p.1-q.2);omega)
theorem MK (n:Int):bLo (-n)=-bHi n/\bHi (-n)=-bLo n:=by
 have g:∀ n:Int,bLo (-n)=-bHi n:=by
  intro n
  by_cases h:n%10800000=0
  . have f1:aH n=0:=by unfold aH ak;simp only [];split<;>split<;>omega
    have f2:aH (-n)=0:=by unfold aH ak;simp only [];split<;>split<;>omega
    have s1:fA n=false:=by unfold fA ak;simp;omega
    have s2:fA (-n)=false:=by unfold fA ak;simp;omega
    unfold bLo bHi;rw [f1,f2,s1,s2];decide
  . have f:aH (-n)=aH n:=by unfold aH ak;simp only [];split<;>split<;>(repeat' split)<;>omega
    have s:fA (-n)=!fA n:=by
     unfold fA ak;rw [Bool.eq_iff_iff];simp;omega
    unfold bLo bHi;rw [f,s];cases fA n<;>simp
 have h:=g (-n);rw [Int.neg_neg] at h;exact ⟨g n,by omega⟩
theorem K8 (lo hi:Int) (h:lo<=hi):bR (-hi) (-lo) 16200000=bR lo hi 5400000/\bR (-hi) (-lo) 5400000=bR lo hi 16200000:=by
 unfold bR ak
 constructor<;>exact decide_eq_decide.2 (by omega)
theorem BM (lo hi:Int) (h:lo<=hi):uS (-hi) (-lo)=uN (uS lo hi):=by
 have m:=K8 lo hi h;unfold uS fJ fZ uN;rw [m.1,m.2,(MK hi).1,(MK lo).1,(MK hi).2,(MK lo).2];refine Prod.ext ?_ ?_
 . show (if bR lo hi 5400000=true then (-1073741824:Int) else min (-bHi hi) (-bHi lo))=-(if bR lo hi 5400000=true then (1073741824:Int) else max (bHi lo) (bHi hi))
   split<;>omega
 . show (if bR lo hi 16200000=true then (1073741824:Int) else max (-bLo hi) (-bLo lo))=-(if bR lo hi 16200000=true then (-1073741824:Int) else min (bLo lo) (bLo hi))
   split<;>omega
theorem afo (n:Int):bLo (10800000-n)=bLo n/\bHi (10800000-n)=bHi n:=by
 by_cases h:n%10800000=0
 . have f1:aH n=0:=by unfold aH ak;simp only [];split<;>split<;>omega
   have f2:aH (10800000-n)=0:=by unfold aH ak;simp only [];split<;>split<;>omega
   have s1:fA n=false:=by unfold fA ak;simp;omega
   have s2:fA (10800000-n)=false:=by unfold fA ak;simp;omega
   unfold bLo bHi;rw [f1,f2,s1,s2];exact ⟨rfl,rfl⟩
 . have f:aH (10800000-n)=aH n:=by unfold aH ak;simp only [];split<;>split<;>(repeat' split)<;>omega
   have s:fA (10800000-n)=fA n:=by
    unfold fA ak;exact decide_eq_decide.2 (by omega)
   unfold bLo bHi;rw [f,s];exact ⟨rfl,rfl⟩
theorem AL (lo hi:Int) (h:lo<=hi):uC (-hi) (-lo)=uC lo hi:=by
 have e1:∀ n:Int,bLo (-n+5400000)=bLo (n+5400000)/\bHi (-n+5400000)=bHi (n+5400000):=by
  intro n;have:=afo (n+5400000);rw [show 10800000-(n+5400000)=-n+5400000 by omega] at this
  exact this
 have m:∀ d:Int,(d=16200000∨d=5400000)->bR (-hi+5400000) (-lo+5400000) d=bR (lo+5400000) (hi+5400000) d:=by
  intro d hd;unfold bR ak;rcases hd with rfl|rfl<;>exact decide_eq_decide.2 (by omega)
 unfold uC fJ fZ;rw [m _ (.inl rfl),m _ (.inr rfl),(e1 hi).1,(e1 lo).1,(e1 hi).2,(e1 lo).2];refine Prod.ext ?_ ?_
 . show (if bR (lo+5400000) (hi+5400000) 16200000=true then (-1073741824:Int) else min (bLo (hi+5400000)) (bLo (lo+5400000)))=(if bR (lo+5400000) (hi+5400000) 16200000=true then (-1073741824:Int) else min (bLo (lo+5400000)) (bLo (hi+5400000)))
   split<;>omega
 . show (if bR (lo+5400000) (hi+5400000) 5400000=true then (1073741824:Int) else max (bHi (hi+5400000)) (bHi (lo+5400000)))=(if bR (lo+5400000) (hi+5400000) 5400000=true then (1073741824:Int) else max (bHi (lo+5400000)) (bHi (hi+5400000)))
   split<;>omega
theorem O0 (a b c d e f:Int) (h:e<=f):vz a b c d (-f) (-e)=vz a b c d e f:=by
 unfold vz x9;rw [AL e f h]
theorem OW (a b c d e f:Int) (h1:a<=b) (h2:c<=d):vz (-b) (-a) (-d) (-c) e f=vz a b c d e f:=by
 unfold vz x9;rw [AL a b h1,AL c d h2,BM a b h1,BM c d h2,KN (U_S a b) (FY (U_S c d)),LP (U_S a b) (U_S c d),afd]
theorem KF (a b c d e f:Int):vz c d a b e f=vz a b c d e f:=by
 unfold vz x9;rw [FE (U_S c d) (U_S a b),FE (U_C c d) (U_C a b)]
theorem RP (c d e f:Int) (h:e<=f):azY c d (-f) (-e)=uN (azY c d e f):=by
 unfold azY;rw [BM e f h,LP (U_C c d) (U_S e f)]
theorem OV (a b c d e f:Int) (h:e<=f):azX a b c d (-f) (-e)=azX a b c d e f:=by
 unfold azX;rw [AL e f h]
theorem ND (c d e f:Int) (h:c<=d):azY (-d) (-c) e f=azY c d e f:=by
 unfold azY;rw [AL c d h]
theorem RG (a b c d e f:Int) (h1:a<=b) (h2:c<=d):azX (-b) (-a) (-d) (-c) e f=uN (azX a b c d e f):=by
 unfold azX;rw [AL a b h1,AL c d h2,BM a b h1,BM c d h2,KN (U_S c d) (U_C a b),LP (U_M (U_C c d) (U_C e f)).2.2 (U_S a b)];exact ae8 (U_M (U_S c d) (U_C a b)).2.2 (U_M (U_M (U_C c d) (U_C e f)).2.2 (U_S a b)).2.2
theorem DD (a b c d e f:Int):((azY c d e f).1<=(azY c d e f).2/\-2147483648<=(azY c d e f).1/\(azY c d e f).2<=2147483648)/\((azX a b c d e f).1<=(azX a b c d e f).2/\-2147483648<=(azX a b c d e f).1/\(azX a b c d e f).2<=2147483648):=by
 have y:=FY (U_M (U_C c d) (U_S e f)).2.2;have x:=(bO _ _).1 (U_D (U_M (U_S c d) (U_C a b)).2.2 (U_M (U_M (U_C c d) (U_C e f)).2.2 (U_S a b)).2.2).2.2;unfold U at y;unfold azY azX;omega
theorem aeX (a b c d e f:Int) (h:e<=f):(azV a b c d (-f) (-e)).getD 0 0=-(azV a b c d e f).getD 1 0%21600000/\(azV a b c d (-f) (-e)).getD 1 0=(azV a b c d (-f) (-e)).getD 0 0+((azV a b c d e f).getD 1 0-(azV a b c d e f).getD 0 0):=by
 rw [(u7 a b c d (-f) (-e)).1,(u7 a b c d (-f) (-e)).2.1,(u7 a b c d e f).1,(u7 a b c d e f).2.1,RP c d e f h,OV a b c d e f h];have B:=DD a b c d e f;exact Cs B.1.1 B.2.1 ⟨B.1.2.1,B.1.2.2⟩ ⟨B.2.2.1,B.2.2.2⟩
theorem ac0 (a b c d e f:Int) (h1:a<=b) (h2:c<=d):(azV (-b) (-a) (-d) (-c) e f).getD 0 0=(if (azV a b c d e f).getD 1 0-(azV a b c d e f).getD 0 0>=21600000 then 0 else (10800000-(azV a b c d e f).getD 1 0)%21600000)/\(azV (-b) (-a) (-d) (-c) e f).getD 1 0=(azV (-b) (-a) (-d) (-c) e f).getD 0 0+((azV a b c d e f).getD 1 0-(azV a b c d e f).getD 0 0):=by
 rw [(u7 (-b) (-a) (-d) (-c) e f).1,(u7 (-b) (-a) (-d) (-c) e f).2.1,(u7 a b c d e f).1,(u7 a b c d e f).2.1,ND c d e f h2,RG a b c d e f h1 h2];have B:=DD a b c d e f;generalize azY c d e f=y at *
 generalize azX a b c d e f=x at *
 have M:=Cs B.1.1 B.2.1 ⟨B.1.2.1,B.1.2.2⟩ ⟨B.2.2.1,B.2.2.2⟩;have R:=KA (yl:=-y.2) (yh:=-y.1) (xl:=x.1) (xh:=x.2) (by omega) B.2.1 ⟨by omega,by omega⟩ ⟨B.2.2.1,B.2.2.2⟩
 rw [Int.neg_neg,Int.neg_neg] at R;show fB y.1 y.2 (-x.2) (-x.1)=_/\gG y.1 y.2 (-x.2) (-x.1)=fB y.1 y.2 (-x.2) (-x.1)+_;cases ho:jf (-y.2) (-y.1) x.1 x.2
 . rw [ho,if_neg (by decide)] at R
   have o2:jf y.1 y.2 x.1 x.2=false:=by
    unfold jf at *
    simp only [decide_eq_false_iff_not] at *
    omega
   have w:¬ (gG y.1 y.2 x.1 x.2-fB y.1 y.2 x.1 x.2>=21600000):=by
    have:=AO B.1.1 B.2.1 ⟨B.1.2.1,B.1.2.2⟩ ⟨B.2.2.1,B.2.2.2⟩ o2;omega
   rw [if_neg w];omega
 . rw [ho,if_pos rfl] at R
   have o2:jf y.1 y.2 x.1 x.2=true:=by
    unfold jf at *
    simp only [decide_eq_true_eq] at *
    omega
   have l:fB y.1 y.2 x.1 x.2=0:=by unfold fB;rw [o2];rfl
   have h:gG y.1 y.2 x.1 x.2=21600000:=by unfold gG;rw [o2];rfl
   rw [l,h,if_pos (by omega)]
   omega
