/- Plain numbers: the signs of enclosures, what half a turn makes of them. -/
import Derived.Test.YtmldbeipmappnaaZUnit
set_option linter.unusedVariables false
set_option linter.unusedSimpArgs false
namespace Go.Proofs.Ytmldbeipmappnaa
open Go.RowKit Alm Sx
theorem Pz (a b c d:Int):iH (-b) (-a) c d=-ja a b c d/\ja (-b) (-a) c d=-iH a b c d:=by
 have g:∀ a b c d:Int,iH (-b) (-a) c d=-ja a b c d:=by
  intro a b c d;unfold iH ja mn4 mx4;rw [Int.neg_mul,Int.neg_mul,Int.neg_mul,Int.neg_mul,Int.neg_neg];generalize a*c=x1;generalize a*d=x2;generalize b*c=x3;generalize b*d=x4;have:min (min (min (-x3) (-x4)) (-x1)) (-x2)=-(max (max (max x1 x2) x3) x4):=by omega
  rw [this]
 have h:=g (-b) (-a) c d;rw [Int.neg_neg,Int.neg_neg] at h;exact ⟨g a b c d,by omega⟩
theorem LW (a b c d:Int):iH a b c d=iH c d a b/\ja a b c d=ja c d a b:=by
 have x1:=Int.mul_comm a c;have x2:=Int.mul_comm a d;have x3:=Int.mul_comm b c;have x4:=Int.mul_comm b d;have e1:mn4 a b c d=mn4 c d a b:=by unfold mn4;rw [x1,x2,x3,x4];omega
 have e2:mx4 a b c d=mx4 c d a b:=by unfold mx4;rw [x1,x2,x3,x4];omega
 unfold iH ja;rw [e1,e2];exact ⟨rfl,rfl⟩
theorem Uh {p q:IV} (hp:U p) (hq:U q):uM p q=uM q p:=by
 rw [(U_M hp hq).1,(U_M hq hp).1,(LW p.1 p.2 q.1 q.2).1,(LW p.1 p.2 q.1 q.2).2]
theorem Zu {p:IV} (h:U p):U (uN p):=by unfold U uN at *;simp only;omega
theorem Uu {p q:IV} (hp:U p) (hq:U q):uM (uN p) q=uN (uM p q):=by
 rw [(U_M (Zu hp) hq).1,(U_M hp hq).1];exact Prod.ext (Pz p.1 p.2 q.1 q.2).1 (Pz p.1 p.2 q.1 q.2).2
theorem Uo {p q:IV} (hp:U p) (hq:U q):uM p (uN q)=uN (uM p q):=by
 rw [Uh hp (Zu hq),Uu hq hp,Uh hq hp]
theorem abG (p:IV):uN (uN p)=p:=by unfold uN;simp
theorem ack (n:Int):bLo (-n)=-bHi n/\bHi (-n)=-bLo n:=by
 have g:∀ n:Int,bLo (-n)=-bHi n:=by
  intro n
  by_cases h:n%10800000=0
  . have f1:aI n=0:=by unfold aI av;simp only [];split<;>split<;>omega
    have f2:aI (-n)=0:=by unfold aI av;simp only [];split<;>split<;>omega
    have s1:bv n=false:=by unfold bv av;simp;omega
    have s2:bv (-n)=false:=by unfold bv av;simp;omega
    unfold bLo bHi;rw [f1,f2,s1,s2];decide
  . have f:aI (-n)=aI n:=by unfold aI av;simp only [];split<;>split<;>(repeat' split)<;>omega
    have s:bv (-n)=!bv n:=by
     unfold bv av;rw [Bool.eq_iff_iff];simp;omega
    unfold bLo bHi;rw [f,s];cases bv n<;>simp
 have h:=g (-n);rw [Int.neg_neg] at h;exact ⟨g n,by omega⟩
theorem aeX (n:Int):bLo (10800000-n)=bLo n/\bHi (10800000-n)=bHi n:=by
 by_cases h:n%10800000=0
 . have f1:aI n=0:=by unfold aI av;simp only [];split<;>split<;>omega
   have f2:aI (10800000-n)=0:=by unfold aI av;simp only [];split<;>split<;>omega
   have s1:bv n=false:=by unfold bv av;simp;omega
   have s2:bv (10800000-n)=false:=by unfold bv av;simp;omega
   unfold bLo bHi;rw [f1,f2,s1,s2];exact ⟨rfl,rfl⟩
 . have f:aI (10800000-n)=aI n:=by unfold aI av;simp only [];split<;>split<;>(repeat' split)<;>omega
   have s:bv (10800000-n)=bv n:=by
    unfold bv av;exact decide_eq_decide.2 (by omega)
   unfold bLo bHi;rw [f,s];exact ⟨rfl,rfl⟩
theorem zV (n:Int):bLo (n+10800000)=-bHi n/\bHi (n+10800000)=-bLo n:=by
 have a:=aeX (-n);rw [show 10800000 - -n=n+10800000 by omega] at a
 have b:=ack n;exact ⟨a.1.trans b.1,a.2.trans b.2⟩
theorem Gn (a b:Int):uS (a+10800000) (b+10800000)=uN (uS a b):=by
 have m1:bV (a+10800000) (b+10800000) 16200000=bV a b 5400000:=by
  unfold bV av;exact decide_eq_decide.2 (by omega)
 have m2:bV (a+10800000) (b+10800000) 5400000=bV a b 16200000:=by
  unfold bV av;exact decide_eq_decide.2 (by omega)
 unfold uS bU bW uN;rw [m1,m2,(zV a).1,(zV b).1,(zV a).2,(zV b).2];refine Prod.ext ?_ ?_
 . show (if bV a b 5400000=true then (-1073741824:Int) else min (-bHi a) (-bHi b))=-(if bV a b 5400000=true then (1073741824:Int) else max (bHi a) (bHi b))
   split<;>omega
 . show (if bV a b 16200000=true then (1073741824:Int) else max (-bLo a) (-bLo b))=-(if bV a b 16200000=true then (-1073741824:Int) else min (bLo a) (bLo b))
   split<;>omega
