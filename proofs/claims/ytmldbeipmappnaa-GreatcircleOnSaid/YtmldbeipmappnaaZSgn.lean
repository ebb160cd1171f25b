/- Plain numbers: the signs of enclosures, what half a turn makes of them. -/
import Derived.Test.YtmldbeipmappnaaZUnit
set_option linter.unusedVariables false
set_option linter.unusedSimpArgs false
namespace Go.Proofs.Ytmldbeipmappnaa
open Go.RowKit Alm Sx
theorem J4 (a b c d:Int):fI (-b) (-a) c d=-gH a b c d/\gH (-b) (-a) c d=-fI a b c d:=by
 have g:∀ a b c d:Int,fI (-b) (-a) c d=-gH a b c d:=by
  intro a b c d;unfold fI gH mn4 mx4;rw [Int.neg_mul,Int.neg_mul,Int.neg_mul,Int.neg_mul,Int.neg_neg];generalize a*c=x1;generalize a*d=x2;generalize b*c=x3;generalize b*d=x4;have:min (min (min (-x3) (-x4)) (-x1)) (-x2)=-(max (max (max x1 x2) x3) x4):=by omega
  rw [this]
 have h:=g (-b) (-a) c d;rw [Int.neg_neg,Int.neg_neg] at h;exact ⟨g a b c d,by omega⟩
theorem JC (a b c d:Int):fI a b c d=fI c d a b/\gH a b c d=gH c d a b:=by
 have x1:=Int.mul_comm a c;have x2:=Int.mul_comm a d;have x3:=Int.mul_comm b c;have x4:=Int.mul_comm b d;have e1:mn4 a b c d=mn4 c d a b:=by unfold mn4;rw [x1,x2,x3,x4];omega
 have e2:mx4 a b c d=mx4 c d a b:=by unfold mx4;rw [x1,x2,x3,x4];omega
 unfold fI gH;rw [e1,e2];exact ⟨rfl,rfl⟩
theorem Oc {p q:IV} (hp:U p) (hq:U q):uM p q=uM q p:=by
 rw [(U_M hp hq).1,(U_M hq hp).1,(JC p.1 p.2 q.1 q.2).1,(JC p.1 p.2 q.1 q.2).2]
theorem Po {p:IV} (h:U p):U (uN p):=by unfold U uN at *;simp only;omega
theorem N9 {p q:IV} (hp:U p) (hq:U q):uM (uN p) q=uN (uM p q):=by
 rw [(U_M (Po hp) hq).1,(U_M hp hq).1];exact Prod.ext (J4 p.1 p.2 q.1 q.2).1 (J4 p.1 p.2 q.1 q.2).2
theorem Ot {p q:IV} (hp:U p) (hq:U q):uM p (uN q)=uN (uM p q):=by
 rw [Oc hp (Po hq),N9 hq hp,Oc hq hp]
theorem Td (p:IV):uN (uN p)=p:=by unfold uN;simp
theorem Si (n:Int):bLo (-n)=-bHi n/\bHi (-n)=-bLo n:=by
 have g:∀ n:Int,bLo (-n)=-bHi n:=by
  intro n
  by_cases h:n%10800000=0
  . have f1:aD n=0:=by unfold aD ak;simp only [];split<;>split<;>omega
    have f2:aD (-n)=0:=by unfold aD ak;simp only [];split<;>split<;>omega
    have s1:aR n=false:=by unfold aR ak;simp;omega
    have s2:aR (-n)=false:=by unfold aR ak;simp;omega
    unfold bLo bHi;rw [f1,f2,s1,s2];decide
  . have f:aD (-n)=aD n:=by unfold aD ak;simp only [];split<;>split<;>(repeat' split)<;>omega
    have s:aR (-n)=!aR n:=by
     unfold aR ak;rw [Bool.eq_iff_iff];simp;omega
    unfold bLo bHi;rw [f,s];cases aR n<;>simp
 have h:=g (-n);rw [Int.neg_neg] at h;exact ⟨g n,by omega⟩
theorem VL (n:Int):bLo (10800000-n)=bLo n/\bHi (10800000-n)=bHi n:=by
 by_cases h:n%10800000=0
 . have f1:aD n=0:=by unfold aD ak;simp only [];split<;>split<;>omega
   have f2:aD (10800000-n)=0:=by unfold aD ak;simp only [];split<;>split<;>omega
   have s1:aR n=false:=by unfold aR ak;simp;omega
   have s2:aR (10800000-n)=false:=by unfold aR ak;simp;omega
   unfold bLo bHi;rw [f1,f2,s1,s2];exact ⟨rfl,rfl⟩
 . have f:aD (10800000-n)=aD n:=by unfold aD ak;simp only [];split<;>split<;>(repeat' split)<;>omega
   have s:aR (10800000-n)=aR n:=by
    unfold aR ak;exact decide_eq_decide.2 (by omega)
   unfold bLo bHi;rw [f,s];exact ⟨rfl,rfl⟩
theorem xV (n:Int):bLo (n+10800000)=-bHi n/\bHi (n+10800000)=-bLo n:=by
 have a:=VL (-n);rw [show 10800000 - -n=n+10800000 by omega] at a
 have b:=Si n;exact ⟨a.1.trans b.1,a.2.trans b.2⟩
theorem Dr (a b:Int):uS (a+10800000) (b+10800000)=uN (uS a b):=by
 have m1:bI (a+10800000) (b+10800000) 16200000=bI a b 5400000:=by
  unfold bI ak;exact decide_eq_decide.2 (by omega)
 have m2:bI (a+10800000) (b+10800000) 5400000=bI a b 16200000:=by
  unfold bI ak;exact decide_eq_decide.2 (by omega)
 unfold uS dJ dN uN;rw [m1,m2,(xV a).1,(xV b).1,(xV a).2,(xV b).2];refine Prod.ext ?_ ?_
 . show (if bI a b 5400000=true then (-1073741824:Int) else min (-bHi a) (-bHi b))=-(if bI a b 5400000=true then (1073741824:Int) else max (bHi a) (bHi b))
   split<;>omega
 . show (if bI a b 16200000=true then (1073741824:Int) else max (-bLo a) (-bLo b))=-(if bI a b 16200000=true then (-1073741824:Int) else min (bLo a) (bLo b))
   split<;>omega
