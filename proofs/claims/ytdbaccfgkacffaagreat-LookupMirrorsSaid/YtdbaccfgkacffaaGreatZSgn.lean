/- Plain numbers: the signs of enclosures, what half a turn makes of them. -/
import Derived.Test.YtdbaccfgkacffaaGreatZUnM
set_option linter.unusedVariables false
set_option linter.unusedSimpArgs false
namespace Go.Proofs.YtdbaccfgkacffaaGreat
open Go.RowKit Alm Sx
theorem NQ (a b c d:Int):gY (-b) (-a) c d=-ic a b c d/\ic (-b) (-a) c d=-gY a b c d:=by
 have g:∀ a b c d:Int,gY (-b) (-a) c d=-ic a b c d:=by
  intro a b c d;unfold gY ic mn4 mx4;rw [Int.neg_mul,Int.neg_mul,Int.neg_mul,Int.neg_mul,Int.neg_neg];generalize a*c=x1;generalize a*d=x2;generalize b*c=x3;generalize b*d=x4;have:min (min (min (-x3) (-x4)) (-x1)) (-x2)=-(max (max (max x1 x2) x3) x4):=by omega
  rw [this]
 have h:=g (-b) (-a) c d;rw [Int.neg_neg,Int.neg_neg] at h;exact ⟨g a b c d,by omega⟩
theorem Qf (a b c d:Int):gY a b c d=gY c d a b/\ic a b c d=ic c d a b:=by
 have x1:=Int.mul_comm a c;have x2:=Int.mul_comm a d;have x3:=Int.mul_comm b c;have x4:=Int.mul_comm b d;have e1:mn4 a b c d=mn4 c d a b:=by unfold mn4;rw [x1,x2,x3,x4];omega
 have e2:mx4 a b c d=mx4 c d a b:=by unfold mx4;rw [x1,x2,x3,x4];omega
 unfold gY ic;rw [e1,e2];exact ⟨rfl,rfl⟩
theorem WE {p q:IV} (hp:U p) (hq:U q):uM p q=uM q p:=by
 rw [(U_M hp hq).1,(U_M hq hp).1,(Qf p.1 p.2 q.1 q.2).1,(Qf p.1 p.2 q.1 q.2).2]
theorem WX {p:IV} (h:U p):U (uN p):=by unfold U uN at *;simp only;omega
theorem ab2 {p q:IV} (hp:U p) (hq:U q):uM (uN p) q=uN (uM p q):=by
 rw [(U_M (WX hp) hq).1,(U_M hp hq).1];exact Prod.ext (NQ p.1 p.2 q.1 q.2).1 (NQ p.1 p.2 q.1 q.2).2
theorem abw {p q:IV} (hp:U p) (hq:U q):uM p (uN q)=uN (uM p q):=by
 rw [WE hp (WX hq),ab2 hq hp,WE hq hp]
theorem Ny (n:Int):bLo (-n)=-bHi n/\bHi (-n)=-bLo n:=by
 have g:∀ n:Int,bLo (-n)=-bHi n:=by
  intro n
  by_cases h:n%10800000=0
  . have f1:aI n=0:=by unfold aI au;simp only [];split<;>split<;>omega
    have f2:aI (-n)=0:=by unfold aI au;simp only [];split<;>split<;>omega
    have s1:cu n=false:=by unfold cu au;simp;omega
    have s2:cu (-n)=false:=by unfold cu au;simp;omega
    unfold bLo bHi;rw [f1,f2,s1,s2];decide
  . have f:aI (-n)=aI n:=by unfold aI au;simp only [];split<;>split<;>(repeat' split)<;>omega
    have s:cu (-n)=!cu n:=by
     unfold cu au;rw [Bool.eq_iff_iff];simp;omega
    unfold bLo bHi;rw [f,s];cases cu n<;>simp
 have h:=g (-n);rw [Int.neg_neg] at h;exact ⟨g n,by omega⟩
theorem Pm (lo hi:Int) (h:lo<=hi):bJ (-hi) (-lo) 16200000=bJ lo hi 5400000/\bJ (-hi) (-lo) 5400000=bJ lo hi 16200000:=by
 unfold bJ au
 constructor<;>exact decide_eq_decide.2 (by omega)
theorem acL (lo hi:Int) (h:lo<=hi):uS (-hi) (-lo)=uN (uS lo hi):=by
 have m:=Pm lo hi h;unfold uS aX bu uN;rw [m.1,m.2,(Ny hi).1,(Ny lo).1,(Ny hi).2,(Ny lo).2];refine Prod.ext ?_ ?_
 . show (if bJ lo hi 5400000=true then (-1073741824:Int) else min (-bHi hi) (-bHi lo))=-(if bJ lo hi 5400000=true then (1073741824:Int) else max (bHi lo) (bHi hi))
   split<;>omega
 . show (if bJ lo hi 16200000=true then (1073741824:Int) else max (-bLo hi) (-bLo lo))=-(if bJ lo hi 16200000=true then (-1073741824:Int) else min (bLo lo) (bLo hi))
   split<;>omega
theorem ady (n:Int):bLo (10800000-n)=bLo n/\bHi (10800000-n)=bHi n:=by
 by_cases h:n%10800000=0
 . have f1:aI n=0:=by unfold aI au;simp only [];split<;>split<;>omega
   have f2:aI (10800000-n)=0:=by unfold aI au;simp only [];split<;>split<;>omega
   have s1:cu n=false:=by unfold cu au;simp;omega
   have s2:cu (10800000-n)=false:=by unfold cu au;simp;omega
   unfold bLo bHi;rw [f1,f2,s1,s2];exact ⟨rfl,rfl⟩
 . have f:aI (10800000-n)=aI n:=by unfold aI au;simp only [];split<;>split<;>(repeat' split)<;>omega
   have s:cu (10800000-n)=cu n:=by
    unfold cu au;exact decide_eq_decide.2 (by omega)
   unfold bLo bHi;rw [f,s];exact ⟨rfl,rfl⟩
theorem abS (lo hi:Int) (h:lo<=hi):uC (-hi) (-lo)=uC lo hi:=by
 have e1:∀ n:Int,bLo (-n+5400000)=bLo (n+5400000)/\bHi (-n+5400000)=bHi (n+5400000):=by
  intro n;have:=ady (n+5400000);rw [show 10800000-(n+5400000)=-n+5400000 by omega] at this
  exact this
 have m:∀ d:Int,(d=16200000∨d=5400000)->bJ (-hi+5400000) (-lo+5400000) d=bJ (lo+5400000) (hi+5400000) d:=by
  intro d hd;unfold bJ au;rcases hd with rfl|rfl<;>exact decide_eq_decide.2 (by omega)
 unfold uC aX bu;rw [m _ (.inl rfl),m _ (.inr rfl),(e1 hi).1,(e1 lo).1,(e1 hi).2,(e1 lo).2];refine Prod.ext ?_ ?_
 . show (if bJ (lo+5400000) (hi+5400000) 16200000=true then (-1073741824:Int) else min (bLo (hi+5400000)) (bLo (lo+5400000)))=(if bJ (lo+5400000) (hi+5400000) 16200000=true then (-1073741824:Int) else min (bLo (lo+5400000)) (bLo (hi+5400000)))
   split<;>omega
 . show (if bJ (lo+5400000) (hi+5400000) 5400000=true then (1073741824:Int) else max (bHi (hi+5400000)) (bHi (lo+5400000)))=(if bJ (lo+5400000) (hi+5400000) 5400000=true then (1073741824:Int) else max (bHi (lo+5400000)) (bHi (hi+5400000)))
   split<;>omega
