/- Plain numbers: the signs of enclosures, what half a turn makes of them. -/
import Derived.Test.YtknhbpnclokciaaGreatZUnM
set_option linter.unusedVariables false
set_option linter.unusedSimpArgs false
namespace Go.Proofs.YtknhbpnclokciaaGreat
open Go.RowKit Alm Sx
theorem abk (a b c d:Int):qf (-b) (-a) c d=-qh a b c d/\qh (-b) (-a) c d=-qf a b c d:=by
 have g:∀ a b c d:Int,qf (-b) (-a) c d=-qh a b c d:=by
  intro a b c d;unfold qf qh mn4 mx4;rw [Int.neg_mul,Int.neg_mul,Int.neg_mul,Int.neg_mul,Int.neg_neg];generalize a*c=x1;generalize a*d=x2;generalize b*c=x3;generalize b*d=x4;have:min (min (min (-x3) (-x4)) (-x1)) (-x2)=-(max (max (max x1 x2) x3) x4):=by omega
  rw [this]
 have h:=g (-b) (-a) c d;rw [Int.neg_neg,Int.neg_neg] at h;exact ⟨g a b c d,by omega⟩
theorem abr (a b c d:Int):qf a b c d=qf c d a b/\qh a b c d=qh c d a b:=by
 have x1:=Int.mul_comm a c;have x2:=Int.mul_comm a d;have x3:=Int.mul_comm b c;have x4:=Int.mul_comm b d;have e1:mn4 a b c d=mn4 c d a b:=by unfold mn4;rw [x1,x2,x3,x4];omega
 have e2:mx4 a b c d=mx4 c d a b:=by unfold mx4;rw [x1,x2,x3,x4];omega
 unfold qf qh;rw [e1,e2];exact ⟨rfl,rfl⟩
theorem ac3 {p q:aek} (hp:U p) (hq:U q):aes p q=aes q p:=by
 rw [(U_M hp hq).1,(U_M hq hp).1,(abr p.1 p.2 q.1 q.2).1,(abr p.1 p.2 q.1 q.2).2]
theorem adv {p:aek} (h:U p):U (aet p):=by unfold U aet at *;simp only;omega
theorem ac4 {p q:aek} (hp:U p) (hq:U q):aes (aet p) q=aet (aes p q):=by
 rw [(U_M (adv hp) hq).1,(U_M hp hq).1];exact Prod.ext (abk p.1 p.2 q.1 q.2).1 (abk p.1 p.2 q.1 q.2).2
theorem acY {p q:aek} (hp:U p) (hq:U q):aes p (aet q)=aet (aes p q):=by
 rw [ac3 hp (adv hq),ac4 hq hp,ac3 hq hp]
theorem adU (p:aek):aet (aet p)=p:=by unfold aet;simp
theorem aed (n:Int):bLo (-n)=-bHi n/\bHi (-n)=-bLo n:=by
 have g:∀ n:Int,bLo (-n)=-bHi n:=by
  intro n
  by_cases h:n%10800000=0
  . have f1:bC n=0:=by unfold bC ak;simp only [];split<;>split<;>omega
    have f2:bC (-n)=0:=by unfold bC ak;simp only [];split<;>split<;>omega
    have s1:jg n=false:=by unfold jg ak;simp;omega
    have s2:jg (-n)=false:=by unfold jg ak;simp;omega
    unfold bLo bHi;rw [f1,f2,s1,s2];decide
  . have f:bC (-n)=bC n:=by unfold bC ak;simp only [];split<;>split<;>(repeat' split)<;>omega
    have s:jg (-n)=!jg n:=by
     unfold jg ak;rw [Bool.eq_iff_iff];simp;omega
    unfold bLo bHi;rw [f,s];cases jg n<;>simp
 have h:=g (-n);rw [Int.neg_neg] at h;exact ⟨g n,by omega⟩
theorem ad9 (n:Int):bLo (10800000-n)=bLo n/\bHi (10800000-n)=bHi n:=by
 by_cases h:n%10800000=0
 . have f1:bC n=0:=by unfold bC ak;simp only [];split<;>split<;>omega
   have f2:bC (10800000-n)=0:=by unfold bC ak;simp only [];split<;>split<;>omega
   have s1:jg n=false:=by unfold jg ak;simp;omega
   have s2:jg (10800000-n)=false:=by unfold jg ak;simp;omega
   unfold bLo bHi;rw [f1,f2,s1,s2];exact ⟨rfl,rfl⟩
 . have f:bC (10800000-n)=bC n:=by unfold bC ak;simp only [];split<;>split<;>(repeat' split)<;>omega
   have s:jg (10800000-n)=jg n:=by
    unfold jg ak;exact decide_eq_decide.2 (by omega)
   unfold bLo bHi;rw [f,s];exact ⟨rfl,rfl⟩
theorem aaj (n:Int):bLo (n+10800000)=-bHi n/\bHi (n+10800000)=-bLo n:=by
 have a:=ad9 (-n);rw [show 10800000 - -n=n+10800000 by omega] at a
 have b:=aed n;exact ⟨a.1.trans b.1,a.2.trans b.2⟩
theorem aaZ (a b:Int):aeu (a+10800000) (b+10800000)=aet (aeu a b):=by
 have m1:cB (a+10800000) (b+10800000) 16200000=cB a b 5400000:=by
  unfold cB ak;exact decide_eq_decide.2 (by omega)
 have m2:cB (a+10800000) (b+10800000) 5400000=cB a b 16200000:=by
  unfold cB ak;exact decide_eq_decide.2 (by omega)
 unfold aeu dA dB aet;rw [m1,m2,(aaj a).1,(aaj b).1,(aaj a).2,(aaj b).2];refine Prod.ext ?_ ?_
 . show (if cB a b 5400000=true then (-1073741824:Int) else min (-bHi a) (-bHi b))=-(if cB a b 5400000=true then (1073741824:Int) else max (bHi a) (bHi b))
   split<;>omega
 . show (if cB a b 16200000=true then (1073741824:Int) else max (-bLo a) (-bLo b))=-(if cB a b 16200000=true then (-1073741824:Int) else min (bLo a) (bLo b))
   split<;>omega
