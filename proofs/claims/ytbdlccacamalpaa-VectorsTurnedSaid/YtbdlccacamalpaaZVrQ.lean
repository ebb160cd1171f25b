/- Plain: angles between unit vectors. -/
import Derived.Test.YtbdlccacamalpaaZVrP
set_option linter.unusedVariables false
set_option linter.unusedSimpArgs false
set_option maxHeartbeats 2000000
namespace Go.Proofs.Ytbdlccacamalpaa
open Go.RowKit Alm Sx
theorem Dv:1000000*ee<=1/2000000000:=by unfold ee;decide +kernel
theorem Sq (x:Int) (h:x≠0) (hx:dP x):aG x 0=(if 0<x then 0 else 10800000)/\jl x 0=true:=by
 have q:qY x 0=0:=by unfold qY;(repeat' split)<;>omega
 have qx:0<qX x 0/\qX x 0<=2147483648:=by
  have:=Alm.q_bd x 0 2147483648 (by omega) hx (by omega)
  exact ⟨this.1,this.2.1⟩
 have d:=iD x 0 (by omega) hx (by omega)
 rw [q] at d;have l:=vW (qX x 0) qx _ d;refine ⟨?_,?_⟩
 . unfold aG;rw [l];unfold qT
   (repeat' split)<;>omega
 . unfold jl;rw [l,q];rfl
theorem A8 {yl yh xl xh:Int} (h0:0<=yl) (hy:yl<=yh) (hx:xl<=xh) (hy2:yh<=2147483648) (hx2:-2147483648<=xl/\xh<=2147483648) (eo:bY yl yh xl xh=false):0<=ay yl yh xl xh/\aU yl yh xl xh<=10800000:=by
 obtain ⟨f1,f2,l1,l2,fi,li,nf0,nl0,_,_,cfl,eL,eH⟩:=rM hy hx eo;have ho:¬ (xl<=0/\0<=xh/\yl<=0/\0<=yh):=of_decide_eq_false eo;have F1:=fF fi.1 hx hx2;have F2:dP f2:=fF fi.2 hy ⟨by omega,hy2⟩
 have L1:=fF li.1 hx hx2;have L2:dP l2:=fF li.2 hy ⟨by omega,hy2⟩
 have sf:=jO _ _ nf0 F1 F2;have sl:=jO _ _ nl0 L1 L2;have gb:=EY nf0 nl0 cfl F1 F2 L1 L2;have ef:f2=0->aG f1 f2=(if 0<f1 then 0 else 10800000):=fun h=>by subst h;exact (Sq f1 (by omega) F1).1
 have el:l2=0->aG l1 l2=(if 0<l1 then 0 else 10800000)/\jl l1 l2=true:=fun h=>by subst h;exact Sq l1 (by omega) L1
 rw [eL,eH];refine ⟨sf.1.1,?_⟩
 have fa:aG f1 f2<=10800000:=by
  by_cases h:f2=0
  . rw [ef h];split<;>omega
  . have:=sf.2.2.2.1 (by omega);omega
 have la:aG l1 l2<=10800000/\(aG l1 l2=10800000->jl l1 l2=true):=by
  by_cases h:l2=0
  . rw [(el h).1];exact ⟨by split<;>omega,fun _=>(el h).2⟩
  . have:=sl.2.2.2.1 (by omega);omega
 have g2:=gb.2.1
 have key:aG f1 f2<=aG l1 l2:=by
  refine Int.not_lt.1 fun hh=>?_
  unfold gp at g2;have a1:aG f1 f2=10800000:=by omega
  have a2:aG l1 l2=0:=by omega
  have f0:f2=0:=by
   refine Decidable.byContradiction fun q=>?_
   have:=sf.2.2.2.1 (by omega);omega
  have fn:f1<0:=by
   have:=ef f0;refine Int.not_le.1 fun q=>?_
   rw [if_pos (by omega)] at this
   omega
  unfold crs at cfl;rw [f0,Int.zero_mul] at cfl
  have l0:l2=0:=by
   refine Decidable.byContradiction fun q=>?_
   have:=Int.mul_lt_mul_of_neg_left (show 0<l2 by omega) fn
   omega
  have lp:0<l1:=by
   have:=(el l0).1;refine Int.not_le.1 fun q=>?_
   rw [if_neg (by omega)] at this
   omega
  omega
 have gv:gp f1 f2 l1 l2=aG l1 l2-aG f1 f2:=by unfold gp;omega
 rw [gv]
 by_cases h:jl l1 l2=true
 . rw [if_pos h];omega
 . rw [if_neg h];have:aG l1 l2≠10800000:=fun q=>h (la.2 q)
   omega
