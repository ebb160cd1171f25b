/- Plain: parts of positions lead to parts of vectors, local coordinates and places. -/
import Derived.Test.YtbdlccacamalpaaZVrQ
import Derived.Test.YtbdlccacamalpaaZVe2
import Derived.Test.YtbdlccacamalpaaZInc
set_option linter.unusedVariables false
set_option linter.unusedSimpArgs false
namespace Go.Proofs.Ytbdlccacamalpaa
open Go.RowKit Alm Sx
theorem ui (x y:Int) (h:¬ (x=0/\y=0)) (hx0:0<=x) (hx:dP x) (hy:dP y):-5400000<=slo (aG x y)/\slo (aG x y)<=5400000/\(slo (aG x y)=5400000->x=0/\0<y)/\(slo (aG x y)=-5400000->x=0/\y<0∨0<x/\y<0):=by
 have bq:=Alm.q_bd x y 2147483648 h hx hy;have H:=xX x y h;have D:=iD x y h hx hy;have d:=D.1
 have ax:qY x y=0->bn x y=0:=fun q=>by
  rw [q] at D;exact vW (qX x y) ⟨bq.1,bq.2.1⟩ _ D
 unfold slo aG
 by_cases q:qY x y=0
 . have:=ax q;split<;>omega
 . split<;>omega
theorem qR {yl yh xl xh:Int} (hy:yl<=yh) (hx:xl<=xh) (hy2:-2147483648<=yl/\yh<=2147483648) (hx2:0<=xl/\xh<=2147483648) (eo:bY yl yh xl xh=false) :
 -5400000<=slo (ay yl yh xl xh)/\slo (ay yl yh xl xh)<=5400000/\slo (ay yl yh xl xh)+(aU yl yh xl xh-ay yl yh xl xh)<=5400001:=by
 obtain ⟨f1,f2,l1,l2,fi,li,nf0,nl0,_,_,cfl,eL,eH⟩:=rM hy hx eo;have ho:¬ (xl<=0/\0<=xh/\yl<=0/\0<=yh):=of_decide_eq_false eo;have F1:dP f1:=fF fi.1 hx ⟨by omega,hx2.2⟩
 have F2:=fF fi.2 hy hy2;have L1:dP l1:=fF li.1 hx ⟨by omega,hx2.2⟩
 have L2:=fF li.2 hy hy2;have gb:=(EY nf0 nl0 cfl F1 F2 L1 L2).2.1;have sf:=ui f1 f2 nf0 (by omega) F1 F2
 have sl:=ui l1 l2 nl0 (by omega) L1 L2
 have af:=(jO _ _ nf0 F1 F2).1;have al:=(jO _ _ nl0 L1 L2).1;rw [eL,eH];have e1:(if jl l1 l2=true then (0:Int) else 1)<=1:=by split<;>omega
 have key:slo (aG f1 f2)<=slo (aG l1 l2):=by
  refine Int.not_lt.1 fun hh=>?_
  have z:slo (aG f1 f2)=5400000/\slo (aG l1 l2)=-5400000:=by
   unfold gp at gb;unfold slo at *
   clear cfl ho fi li e1 eL eH;split at hh<;>split at hh<;>omega
  have a1:=sf.2.2.1 z.1;have a2:=sl.2.2.2 z.2;clear gb sf sl cfl;omega
 have gv:gp f1 f2 l1 l2=slo (aG l1 l2)-slo (aG f1 f2):=by
  unfold gp;unfold slo at *
  clear cfl ho fi li e1 eL eH;split at key<;>split at key<;>(split;all_goals (try split))<;>omega
 rw [gv];clear cfl ho fi li eL eH;omega
