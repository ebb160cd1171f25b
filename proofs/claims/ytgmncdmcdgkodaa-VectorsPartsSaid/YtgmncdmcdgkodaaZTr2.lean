/- The arc of the directions of a box holds the angle of a point near it. -/
import Derived.Test.YtgmncdmcdgkodaaZTru
import Derived.Test.YtgmncdmcdgkodaaZBin
set_option linter.unusedVariables false
set_option linter.unusedSimpArgs false
namespace Go.Proofs.Ytgmncdmcdgkodaa
open Alm Sx
theorem tH (x y:Int) (h:¬ (x=0/\y=0)) (hx:bW x) (hy:bW y):(0<=aZ x y/\aZ x y<21600000)/\(0<x->aZ x y<5400000∨16200000<=aZ x y)/\(x<0->5400000<=aZ x y/\aZ x y<16200000)/\(0<y->aZ x y<10800000)/\(y<0->10800000<=aZ x y):=by
 have bq:=Alm.q_bd x y 2147483648 h hx hy;have H:=wm x y h;have D:=(fF x y h hx hy).1;unfold aZ;omega
theorem qP {yl yh xl xh:Int} (hy:yl<=yh) (hx:xl<=xh) (eo:bN yl yh xl xh=false):∃ f1 f2 l1 l2:Int,
 ((f1=xl∨f1=xh)/\(f2=yl∨f2=yh))/\((l1=xl∨l1=xh)/\(l2=yl∨l2=yh))/\¬ (f1=0/\f2=0)/\¬ (l1=0/\l2=0) /\
 (∀ px py:Int,(px=xl∨px=xh)->(py=yl∨py=yh)->0<=f1*py-f2*px)/\(∀ px py:Int,(px=xl∨px=xh)->(py=yl∨py=yh)->0<=-l1*py - -l2*px)/\0<=crs f1 f2 l1 l2 /\
 aU yl yh xl xh=aZ f1 f2/\bg yl yh xl xh=aZ f1 f2+gp f1 f2 l1 l2+(if fU l1 l2 then 0 else 1):=by
 have ho:=eo;unfold bN at ho;simp only [decide_eq_false_iff_not] at ho;obtain ⟨u,v,H⟩:=vW hy hx ho;have fi:=gV xl xh yl yh 4;have li:=jD xl xh yl yh 4
 have cf:∀ px py:Int,(px=xl∨px=xh)->(py=yl∨py=yh)->0<=(au xl xh yl yh 4).1*py-(au xl xh yl yh 4).2*px:=fun px py h k=>by
  obtain ⟨j,hj,e1,e2⟩:=gL xl xh yl yh _ _ h k;rw [<-e1,<-e2];exact iV H 4 j hj
 have cl:∀ px py:Int,(px=xl∨px=xh)->(py=yl∨py=yh)->0<=-(ax xl xh yl yh 4).1*py - -(ax xl xh yl yh 4).2*px:=fun px py h k=>by
  obtain ⟨j,hj,e1,e2⟩:=gL xl xh yl yh _ _ h k;have:=oM H 4 j hj;rw [e1,e2] at this;unfold crs at this;rw [Int.neg_mul,Int.neg_mul,Int.mul_comm (ax xl xh yl yh 4).1 py,Int.mul_comm (ax xl xh yl yh 4).2 px];omega
 refine ⟨_,_,_,_,fi,li,lW (H _ _ fi.1 fi.2),lW (H _ _ li.1 li.2),cf,cl,cf _ _ li.1 li.2,?_,?_⟩
 . unfold aU;rw [eo];rfl
 . rw [<-yJ];unfold bg;rw [eo];unfold aU;rw [eo];rfl
theorem kJ {xl xh f:Int} (h:f=xl∨f=xh) (h0:xl<=xh) (h2:-2147483648<=xl/\xh<=2147483648):bW f:=by unfold bW;omega
theorem AA {yl yh xl xh:Int} (hy:yl<=yh) (hx:xl<=xh) (hy2:-2147483648<=yl/\yh<=2147483648) (hx2:-2147483648<=xl/\xh<=2147483648) (eo:bN yl yh xl xh=false) :
 bg yl yh xl xh-aU yl yh xl xh<=10800001:=by
 obtain ⟨f1,f2,g1',g2',fi,li,nf0,nl0,_,_,cfl,eL,eH⟩:=qP hy hx eo;have gb:=rT nf0 nl0 cfl (by unfold bW;omega) (by unfold bW;omega) (by unfold bW;omega) (by unfold bW;omega)
 rw [eL,eH];have:=gb.2.1;split<;>omega
