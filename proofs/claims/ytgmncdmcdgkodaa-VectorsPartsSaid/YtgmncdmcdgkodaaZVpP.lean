/- Plain: parts of positions lead to parts of vectors, local coordinates and places. -/
import Derived.Test.YtgmncdmcdgkodaaZVrQ
import Derived.Test.YtgmncdmcdgkodaaZVe2
import Derived.Test.YtgmncdmcdgkodaaZInc
set_option linter.unusedVariables false
set_option linter.unusedSimpArgs false
namespace Go.Proofs.Ytgmncdmcdgkodaa
open Go.RowKit Alm Sx
theorem CU {L H L' H':Int} (h:jJ L H=0) (h1:L<=L') (h2:L'<=H') (h3:H'<=H):jJ L' H'=0/\(fB L H<=fB L' H'/\fB L' H'<=dY L' H'/\dY L' H'<=dY L H):=by
 by_cases q:-2147483648<=L/\L<=H/\H<=2147483648
 . have a:=kF q;have b:=kF (L:=L') (H:=H') ⟨by omega,by omega,by omega⟩
   rw [a.1,a.2.1,b.1,b.2.1];exact ⟨b.2.2,h1,h2,h3⟩
 . unfold jJ at h;rw [if_neg q] at h;cases h
theorem Sg {p q p' q':IV} (h:er0 p q=0) (hp:VH p' p) (hq:VH q' q):er0 p' q'=0/\VH (uM p' q') (uM p q):=by
 have a:=QM hp hq;have b:=Gt p'.1 p'.2 q'.1 q'.2;exact CU h a.1 b a.2
theorem Sd {p q p' q':IV} (h:er1 p q=0) (hp:VH p' p) (hq:VH q' q):er1 p' q'=0/\VH (uA p' q') (uA p q):=by
 unfold VH at hp hq;exact CU h (by omega) (by omega) (by omega)
theorem VC {p q p' q':IV} (h:er2 p q=0) (hp:VH p' p) (hq:VH q' q):er2 p' q'=0/\VH (uD p' q') (uD p q):=by
 unfold VH at hp hq;exact CU h (by omega) (by omega) (by omega)
theorem R9 {a b a' b':Int} (h:a<=a'/\a'<=b'/\b'<=b):sqL a b<=sqL a' b'/\sqL a' b'<=sqH a' b'/\sqH a' b'<=sqH a b:=by
 have n1:∀ x:Int,0<=x*x:=fun x=>by rcases Int.le_total 0 x with h|h;exact Int.mul_nonneg h h;exact Int.mul_nonneg_of_nonpos_of_nonpos h h
 have up:∀ x y:Int,0<=x->x<=y->x*x<=y*y:=fun x y h1 h2=>Int.mul_le_mul h2 h2 h1 (by omega)
 have dn:∀ x y:Int,y<=0->x<=y->y*y<=x*x:=fun x y h1 h2=>by
  have:=up (-y) (-x) (by omega) (by omega)
  rwa [Int.neg_mul_neg,Int.neg_mul_neg] at this
 have A:=n1 a;have B:=n1 b;have A':=n1 a';have B':=n1 b'
 have hi:max (a'*a') (b'*b')<=max (a*a) (b*b):=by
  have x:a'*a'<=max (a*a) (b*b):=by
   rcases Int.le_total 0 a' with k|k
   . have:=up a' b k (by omega);omega
   . have:=dn a a' k h.1;omega
  have y:b'*b'<=max (a*a) (b*b):=by
   rcases Int.le_total 0 b' with k|k
   . have:=up b' b k h.2.2;omega
   . have:=dn a b' k (by omega);omega
  omega
 have lo:(if a<=0/\0<=b then 0 else min (a*a) (b*b))<=(if a'<=0/\0<=b' then 0 else min (a'*a') (b'*b')):=by
  by_cases q:a<=0/\0<=b
  . rw [if_pos q];split<;>omega
  . rw [if_neg q,if_neg (by omega)]
    rcases Int.le_total 0 a with k|k
    . have:=up a a' k h.1;have:=up a b' k (by omega);omega
    . have:=dn a' b (by omega) (by omega);have:=dn b' b (by omega) h.2.2;omega
 have le:(if a'<=0/\0<=b' then 0 else min (a'*a') (b'*b'))<=max (a'*a') (b'*b'):=by split<;>omega
 unfold sqL sqH;generalize max (a*a) (b*b)=M at *
 generalize max (a'*a') (b'*b')=M' at *
 generalize (if a<=0/\0<=b then 0 else min (a*a) (b*b))=m at *
 generalize (if a'<=0/\0<=b' then 0 else min (a'*a') (b'*b'))=m' at *
 clear A B A' B' n1 up dn h;omega
theorem Uv {p p':IV} (h:er3 p=0) (hp:VH p' p):er3 p'=0/\VH (uQ p') (uQ p):=by
 have a:=R9 hp;exact CU h a.1 a.2.1 a.2.2
theorem Sn {x a:Int} {y b:Int} (h0:0<=a) (h:a<=b) (h1:b<=2147483648):rtH x a<=rtH y b:=by
 have e:∀ x n:Int,rtH x n=if rtV (n*1073741824)*rtV (n*1073741824)<n*1073741824 then rtV (n*1073741824)+1 else rtV (n*1073741824):=fun _ _=>rfl
 rw [e x a,e y b];have u:=Fw (n:=a*1073741824) (k:=b*1073741824) (by omega) (by omega) (by omega)
 obtain ⟨a0,a1,a2⟩:=ko (a*1073741824) (by omega) (by omega)
 obtain ⟨b0,b1,b2⟩:=ko (b*1073741824) (by omega) (by omega)
 by_cases q:rtV (a*1073741824)<rtV (b*1073741824)
 . split<;>split<;>omega
 . have e2:rtV (a*1073741824)=rtV (b*1073741824):=by omega
   rw [e2] at a1 a2 ⊢
   split<;>split<;>omega
theorem VF {p p':IV} (fx:fxV p.1 p.2=true) (h0:0<=p.1) (hp:VH p' p):VH (uR p') (uR p):=by
 have b:=(bM _ _).1 fx;unfold VH at hp;have fx':fxV p'.1 p'.2=true:=by rw [bM];omega
 have r:=Pm fx h0;have r':=Pm fx' (by omega)
 have fr':=(bM _ _).1 (CJ p')
 have l:rtL p.1 p.2<=rtL p'.1 p'.2:=by
  unfold rtL;exact Fw (by omega) (by omega) (by omega)
 have u:rtH p'.1 p'.2<=rtH p.1 p.2:=Sn (by omega) hp.2.2 b.2.2
 rw [r.2.1,r'.2.1];rw [r'.2.1] at fr'
 exact ⟨l,fr'.2.1,u⟩
theorem Vs {X Y X' Y':IV} (a:U X) (b:U Y) (a':U X') (b':U Y') (h:VH X' X) (k:VH Y' Y):VH (hoI X' Y') (hoI X Y):=by
 have qx:=Uv (QI a).1 h;have qy:=Uv (QI b).1 k;have s:=QS a b;have A:=Sd s.1 qx.2 qy.2;exact VF (rM _ _) s.2 A.2
theorem R6 {X Y Z X' Y' Z':IV} {r s t u:Int} (a:U X) (b:U Y) (c:U Z) (a':U X') (b':U Y') (c':U Z') (h1:VH X' X) (h2:VH Y' Y) (h3:VH Z' Z) (hr:r<=s) (ht:t<=u) (g0:loF X Y Z r s t u=0) (g1:loG X Y Z r s t u=0) :
 loF X' Y' Z' r s t u=0/\loG X' Y' Z' r s t u=0/\VH (loE X' Y' t u) (loE X Y t u)/\VH (loN X' Y' Z' r s t u) (loN X Y Z r s t u)/\VH (loU X' Y' Z' r s t u) (loU X Y Z r s t u):=by
 have self:∀ x y:Int,VH (uS x y) (uS x y)/\VH (uC x y) (uC x y):=fun x y=>by
  have p:=Dq x y;have q:=Dq (x+5400000) (y+5400000);unfold VH uS uC;simp only;omega
 have uc:=fun x y=>U_C x y
 have us:=fun x y=>U_S x y
 have e:=VD (U_M b (uc t u)).2.2 (U_M a (us t u)).2.2 (U_M b' (uc t u)).2.2 (U_M a' (us t u)).2.2 (QK b (uc t u) b' (uc t u) h2 (self t u).2) (QK a (us t u) a' (us t u) h1 (self t u).1);have H:=VG (U_M a (uc t u)).2.2 (U_M b (us t u)).2.2 (U_M a' (uc t u)).2.2 (U_M b' (us t u)).2.2 (QK a (uc t u) a' (uc t u) h1 (self t u).2) (QK b (us t u) b' (us t u) h2 (self t u).1);have Hf:fxV (loH X Y t u).1 (loH X Y t u).2=true:=rM _ _;have m1:=Sg (Dh Hf (us r s)) H (self r s).1;have m2:=Sg (Dh Hf (uc r s)) H (self r s).2;have n1:=QK c (uc r s) c' (uc r s) h3 (self r s).2;have n2:=QK c (us r s) c' (us r s) h3 (self r s).1;have D:=VC g0 n1 m1.2;have A:=Sd g1 n2 m2.2;exact ⟨D.1,A.1,e,D.2,A.2⟩
theorem QC (x y:Int) (h:¬ (x=0/\y=0)) (hx0:0<=x) (hx:bW x) (hy:bW y):-5400000<=slo (aZ x y)/\slo (aZ x y)<=5400000/\(slo (aZ x y)=5400000->x=0/\0<y)/\(slo (aZ x y)=-5400000->x=0/\y<0∨0<x/\y<0):=by
 have bq:=Alm.q_bd x y 2147483648 h hx hy;have H:=wm x y h;have D:=fF x y h hx hy;have d:=D.1
 have ax:qY x y=0->gm x y=0:=fun q=>by
  rw [q] at D;exact Ed (qX x y) ⟨bq.1,bq.2.1⟩ _ D
 unfold slo aZ
 by_cases q:qY x y=0
 . have:=ax q;split<;>omega
 . split<;>omega
theorem F8 {yl yh xl xh:Int} (hy:yl<=yh) (hx:xl<=xh) (hy2:-2147483648<=yl/\yh<=2147483648) (hx2:0<=xl/\xh<=2147483648) (eo:bN yl yh xl xh=false) :
 -5400000<=slo (aU yl yh xl xh)/\slo (aU yl yh xl xh)<=5400000/\slo (aU yl yh xl xh)+(bg yl yh xl xh-aU yl yh xl xh)<=5400001:=by
 obtain ⟨f1,f2,l1,l2,fi,li,nf0,nl0,_,_,cfl,eL,eH⟩:=qP hy hx eo;have ho:¬ (xl<=0/\0<=xh/\yl<=0/\0<=yh):=of_decide_eq_false eo;have F1:bW f1:=kJ fi.1 hx ⟨by omega,hx2.2⟩
 have F2:=kJ fi.2 hy hy2;have L1:bW l1:=kJ li.1 hx ⟨by omega,hx2.2⟩
 have L2:=kJ li.2 hy hy2;have gb:=(rT nf0 nl0 cfl F1 F2 L1 L2).2.1;have sf:=QC f1 f2 nf0 (by omega) F1 F2
 have sl:=QC l1 l2 nl0 (by omega) L1 L2
 have af:=(tH _ _ nf0 F1 F2).1;have al:=(tH _ _ nl0 L1 L2).1;rw [eL,eH];have e1:(if fU l1 l2=true then (0:Int) else 1)<=1:=by split<;>omega
 have key:slo (aZ f1 f2)<=slo (aZ l1 l2):=by
  refine Int.not_lt.1 fun hh=>?_
  have z:slo (aZ f1 f2)=5400000/\slo (aZ l1 l2)=-5400000:=by
   unfold gp at gb;unfold slo at *
   clear cfl ho fi li e1 eL eH;split at hh<;>split at hh<;>omega
  have a1:=sf.2.2.1 z.1;have a2:=sl.2.2.2 z.2;clear gb sf sl cfl;omega
 have gv:gp f1 f2 l1 l2=slo (aZ l1 l2)-slo (aZ f1 f2):=by
  unfold gp;unfold slo at *
  clear cfl ho fi li e1 eL eH;split at key<;>split at key<;>(split;all_goals (try split))<;>omega
 rw [gv];clear cfl ho fi li eL eH;omega
