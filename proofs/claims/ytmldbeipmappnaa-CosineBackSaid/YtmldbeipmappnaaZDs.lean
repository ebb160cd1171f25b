/- Plain: distances that need not be whole: which arcs hold them; arcsines of numbers that are only near. -/
import Derived.Test.YtmldbeipmappnaaZRd
set_option linter.unusedVariables false
set_option linter.unusedSimpArgs false
namespace Go.Proofs.Ytmldbeipmappnaa
open Alm Sx
def gap:Rat:=18/1000000000000000
theorem Ai:10*ee+gap<=19/1000000000000000/\0<gap:=by unfold ee gap;decide +kernel
theorem FO (m n:Int) (h0:-5400000<=m) (h:m<n) (h1:n<=5400000):sg m+gap+8*ee<=sg n:=by
 have a:=IR m h0 (by omega)
 have b:=IR n (by omega) h1
 have c:=Mo m n h0 h h1;have e:=Ai;unfold Nr at a b;clear h h0 h1;grind
theorem G9 {lo n:Int} (h0:-5400000<=n) (h1:n<=5400000) (h:(lo:Rat)*u30-gap<=sg n):qw lo<=n:=by
 refine Int.not_lt.1 fun hh=>?_
 unfold qw at hh;obtain ⟨a0,a1,a2,_⟩:=dE (max lo (-1073741824));generalize bR (max lo (-1073741824))=m at *
 have hb:bHi m<=max lo (-1073741824):=by rcases a2 with q|q<;>omega
 have hm:=EJ (-5400000) m (by omega) (by omega) (by omega)
 rw [Sb] at hm;have hl:bHi m<=lo:=by omega
 have g:=FO n m h0 (by omega) a1
 have s:=(ww m).2;have c:(bHi m:Rat)<=(lo:Rat):=Rat.intCast_le_intCast.2 hl;have u:=Rat.mul_le_mul_of_nonneg_right c (Rat.le_of_lt dU);have e:=bz;clear hh a0 a1 a2 hb hm hl h0 h1 c;grind
theorem RO {hi n:Int} (h0:-5400000<=n) (h1:n<=5400000) (h:sg n<=(hi:Rat)*u30+gap):n<=qV hi:=by
 refine Int.not_lt.1 fun hh=>?_
 unfold qV at hh;obtain ⟨a0,a1,a2,_⟩:=dE (-(min hi 1073741824));generalize bR (-(min hi 1073741824))=m at *
 have hb:bHi m<=-(min hi 1073741824):=by rcases a2 with q|q<;>omega
 have hn:=(ack m).1;have g:=FO (-m) n (by omega) (by omega) h1
 have s:=(ww (-m)).1;have o:=(g1 n).2.2;have e:=bz;have u1:=fe
 by_cases q:hi<=1073741824
 . have hl:hi<=bLo (-m):=by omega
   have c:(hi:Rat)<=(bLo (-m):Rat):=Rat.intCast_le_intCast.2 hl;have u:=Rat.mul_le_mul_of_nonneg_right c (Rat.le_of_lt dU);clear hh a0 a1 a2 hb hn hl h0 h1 c q;grind
 . have hl:1073741824<=bLo (-m):=by omega
   have c:((1073741824:Int):Rat)<=(bLo (-m):Rat):=Rat.intCast_le_intCast.2 hl;have u:=Rat.mul_le_mul_of_nonneg_right c (Rat.le_of_lt dU);have k:((1073741824:Int):Rat)=1073741824:=by decide +kernel
   rw [k,u1] at u;have gp:=Ai.2;clear hh a0 a1 a2 hb hn hl h0 h1 c q h;grind
theorem Fe {p q:IV} (hp:U p) (hq:U q) {x y e f:Rat} (hx:InE p.1 p.2 x e) (hy:InE q.1 q.2 y f):InE (uD p q).1 (uD p q).2 (x-y) (e+f):=by
 rw [(U_D hp hq).1];unfold InE at *
 simp only [Rat.intCast_sub]
 constructor<;>grind
theorem InE.le {L H:Int} {x e f:Rat} (h:InE L H x e) (k:e<=f):InE L H x f:=by
 unfold InE at *
 constructor<;>grind
theorem lm (n:Int):InE (uS n n).1 (uS n n).2 (sg n) (2*ee):=CG n n n (.inl rfl)
theorem jq (n:Int):InE (uC n n).1 (uC n n).2 (cg n) (2*ee):=lM n n n (.inl rfl)
def dtp (a c e:Int):Rat:=sg a*sg c+cg a*cg c*cg e
theorem xV (a c e:Int):dtp a c e*dtp a c e+((cg a*sg c-sg a*cg c*cg e)*(cg a*sg c-sg a*cg c*cg e)+sg e*cg c*(sg e*cg c))=1:=by
 have u:=cO a;have v:=cO c;have w:=cO e;unfold dtp;generalize sg a=x at *
 generalize cg a=X at *
 generalize sg c=y at *
 generalize cg c=Y at *
 generalize sg e=z at *
 generalize cg e=Z at *
 have a1:X*X=1-x*x:=by grind
 have a2:z*z=1-Z*Z:=by grind
 have a3:Y*Y=1-y*y:=by grind
 have e1:(x*y+X*Y*Z)*(x*y+X*Y*Z)+((X*y-x*Y*Z)*(X*y-x*Y*Z)+z*Y*(z*Y))=(x*x+X*X)*(y*y)+(X*X+x*x)*(Y*Y)*(Z*Z)+z*z*(Y*Y):=by clear u v w a1 a2 a3;grind
 rw [e1,a1,a2,a3];clear u v w a1 a2 a3 e1;grind
theorem aaZ (n:Int):Nr (cg (-n)) (cg n) (70*ee):=by
 have h:=ik n 0;have z:sg 0=0/\cg 0=1:=by decide +kernel
 rw [z.1,z.2,show (0:Int)-n=-n by omega] at h
 unfold Nr at *
 constructor<;>grind
theorem Ad:22*(2000*ee)<(1/10000000000000000:Rat)*(1/10000000000000000)/\2000*ee<=1/\0<=2000*ee/\1/10000000000000000+1000*ee<gap:=by unfold ee gap;decide +kernel
