/- What of UnM only some laws need. -/
import Derived.Test.YtoniodlcogpdbaaGreatZUnit
set_option linter.unusedVariables false
set_option linter.unusedSimpArgs false
namespace Alm
end Alm
namespace Go.Proofs.YtoniodlcogpdbaaGreat
open Alm Sx
def mQ (a b c d e f:Int):IV:=uA (uM (uS a b) (uS c d)) (uM (uM (uC a b) (uC c d)) (uC e f))
theorem uh (a b c d e f:Int):(mQ a b c d e f).1<=1073741824/\-1073741824<=(mQ a b c d e f).2:=by
 have p1:(0:Rat)<=2*ee:=by have:=sG;grind
 have hsa:=WN a b a (.inl rfl);have hca:=Pz a b a (.inl rfl);have hsc:=WN c d c (.inl rfl);have hcc:=Pz c d c (.inl rfl);have hce:=Pz e f e (.inl rfl);have o1:=GY a;have o2:=GY c;have o3:=GY e;have M1:=OH (U_S a b) (U_S c d) hsa hsc p1 p1 (Bt o1);have M2:=OH (U_C a b) (U_C c d) hca hcc p1 p1 (Bt (y:=sg a) (by grind))
 have m2:-1<=cg a*cg c/\cg a*cg c<=1:=by
  have a1:=Bt (x:=cg a) (y:=sg a) (by grind)
  have a2:=Bt (x:=cg c) (y:=sg c) (by grind)
  have q1:=Rat.mul_nonneg (show 0<=1-cg a by grind) (show 0<=1-cg c by grind)
  have q2:=Rat.mul_nonneg (show 0<=1-cg a by grind) (show 0<=1+cg c by grind)
  have q3:=Rat.mul_nonneg (show 0<=1+cg a by grind) (show 0<=1-cg c by grind)
  have q4:=Rat.mul_nonneg (show 0<=1+cg a by grind) (show 0<=1+cg c by grind)
  constructor<;>grind
 have M3:=OH (U_M (U_C a b) (U_C c d)).2.2 (U_C e f) M2 hce (by grind) p1 m2
 have A:=aaS (U_M (U_S a b) (U_S c d)).2.2 (U_M (U_M (U_C a b) (U_C c d)).2.2 (U_C e f)).2.2 M1 M3;have O:=TH o1 o2 o3;have big:(2*ee+2*ee+(2*ee+2*ee+2*ee))<u30:=by rw [fu];unfold ee;decide +kernel
 unfold InE at A;have up:=rA;show (uA _ _).1<=_/\_<=(uA _ _).2;generalize (uA (uM (uS a b) (uS c d)) (uM (uM (uC a b) (uC c d)) (uC e f))).1=L at *
 generalize (uA (uM (uS a b) (uS c d)) (uM (uM (uC a b) (uC c d)) (uC e f))).2=H at *
 generalize sg a*sg c+cg a*cg c*cg e=V at *
 have e1:((1073741824:Int):Rat)*u30=1:=vC;have e2:((-1073741824:Int):Rat)*u30=-1:=by rw [fu];decide +kernel
 constructor
 . refine Int.not_lt.1 fun hh=>?_
   have h1:((1073741824+1:Int):Rat)<=(L:Rat):=Rat.intCast_le_intCast.2 (by omega)
   rw [Rat.intCast_add] at h1;have h2:=Rat.mul_le_mul_of_nonneg_right h1 (Rat.le_of_lt up)
   have e3:(((1073741824:Int):Rat)+((1:Int):Rat))*u30=((1073741824:Int):Rat)*u30+u30:=by
    have:((1:Int):Rat)=1:=rfl;rw [this];grind
   rw [e3,e1] at h2;grind
 . refine Int.not_lt.1 fun hh=>?_
   have h1:(H:Rat)<=((-1073741824-1:Int):Rat):=Rat.intCast_le_intCast.2 (by omega)
   rw [Rat.intCast_sub] at h1;have h2:=Rat.mul_le_mul_of_nonneg_right h1 (Rat.le_of_lt up)
   have e3:(((-1073741824:Int):Rat)-((1:Int):Rat))*u30=((-1073741824:Int):Rat)*u30-u30:=by
    have:((1:Int):Rat)=1:=rfl;rw [this];grind
   rw [e3,e2] at h2;grind
