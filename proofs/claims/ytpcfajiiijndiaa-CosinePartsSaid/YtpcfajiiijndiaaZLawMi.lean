/- The law CosineMirrors: the triangle can be mirrored. -/
import Derived.Test.YtpcfajiiijndiaaZCoM
import Derived.Test.YtpcfajiiijndiaaZCosM
import Derived.Test.YtpcfajiiijndiaaZTrn
set_option linter.unusedVariables false
set_option linter.unusedSimpArgs false
namespace Go.Proofs.Ytpcfajiiijndiaa
open Go.RowKit Alm Sx
theorem Re (lo hi:Int) (h:lo<=hi):bE lo<=-bE (-hi):=by
 obtain ⟨a0,a1,a2,_⟩:=dO lo;obtain ⟨b0,b1,b2,_⟩:=dO (-hi)
 by_cases hh:bE lo<=-bE (-hi)
 . exact hh
 . have m:=Bl (-bE (-hi)) (bE lo) (by omega) (by omega) (by omega)
   have n:=(Vg (-bE (-hi))).2;rw [Int.neg_neg] at n;omega
theorem BP (a b c d e f:Int):-5400000<=(dV a b c d e f).getD 0 0/\(dV a b c d e f).getD 0 0<=(dV a b c d e f).getD 1 0/\(dV a b c d e f).getD 1 0<=5400000:=by
 rw [(eT a b c d e f).1,(eT a b c d e f).2.1];have m:=vw a b c d e f;have le:=((dR _ _).1 (U_A (U_M (U_S a b) (U_S c d)).2.2 (U_M (U_M (U_C a b) (U_C c d)).2.2 (U_C e f)).2.2).2.2).2.1;unfold qA nY;have x:=dO (max (jJ a b c d e f).1 (-1073741824));have y:=dO (-(min (jJ a b c d e f).2 1073741824));have z:=Re (max (jJ a b c d e f).1 (-1073741824)) (min (jJ a b c d e f).2 1073741824) (by unfold jJ at *;omega)
 omega
theorem Iw (a b c d e f:Int):(0<=(azV a b c d e f).getD 0 0/\(azV a b c d e f).getD 0 0<=21599999/\(azV a b c d e f).getD 0 0<=(azV a b c d e f).getD 1 0/\(azV a b c d e f).getD 1 0<=(azV a b c d e f).getD 0 0+21600000)/\((azV a b c d e f).getD 1 0-(azV a b c d e f).getD 0 0>=21600000->(azV a b c d e f).getD 0 0=0):=by
 rw [(gP a b c d e f).1,(gP a b c d e f).2.1];refine ⟨Cy _ _ _ _,fun h=>?_⟩
 have B:=Bo a b c d e f;cases ho:dY (azY c d e f).1 (azY c d e f).2 (azX a b c d e f).1 (azX a b c d e f).2
 . have:=wm B.1.1 B.2.1 ⟨B.1.2.1,B.1.2.2⟩ ⟨B.2.2.1,B.2.2.2⟩ ho;omega
 . unfold bf;rw [ho];rfl
def KQ:List Sx.Spec:=[zG,TL,sAz,Vs,Ot]
theorem Da (args:List Int):∀ s∈KQ,aC Try.prog (cxF args) s:=by
 intro s hs;simp only [KQ,List.mem_cons,List.not_mem_nil,or_false] at hs;rcases hs with rfl|rfl|rfl|rfl|rfl
 . exact zX args
 . exact qM args _ (by simp [GZ])
 . exact qM args _ (by simp [GZ])
 . exact qM args _ (by simp [GZ])
 . exact KH args
