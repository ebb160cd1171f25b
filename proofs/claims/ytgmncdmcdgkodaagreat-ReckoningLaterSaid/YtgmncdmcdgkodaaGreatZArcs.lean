/- The contracts of package arctrig's numbers. -/
import Derived.Test.YtgmncdmcdgkodaaGreatZArcLo
import Derived.Test.YtgmncdmcdgkodaaGreatZTrigs
set_option linter.unusedVariables false
set_option linter.unusedSimpArgs false
namespace Go.Proofs.YtgmncdmcdgkodaaGreat
open Go.RowKit Alm
end Go.Proofs.YtgmncdmcdgkodaaGreat
namespace Go.Proofs.YtgmncdmcdgkodaaGreat
open Go.RowKit Alm
end Go.Proofs.YtgmncdmcdgkodaaGreat
namespace Go.Proofs.YtgmncdmcdgkodaaGreat
open Go.RowKit Alm
end Go.Proofs.YtgmncdmcdgkodaaGreat
namespace Go.Proofs.YtgmncdmcdgkodaaGreat
open Go.RowKit Alm
structure I6 (w wr:World) (Y b7 b8 s T:Nat):Prop where
 below:Below w.heap.size w wr
 y:dA wr (w.heap.size+1) Y
 r:dA wr (w.heap.size+1+1) 0
 s:dA wr b7 s
 t:dA wr b8 T
 lt:w.heap.size+5<=wr.heap.size
end Go.Proofs.YtgmncdmcdgkodaaGreat
namespace Alm
def Hw (F Y n:Nat):Nat:=(Gt 34 F Y n).toNat
def Ht (k:Nat):Nat:=Hw (cO k) (sqA k) 1
def Ia (k:Nat):Nat:=Hw QA (sqA k) 0
def sN (k:Nat):Nat:=if k<=2700000 then Ht k else Ia (5400000-k)
def cN (k:Nat):Nat:=if k<=2700000 then Ia k else Ht (5400000-k)
end Alm
namespace Go.Proofs.YtgmncdmcdgkodaaGreat
open Go.RowKit Alm
def F4 (w:World) (b:Nat) (x0 x1 x2 x3:Value):Prop :=
 (w.cell? ⟨b,0,none⟩=some x0/\w.cell? ⟨b,1,none⟩=some x1/\w.cell? ⟨b,2,none⟩=some x2/\w.cell? ⟨b,3,none⟩=some x3) /\
 (w.frozen? ⟨b,0,none⟩=false/\w.frozen? ⟨b,1,none⟩=false/\w.frozen? ⟨b,2,none⟩=false/\w.frozen? ⟨b,3,none⟩=false)
def W4 (w:World) (b:Nat) (x0 x1 x2 x3:Value):World:=(((w.setCell ⟨b,0,none⟩ x0).setCell ⟨b,1,none⟩ x1).setCell ⟨b,2,none⟩ x2).setCell ⟨b,3,none⟩ x3
theorem F4.below {w wx:World} {b B:Nat} {x0 x1 x2 x3:Value} (h:F4 w b x0 x1 x2 x3) (hb:Below B w wx) (hB:b<B):F4 wx b x0 x1 x2 x3:=by
 obtain ⟨⟨a0,a1,a2,a3⟩,f0,f1,f2,f3⟩:=h;exact ⟨⟨(hb.cell hB).trans a0,(hb.cell hB).trans a1,(hb.cell hB).trans a2,(hb.cell hB).trans a3⟩,(hb.frozen hB).trans f0,(hb.frozen hB).trans f1,(hb.frozen hB).trans f2,(hb.frozen hB).trans f3⟩
theorem F4.store {w:World} {b:Nat} {x0 x1 x2 x3:Value} (h:F4 w b x0 x1 x2 x3) (y0 y1 y2 y3:Value):F4 (W4 w b y0 y1 y2 y3) b y0 y1 y2 y3:=by
 obtain ⟨⟨a0,a1,a2,a3⟩,f0,f1,f2,f3⟩:=h;have sm:∀ (w:World) (p:Nat) (v u:Value),w.cell? ⟨b,p,none⟩=some u->(w.setCell ⟨b,p,none⟩ v).cell? ⟨b,p,none⟩=some v:=fun w p v u h=>World.cell?_setCell_same _ _ _ h
 have ot:∀ (w:World) (p q:Nat) (v:Value),p≠q->(w.setCell ⟨b,p,none⟩ v).cell? ⟨b,q,none⟩=w.cell? ⟨b,q,none⟩:=fun w p q v h=>World.cell?_setCell_other _ _ _ _ (by intro e;injection e with _ e;exact h e)
 unfold W4;refine ⟨⟨?_,?_,?_,?_⟩,?_,?_,?_,?_⟩
 . rw [ot _ _ _ _ (by omega),ot _ _ _ _ (by omega),ot _ _ _ _ (by omega)];exact sm _ _ _ _ a0
 . rw [ot _ _ _ _ (by omega),ot _ _ _ _ (by omega)];exact sm _ _ _ _ (by rw [ot _ _ _ _ (by omega)];exact a1)
 . rw [ot _ _ _ _ (by omega)];exact sm _ _ _ _ (by rw [ot _ _ _ _ (by omega),ot _ _ _ _ (by omega)];exact a2)
 . exact sm _ _ _ _ (by rw [ot _ _ _ _ (by omega),ot _ _ _ _ (by omega),ot _ _ _ _ (by omega)];exact a3)
 all_goals simp only [World.frozen?_setCell];assumption
theorem F4.apart {w:World} {b b':Nat} {x0 x1 x2 x3:Value} (h:F4 w b x0 x1 x2 x3) (y0 y1 y2 y3:Value) (hn:b'≠b):F4 (W4 w b' y0 y1 y2 y3) b x0 x1 x2 x3:=by
 obtain ⟨⟨a0,a1,a2,a3⟩,f0,f1,f2,f3⟩:=h;have ot:∀ (w:World) (p q:Nat) (v:Value),(w.setCell ⟨b',p,none⟩ v).cell? ⟨b,q,none⟩=w.cell? ⟨b,q,none⟩:=fun w p q v=>World.cell?_setCell_other _ _ _ _ (by intro e;injection e with e;exact hn e)
 unfold W4;refine ⟨⟨?_,?_,?_,?_⟩,?_,?_,?_,?_⟩
 all_goals first|(simp only [World.frozen?_setCell];assumption)|(rw [ot,ot,ot,ot];assumption)
theorem F4.drew {w:World} {b:Nat} {x0 x1 x2 x3:Value} (h:F4 w b x0 x1 x2 x3):F4 w.drew b x0 x1 x2 x3:=h
