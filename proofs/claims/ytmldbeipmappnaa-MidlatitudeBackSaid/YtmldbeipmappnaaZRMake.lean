/- The contract of the reference's Make, for quotients up to 1. -/
import Derived.Test.YtmldbeipmappnaaZMakeD
import Derived.Test.YtmldbeipmappnaaZSpE
import Derived.Test.YtmldbeipmappnaaZEv
set_option linter.unusedVariables false
set_option linter.unusedSimpArgs false
namespace Alm
open Go Sx Go.RowKit
end Alm
namespace Go.Proofs.Ytmldbeipmappnaa
open Go.RowKit Alm Sx
theorem ajd {x d:Int} (hd:0<d/\d<=1099511627776) (hx:-d<=x/\x<=d):MkP x d/\-1073741824<=qFl x 1073741824 d/\qFl x 1073741824 d<=qCe x 1073741824 d/\qCe x 1073741824 d<=1073741824:=by
 have M:MkP x d:=⟨hd,by omega,.inr hx⟩
 refine ⟨M,?_,(acA M).2.2.2,?_⟩
 . unfold qFl;exact (Int.le_ediv_iff_mul_le hd.1).2 (by omega)
 . unfold qCe;have:-1073741824<=-(x*1073741824)/d:=(Int.le_ediv_iff_mul_le hd.1).2 (by omega)
   omega
theorem ajm (x d:Int) (w:World) (hd:0<d/\d<=1099511627776) (hx:-d<=x/\x<=d):Calls Try.prog 158 #[.int .i64 x,.int .i64 d] w fun e w'=>e=.returned (.tuple #[.agg #[.int .i64 (qFl x 1073741824 d),.int .i64 (qCe x 1073741824 d)],.int .i64 0])/\Below w.heap.size w w':=by
 obtain ⟨M,b1,b2,b3⟩:=ajd hd hx;have:=aaM x d w M;unfold opV at this;have F:-2147483648<=qFl x 1073741824 d/\qFl x 1073741824 d<=qCe x 1073741824 d/\qCe x 1073741824 d<=2147483648:=by omega
 first
  | (rw [if_pos F] at this;exact this)
  | (unfold rP tF oZ at this;rw [if_pos F,if_pos F,if_pos F] at this;exact this)
def ald (f:Nat):Bool:=f==96
def ajg:Nat->List Int->List Int
 | 96,[x,d]=>[qFl x 1073741824 d,qCe x 1073741824 d,0]
 | _,_=>[]
def ak8:Nat->List Int->Prop
 | 96,[x,d]=>(0<d/\d<=1099511627776)/\-d<=x/\x<=d
 | _,_=>False
def cxK (args:List Int):Cx:=(cxE args).plus ald ajg ak8
theorem akU (args:List Int):om (cxK args):=jg (adk args) fun f h=>by
 unfold ald;rcases h with h|rfl
 . simp;omega
 . rfl
def akL:Sx.Spec:=⟨158,96,[(false,[some .i64]),(false,[some .i64])],[(true,[some .i64,some .i64]),(false,[some .i64])]⟩
