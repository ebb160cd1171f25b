/- Plain numbers: what Turn makes of an arc. -/
import Derived.Test.YtmldbeipmappnaaZSxL
import Derived.IntWalk
set_option linter.unusedVariables false
set_option linter.unusedSimpArgs false
namespace Go.Proofs.Ytmldbeipmappnaa
open Go.RowKit Sx
theorem Eg {p:Prop} [Decidable p] {x y:Int}:(if b2i (decide p)≠0 then x else y)=if p then x else y:=by
 by_cases h:p<;>simp [b2i,h]
theorem Cj {X Y w g r l u q s lo hi:Int} (hb:-1099511627776<=X/\X<=Y/\Y<=1099511627776) (hw:w=IntKind.i64.wrap (Y-X)) (hg:g=b2i (decide (w>=21600000))) (hr:r=Int.tmod X 21600000) (hl:l=b2i (decide (r<0))) (hu:u=IntKind.i64.wrap (r+21600000)) (hq:q=if l≠0 then u else r) (hs:s=IntKind.i64.wrap (q+w)) (hlo:lo=if g≠0 then (0:Int) else q) (hhi:hi=if g≠0 then (21600000:Int) else s) :
 lo=(if Y-X>=21600000 then 0 else X%21600000)/\hi=(if Y-X>=21600000 then 21600000 else X%21600000+(Y-X)):=by
 have b1:=Int.tmod_lt_of_pos X (show (0:Int)<21600000 by omega)
 have b2:=Int.tmod_lt_of_pos (-X) (show (0:Int)<21600000 by omega)
 rw [Int.neg_tmod] at b2;rw [Go.IntWalk.i64_in _ (by omega)] at hw hu
 have q2:q=X%21600000:=by
  rw [hq,hl,Eg,hu,hr];rw [Int.tmod_eq_emod] at *
  split<;>split<;>omega
 rw [Go.IntWalk.i64_in _ (by rw [q2];omega)] at hs
 rw [hlo,hhi,hg,hs,q2,Eg,Eg,hw];exact ⟨rfl,rfl⟩
