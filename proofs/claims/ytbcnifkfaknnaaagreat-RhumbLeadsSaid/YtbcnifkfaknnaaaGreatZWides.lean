/- The contracts of package wide: products and quotients. -/
import Derived.Test.YtbcnifkfaknnaaaGreatZTrigs
import Derived.Deep.Light
set_option linter.unusedVariables false
set_option linter.unusedSimpArgs false
namespace Go.Proofs.YtbcnifkfaknnaaaGreat
open Go.RowKit Alm
end Go.Proofs.YtbcnifkfaknnaaaGreat
namespace Go.Proofs.YtbcnifkfaknnaaaGreat
open Go.RowKit Alm
def quo (V b:Int) (up:Bool):Int:=if up then -((-V)/b) else V/b
theorem ji (d k s:Int) (hd:0<d) (h2:0<=s) (h3:s<d):(d*k+s)/d=k:=by
 rw [Int.add_comm,Int.add_mul_ediv_left _ _ (by omega),Int.ediv_eq_zero_of_lt h2 h3];omega
end Go.Proofs.YtbcnifkfaknnaaaGreat
namespace Go.Proofs.YtbcnifkfaknnaaaGreat
open Go.RowKit Alm
def fxV (lo hi:Int):Bool:=decide (-2147483648<=lo/\lo<=hi/\hi<=2147483648)
theorem kG (lo hi:Int):fxV lo hi=true↔-2147483648<=lo/\lo<=hi/\hi<=2147483648:=by unfold fxV;simp
theorem jD (lo hi:Int) (w:World) :
 Calls Tryz.prog 37 #[.agg #[.int .i64 lo,.int .i64 hi]] w fun e w'=>e=.returned (.bool (fxV lo hi))/\Below w.heap.size w w':=by
 go_enter Tryz.func37,Tryz.ntmps37;go_wp2
 all_goals
  go_ret;exact ⟨oo (by unfold fxV;rw [Bool.eq_iff_iff];simp<;>omega),by go_grown⟩
end Go.Proofs.YtbcnifkfaknnaaaGreat
namespace Go.Proofs.YtbcnifkfaknnaaaGreat
open Go.RowKit Alm
theorem iX (lo hi:Int):-1073741824<=dF lo hi/\dF lo hi<=dH lo hi/\dH lo hi<=1073741824:=by
 have h1:=jA lo;have h2:=jA hi;unfold dF dH;split<;>split<;>omega
