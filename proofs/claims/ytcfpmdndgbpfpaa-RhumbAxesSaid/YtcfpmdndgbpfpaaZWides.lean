/- The contracts of package wide: products and quotients. -/
import Derived.Test.YtcfpmdndgbpfpaaZTrigs
import Derived.Deep.Light
set_option linter.unusedVariables false
set_option linter.unusedSimpArgs false
namespace Go.Proofs.Ytcfpmdndgbpfpaa
open Go.RowKit Alm
end Go.Proofs.Ytcfpmdndgbpfpaa
namespace Go.Proofs.Ytcfpmdndgbpfpaa
open Go.RowKit Alm
def quo (V b:Int) (up:Bool):Int:=if up then -((-V)/b) else V/b
theorem gu (d k s:Int) (hd:0<d) (h2:0<=s) (h3:s<d):(d*k+s)/d=k:=by
 rw [Int.add_comm,Int.add_mul_ediv_left _ _ (by omega),Int.ediv_eq_zero_of_lt h2 h3];omega
end Go.Proofs.Ytcfpmdndgbpfpaa
namespace Go.Proofs.Ytcfpmdndgbpfpaa
open Go.RowKit Alm
def fxV (lo hi:Int):Bool:=decide (-2147483648<=lo/\lo<=hi/\hi<=2147483648)
theorem oM (lo hi:Int):fxV lo hi=true↔-2147483648<=lo/\lo<=hi/\hi<=2147483648:=by unfold fxV;simp
theorem jB (lo hi:Int) (w:World) :
 Calls Try.prog 44 #[.agg #[.int .i64 lo,.int .i64 hi]] w fun e w'=>e=.returned (.bool (fxV lo hi))/\Below w.heap.size w w':=by
 go_enter Try.func44,Try.ntmps44;go_wp2
 all_goals
  go_ret;exact ⟨kX (by unfold fxV;rw [Bool.eq_iff_iff];simp<;>omega),by go_grown⟩
end Go.Proofs.Ytcfpmdndgbpfpaa
namespace Go.Proofs.Ytcfpmdndgbpfpaa
open Go.RowKit Alm
theorem Mk (lo hi:Int):-1073741824<=iA lo hi/\iA lo hi<=iW lo hi/\iW lo hi<=1073741824:=by
 have h1:=pV lo;have h2:=pV hi;unfold iA iW;split<;>split<;>omega
