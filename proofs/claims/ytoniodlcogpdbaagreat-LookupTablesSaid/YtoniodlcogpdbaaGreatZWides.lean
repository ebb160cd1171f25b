/- The contracts of package wide: products and quotients. -/
import Derived.Test.YtoniodlcogpdbaaGreatZTrigs
import Derived.Deep.Light
set_option linter.unusedVariables false
set_option linter.unusedSimpArgs false
namespace Go.Proofs.YtoniodlcogpdbaaGreat
open Go.RowKit Alm
end Go.Proofs.YtoniodlcogpdbaaGreat
namespace Go.Proofs.YtoniodlcogpdbaaGreat
open Go.RowKit Alm
def quo (V b:Int) (up:Bool):Int:=if up then -((-V)/b) else V/b
theorem jA (d k s:Int) (hd:0<d) (h2:0<=s) (h3:s<d):(d*k+s)/d=k:=by
 rw [Int.add_comm,Int.add_mul_ediv_left _ _ (by omega),Int.ediv_eq_zero_of_lt h2 h3];omega
end Go.Proofs.YtoniodlcogpdbaaGreat
namespace Go.Proofs.YtoniodlcogpdbaaGreat
open Go.RowKit Alm
def fxV (lo hi:Int):Bool:=decide (-2147483648<=lo/\lo<=hi/\hi<=2147483648)
theorem bS (lo hi:Int):fxV lo hi=true↔-2147483648<=lo/\lo<=hi/\hi<=2147483648:=by unfold fxV;simp
theorem fI (lo hi:Int) (w:World) :
 Calls Tryz.prog 101 #[.agg #[.int .i64 lo,.int .i64 hi]] w fun e w'=>e=.returned (.bool (fxV lo hi))/\Below w.heap.size w w':=by
 go_enter Tryz.func101,Tryz.ntmps101;go_wp2
 all_goals
  go_ret;exact ⟨kz (by unfold fxV;rw [Bool.eq_iff_iff];simp<;>omega),by go_grown⟩
theorem Ar (a b c d:Int) (w:World) :
 Calls Tryz.prog 70 #[.agg #[.int .i64 a,.int .i64 b],.agg #[.int .i64 c,.int .i64 d]] w fun e w'=>e=.returned (.bool (fxV a b&&fxV c d))/\Below w.heap.size w w':=by
 have PA:=Lib.hid (dA w (.int .i64 a) (.int .i64 b) 58);have PB:=Lib.hid (dA (w.alloc (.cells #[.int .i64 a,.int .i64 b] 58)) (.int .i64 c) (.int .i64 d) 58);have C1:=Lib.hid (fun w=>fI a b w)
 have C2:=Lib.hid (fun w=>fI c d w)
 generalize fxV a b=u at *
 generalize fxV c d=v at *
 cases u
 . go_enter Tryz.func70,Tryz.ntmps70;go_wp2_with fail;refine (C1.out _).mono ?_;rintro e w1 ⟨rfl,hb1⟩;have H1:=Lib.hid hb1;clear hb1;go_wp2;go_ret;exact ⟨rfl,(((Below.refl _ _).alloc (Nat.le_refl _) _).alloc (by simp) _).trans (H1.out.mono (by simp;omega))⟩
 . go_enter Tryz.func70,Tryz.ntmps70;go_wp2_with fail;refine (C1.out _).mono ?_;rintro e w1 ⟨rfl,hb1⟩;have H1:=Lib.hid hb1;clear hb1;have PB1:=Lib.hid (PB.out.below H1.out (by simp))
   obtain ⟨p0,p1,_,_⟩:=PB1.out;simp only [World.size_alloc] at p0 p1;have HB1:Hid (Below w.heap.size w w1):=(((Below.refl _ _).alloc (Nat.le_refl _) _).alloc (by simp) _).trans (H1.out.mono (by simp;omega))
   go_wp2_with fail;refine (C2.out _).mono ?_;rintro e w2 ⟨rfl,hb1⟩;have H2:=Lib.hid hb1;clear hb1;go_wp2;go_ret;exact ⟨by cases v<;>rfl,HB1.out.trans (H2.out.mono HB1.out.size)⟩
end Go.Proofs.YtoniodlcogpdbaaGreat
namespace Go.Proofs.YtoniodlcogpdbaaGreat
open Go.RowKit Alm
theorem Pp (lo hi:Int):-1073741824<=bC lo hi/\bC lo hi<=bI lo hi/\bI lo hi<=1073741824:=by
 have h1:=gP lo;have h2:=gP hi;unfold bC bI;split<;>split<;>omega
