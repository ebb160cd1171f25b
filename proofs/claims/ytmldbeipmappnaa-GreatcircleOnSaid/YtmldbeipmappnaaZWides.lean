/- The contracts of package wide: products and quotients. -/
import Derived.Test.YtmldbeipmappnaaZTrigs
import Derived.Deep.Light
set_option linter.unusedVariables false
set_option linter.unusedSimpArgs false
namespace Go.Proofs.Ytmldbeipmappnaa
open Go.RowKit Alm
end Go.Proofs.Ytmldbeipmappnaa
namespace Go.Proofs.Ytmldbeipmappnaa
open Go.RowKit Alm
def quo (V b:Int) (up:Bool):Int:=if up then -((-V)/b) else V/b
end Go.Proofs.Ytmldbeipmappnaa
namespace Go.Proofs.Ytmldbeipmappnaa
open Go.RowKit Alm
def fxV (lo hi:Int):Bool:=decide (-2147483648<=lo/\lo<=hi/\hi<=2147483648)
theorem ek (lo hi:Int):fxV lo hi=true↔-2147483648<=lo/\lo<=hi/\hi<=2147483648:=by unfold fxV;simp
theorem dE (lo hi:Int) (w:World) :
 Calls Try.prog 128 #[.agg #[.int .i64 lo,.int .i64 hi]] w fun e w'=>e=.returned (.bool (fxV lo hi))/\Below w.heap.size w w':=by
 go_enter Try.func128,Try.ntmps128;go_wp2
 all_goals
  go_ret;exact ⟨rF (by unfold fxV;rw [Bool.eq_iff_iff];simp<;>omega),by go_grown⟩
theorem xD (a b c d:Int) (w:World) :
 Calls Try.prog 142 #[.agg #[.int .i64 a,.int .i64 b],.agg #[.int .i64 c,.int .i64 d]] w fun e w'=>e=.returned (.bool (fxV a b&&fxV c d))/\Below w.heap.size w w':=by
 have PA:=Lib.hid (jV w (.int .i64 a) (.int .i64 b) 87);have PB:=Lib.hid (jV (w.alloc (.cells #[.int .i64 a,.int .i64 b] 87)) (.int .i64 c) (.int .i64 d) 87);have C1:=Lib.hid (fun w=>dE a b w)
 have C2:=Lib.hid (fun w=>dE c d w)
 generalize fxV a b=u at *
 generalize fxV c d=v at *
 cases u
 . go_enter Try.func142,Try.ntmps142;go_wp2_with fail;refine (C1.out _).mono ?_;rintro e w1 ⟨rfl,hb1⟩;have H1:=Lib.hid hb1;clear hb1;go_wp2;go_ret;exact ⟨rfl,(((Below.refl _ _).alloc (Nat.le_refl _) _).alloc (by simp) _).trans (H1.out.mono (by simp;omega))⟩
 . go_enter Try.func142,Try.ntmps142;go_wp2_with fail;refine (C1.out _).mono ?_;rintro e w1 ⟨rfl,hb1⟩;have H1:=Lib.hid hb1;clear hb1;have PB1:=Lib.hid (PB.out.below H1.out (by simp))
   obtain ⟨p0,p1,_,_⟩:=PB1.out;simp only [World.size_alloc] at p0 p1;have HB1:Hid (Below w.heap.size w w1):=(((Below.refl _ _).alloc (Nat.le_refl _) _).alloc (by simp) _).trans (H1.out.mono (by simp;omega))
   go_wp2_with fail;refine (C2.out _).mono ?_;rintro e w2 ⟨rfl,hb1⟩;have H2:=Lib.hid hb1;clear hb1;go_wp2;go_ret;exact ⟨by cases v<;>rfl,HB1.out.trans (H2.out.mono HB1.out.size)⟩
end Go.Proofs.Ytmldbeipmappnaa
namespace Go.Proofs.Ytmldbeipmappnaa
open Go.RowKit Alm
theorem za (lo hi:Int):-1073741824<=dJ lo hi/\dJ lo hi<=dN lo hi/\dN lo hi<=1073741824:=by
 have h1:=jY lo;have h2:=jY hi;unfold dJ dN;split<;>split<;>omega
