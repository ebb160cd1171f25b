/- Reckoning: the small functions of the times of arrival. -/
import Derived.Test.YtgmncdmcdgkodaaGreatZRk1
import Derived.Test.YtgmncdmcdgkodaaGreatZRw
import Derived.Test.YtgmncdmcdgkodaaGreatZSumM
import Derived.Deep.QuietTactic
import Derived.BigQuiet
import Derived.Deep.Light
set_option linter.unusedVariables false
set_option linter.unusedSimpArgs false
namespace Go.Proofs.YtgmncdmcdgkodaaGreat
open Go.RowKit Alm Sx
theorem nI {a b:Int} (ha:0<=a) (hb:0<b):a.tdiv b=a/b/\0<=a/b/\a/b<=a :=
 ⟨Int.tdiv_eq_ediv_of_nonneg ha,Int.ediv_nonneg ha (by omega),Int.ediv_le_self _ ha⟩
theorem Bu (a b q:Int) (w:World) (ha:0<=a/\a<=9000000000000000000) (hb:0<b) (hq:a/b=q) :
 Calls Tryz.prog 28 #[.int .i64 a,.int .i64 b] w fun e w'=>e=.returned (.int .i64 q)/\w=w':=by
 obtain ⟨h1,h2,h3⟩:=nI ha.1 hb;rw [hq] at h1 h2 h3;have h4:b≠0:=by omega
 have h5:IntKind.i64.wrap q=q:=Go.IntWalk.i64_in _ (by omega)
 clear hq;go_enter Tryz.func28,Tryz.ntmps28;go_wp2;go_ret;exact ⟨by simp [h1,h5],rfl⟩
theorem F7 (a b q:Int) (w:World) (ha:0<=a/\a<=9000000000000000000) (hb:0<b/\b<=1000000) (hq:(a+b-1)/b=q) :
 Calls Tryz.prog 29 #[.int .i64 a,.int .i64 b] w fun e w'=>e=.returned (.int .i64 q)/\w=w':=by
 obtain ⟨h1,h2,h3⟩:=nI (a:=a+b-1) (by omega) hb.1
 rw [hq] at h1 h2 h3;have h4:b≠0:=by omega
 have h5:IntKind.i64.wrap q=q:=Go.IntWalk.i64_in _ (by omega)
 clear hq;go_enter Tryz.func29,Tryz.ntmps29;go_wp2;go_ret;exact ⟨by simp [h1,h5],rfl⟩
def vL (n:Int):Bool:=decide (-70368744177664<=n/\n<=70368744177664)
def tmB (a b:Int):Bool:=decide (a<=b)&&(vL a&&vL b)
theorem xC (n:Int) (w:World):Calls Tryz.prog 45 #[.int .i64 n] w fun e w'=>e=.returned (.bool (vL n))/\w=w':=by
 unfold vL;go_enter Tryz.func45,Tryz.ntmps45;go_wp2
 all_goals go_ret
 all_goals exact ⟨bV (by first|(simp<;>omega)|(simp_all<;>omega)|(rw [Bool.eq_iff_iff];simp;done)|(rw [Bool.eq_iff_iff];simp;omega)|rfl),rfl⟩
theorem ma (a b:Int) (w:World):Calls Tryz.prog 26 #[.agg #[.int .i64 a,.int .i64 b]] w fun e w'=>e=.returned (.bool (tmB a b))/\Below w.heap.size w w':=by
 have C1:=Lib.hid (fun w=>xC a w)
 have C2:=Lib.hid (fun w=>xC b w)
 unfold tmB;generalize vL a=x at *
 generalize vL b=y at *
 go_enter Tryz.func26,Tryz.ntmps26
 by_cases h:a<=b
 . go_wp2_with fail;refine (C1.out _).mono ?_;rintro e w1 ⟨rfl,rfl⟩;cases x
   . go_wp2;go_ret;exact ⟨by simp,by go_grown⟩
   . go_wp2_with fail;refine (C2.out _).mono ?_;rintro e w1 ⟨rfl,rfl⟩;go_wp2;go_ret;exact ⟨by simp [h],by go_grown⟩
 . go_wp2;go_ret
   exact ⟨by have g:decide (a<=b)=false:=decide_eq_false (by omega)
             rw [g];rfl,by go_grown⟩
theorem pq (a b:Int) (w:World):Calls Tryz.prog 25 #[.agg #[.int .i64 a,.int .i64 b]] w fun e w'=>e=.returned (.bool (decide (0<=a/\a<=b/\b<=200000)))/\Below w.heap.size w w':=by
 go_enter Tryz.func25,Tryz.ntmps25;go_wp2
 all_goals go_ret
 all_goals exact ⟨bV (by first|(simp<;>omega)|(simp_all<;>omega)|(rw [Bool.eq_iff_iff];simp;done)|(rw [Bool.eq_iff_iff];simp;omega)|rfl),by go_grown⟩
