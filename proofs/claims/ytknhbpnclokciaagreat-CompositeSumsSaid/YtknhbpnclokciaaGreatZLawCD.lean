/- The law on the distances of composite sailing. -/
import Derived.Test.YtknhbpnclokciaaGreatZComD
import Derived.Test.YtknhbpnclokciaaGreatZComX
set_option linter.unusedVariables false
set_option linter.unusedSimpArgs false
set_option maxRecDepth 100000
set_option maxHeartbeats 8000000
namespace Go.Proofs.YtknhbpnclokciaaGreat
open Go.RowKit Alm Sx
theorem Ro (x y:Int) (w:World):(binOp .eql 40 (.agg #[.int .i64 x,.int .i64 y]) (.agg #[.int .i64 x,.int .i64 y])).run Tryz.prog w=.ok (.bool true) w:=by
 have:=(xH (P:=Tryz.prog) (t:=40) (k:=2) (by kernel_rfl) (by kernel_rfl) [x,y] [x,y] rfl rfl w).1
 rw [decide_eq_true rfl] at this;exact this
theorem VC (a b c d l:Int) (w:World):Calls Tryz.prog 5 #[.agg #[.int .i64 a,.int .i64 b],.agg #[.int .i64 c,.int .i64 d],.int .i64 l] w fun e w'=>e=.returned (.bool true)/\Below w.heap.size w w':=by
 obtain ⟨x,y,q,CP,CR⟩:∃ x y q:Int,Hid (∀ w:World,Calls Tryz.prog 21 #[.agg #[.int .i64 a,.int .i64 b],.agg #[.int .i64 c,.int .i64 d],.int .i64 l] w fun e w'=>e=.returned (.tuple #[.agg #[.int .i64 x,.int .i64 y],.int .i64 q])/\Below w.heap.size w w')/\Hid (∀ w:World,Calls Tryz.prog 22 #[.agg #[.int .i64 a,.int .i64 b],.agg #[.int .i64 c,.int .i64 d],.int .i64 l] w fun e w'=>e=.returned (.tuple #[.agg #[.int .i64 x,.int .i64 y],.int .i64 q])/\Below w.heap.size w w'):=by
  by_cases h:bS l [[a,b],[c,d]]=0
  . exact ⟨_,_,_,Lib.hid (fun w=>IR a b c d l w h),Lib.hid (fun w=>Vg a b c d l w h)⟩
  . exact ⟨_,_,_,Lib.hid (fun w=>OE a b c d l w h),Lib.hid (fun w=>Og a b c d l w h)⟩
 have K0:=Lib.hid (((av w).new w.heap.size rfl 23 #[.int .i64 a,.int .i64 b]).new (w.heap.size+1) (by simp) 23 #[.int .i64 c,.int .i64 d])
 have EA:=fun w=>Ro x y w
 go_enter Tryz.func5,Tryz.ntmps5;go_wp2_with fail;refine (gF _).mono ?_;rintro e w1 ⟨rfl,hb⟩;have K1:=Lib.hid (K0.out.below hb);clear hb K0;have a0:=K1.out.c (g:=w.heap.size) (t:=23) (cs:=#[.int .i64 a,.int .i64 b]) (by simp) (i:=0) rfl;have a1:=K1.out.c (g:=w.heap.size) (t:=23) (cs:=#[.int .i64 a,.int .i64 b]) (by simp) (i:=1) rfl;have c0:=K1.out.c (g:=w.heap.size+1) (t:=23) (cs:=#[.int .i64 c,.int .i64 d]) (by simp) (i:=0) rfl;have c1:=K1.out.c (g:=w.heap.size+1) (t:=23) (cs:=#[.int .i64 c,.int .i64 d]) (by simp) (i:=1) rfl
 go_wp2_with fail;refine (CP.out _).mono ?_;rintro e w2 ⟨rfl,hb⟩;have K2:=Lib.hid ((K1.out.below hb).new w2.heap.size rfl 40 #[.int .i64 x,.int .i64 y]);clear hb K1 a0 a1 c0 c1 CP;have a0:=K2.out.c (g:=w.heap.size) (t:=23) (cs:=#[.int .i64 a,.int .i64 b]) (by simp) (i:=0) rfl;have a1:=K2.out.c (g:=w.heap.size) (t:=23) (cs:=#[.int .i64 a,.int .i64 b]) (by simp) (i:=1) rfl;have c0:=K2.out.c (g:=w.heap.size+1) (t:=23) (cs:=#[.int .i64 c,.int .i64 d]) (by simp) (i:=0) rfl;have c1:=K2.out.c (g:=w.heap.size+1) (t:=23) (cs:=#[.int .i64 c,.int .i64 d]) (by simp) (i:=1) rfl
 go_wp2_with fail;refine (CR.out _).mono ?_;rintro e w3 ⟨rfl,hb⟩;have K3:=Lib.hid ((K2.out.below hb).new w3.heap.size rfl 40 #[.int .i64 x,.int .i64 y]);clear hb K2 a0 a1 c0 c1 CR;have x0:=K3.out.c (g:=w2.heap.size) (t:=40) (cs:=#[.int .i64 x,.int .i64 y]) (by simp) (i:=0) rfl;have x1:=K3.out.c (g:=w2.heap.size) (t:=40) (cs:=#[.int .i64 x,.int .i64 y]) (by simp) (i:=1) rfl
 go_wp2;go_ret;exact ⟨by first|rfl|simp,K3.out.1⟩
