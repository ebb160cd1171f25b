/- The law ReckoningLater: for any legs. -/
import Derived.Test.YtgmncdmcdgkodaaGreatZLawL0
import Derived.Test.YtgmncdmcdgkodaaGreatZLawL1
set_option linter.unusedVariables false
set_option linter.unusedSimpArgs false
set_option maxRecDepth 100000
namespace Go.Proofs.YtgmncdmcdgkodaaGreat
open Go.RowKit Alm Sx
theorem zR (a:Option Addr) (n cap:Nat) (c0 c1 v0 v1 f0 f1 t0 t1 x:Int) (w:World) (hn:14<n) :
 Calls Tryz.prog 3 #[.agg #[.int .i64 c0,.int .i64 c1,.int .i64 v0,.int .i64 v1],.agg #[.int .i64 f0,.int .i64 f1],.agg #[.int .i64 t0,.int .i64 t1],.int .u32 x,.slice a n cap] w fun e w'=>e=.returned (.bool true)/\Below w.heap.size w w':=by
 have CA:=Lib.hid dx;have hn':(n:Int)>14:=by omega
 have K0:=Lib.hid ((((au w).new w.heap.size rfl 25 #[.int .i64 c0,.int .i64 c1,.int .i64 v0,.int .i64 v1]).new (w.heap.size+1) (by simp) 26 #[.int .i64 f0,.int .i64 f1]).new (w.heap.size+1+1) (by simp) 26 #[.int .i64 t0,.int .i64 t1])
 go_enter Tryz.func3,Tryz.ntmps3;go_wp2_with fail;refine (CA.out _).mono ?_;rintro e w1 ⟨rfl,hb⟩;have K1:=Lib.hid (K0.out.below hb);clear hb K0 CA;go_wp2;go_ret;exact ⟨rfl,K1.out.1⟩
theorem El (a:Option Addr) (cap:Nat) (L:List ag) (c0 c1 v0 v1 f0 f1 t0 t1 x:Int) (w:World) (hL:bG w a L) (hx:0<=x/\x<=4294967295) :
 Calls Tryz.prog 3 #[.agg #[.int .i64 c0,.int .i64 c1,.int .i64 v0,.int .i64 v1],.agg #[.int .i64 f0,.int .i64 f1],.agg #[.int .i64 t0,.int .i64 t1],.int .u32 x,.slice a L.length cap] w fun e w'=>e=.returned (.bool true)/\Below w.heap.size w w':=by
 by_cases hn:L.length<=14
 . by_cases hE:lgE c0 c1 v0 v1 f0 f1 t0 t1=0
   . rcases BO hE hx.1 with h|h|h
     . exact DR a cap L c0 c1 v0 v1 f0 f1 t0 t1 x w hL hx hn hE h
     . exact Er a cap L c0 c1 v0 v1 f0 f1 t0 t1 x w hL hx hn hE h
     . exact DY a cap L c0 c1 v0 v1 f0 f1 t0 t1 x w hL hx hn hE h
   . exact zJ a cap L c0 c1 v0 v1 f0 f1 t0 t1 x w hL hx hn hE
 . exact zR a L.length cap c0 c1 v0 v1 f0 f1 t0 t1 x w (by omega)
