/- The contracts of Quotient where it is exact, of Dlon there. -/
import Derived.Test.YtknhbpnclokciaaGreatZMid4
set_option linter.unusedVariables false
set_option linter.unusedSimpArgs false
set_option maxRecDepth 100000
set_option maxHeartbeats 2000000
namespace Go.Proofs.YtknhbpnclokciaaGreat
open Go.RowKit Alm
theorem xQ (b n q:Int) (w:World) (hb:0<b) (hb2:b<=2147483648) (hn:aX n=true) (h1:qFl 1073741824 n b=q) (h2:qCe 1073741824 n b=q) (hq:aX q=true) :
 Calls Tryz.prog 185 #[.agg #[.int .i64 1073741824,.int .i64 1073741824],.agg #[.int .i64 b,.int .i64 b],.int .i64 n] w fun e w'=>e=.returned (.tuple #[.int .i64 q,.int .i64 q,.int .i64 0])/\Below w.heap.size w w':=by
 have hnb:-1099511627776<=n/\n<=1099511627776:=by unfold aX at hn;simpa using hn
 have hqb:-1099511627776<=q/\q<=1099511627776:=by unfold aX at hq;simpa using hq
 have C0:=fun w=>rF 1073741824 1073741824 b b w
 have e0:(fxV 1073741824 1073741824&&fxV b b)=true:=by unfold fxV;simp;omega
 rw [e0] at C0;have C1:=fun w=>uG n w
 rw [hn] at C1;have C2:=fun w=>QS b b w
 have e2:EJ b b=false:=by unfold EJ;simp;omega
 rw [e2] at C2;have hP:(1073741824:Int).natAbs*n.natAbs<=1073741824*1099511627776:=Nat.mul_le_mul (by omega) (by omega)
 have C3:=fun w=>kJ 1073741824 n b w ⟨by omega,by omega⟩ ⟨by omega,by omega⟩ (by omega) hb (by omega) (by rw [h1];exact ⟨by omega,by omega⟩) (by rw [h2];exact ⟨by omega,by omega⟩)
 rw [h1,h2] at C3;have C4:=fun w=>uG q w
 rw [hq] at C4;replace C0:=Lib.hid C0;replace C1:=Lib.hid C1;replace C2:=Lib.hid C2;replace C3:=Lib.hid C3;replace C4:=Lib.hid C4;clear e0 e2 hn h1 h2 hq hP hnb hqb hb hb2;have K0:=Lib.hid (((av w).new w.heap.size rfl 82 #[.int .i64 1073741824,.int .i64 1073741824]).new (w.heap.size+1) (by simp) 82 #[.int .i64 b,.int .i64 b])
 go_enter Tryz.func185,Tryz.ntmps185;go_wp2_with fail;refine (C0.out _).mono ?_;rintro e w1 ⟨rfl,hb1⟩;have K1:=Lib.hid (K0.out.below hb1);clear hb1 K0;go_wp2_with fail;refine (C1.out _).mono ?_;rintro e w' ⟨rfl,rfl⟩;have c0:=K1.out.c (g:=w.heap.size+1) (t:=82) (cs:=#[.int .i64 b,.int .i64 b]) (by simp) (i:=0) rfl
 have c1:=K1.out.c (g:=w.heap.size+1) (t:=82) (cs:=#[.int .i64 b,.int .i64 b]) (by simp) (i:=1) rfl
 have d0:=K1.out.c (g:=w.heap.size) (t:=82) (cs:=#[.int .i64 1073741824,.int .i64 1073741824]) (by simp) (i:=0) rfl
 have d1:=K1.out.c (g:=w.heap.size) (t:=82) (cs:=#[.int .i64 1073741824,.int .i64 1073741824]) (by simp) (i:=1) rfl
 go_wp2_with fail;refine (C2.out _).mono ?_;rintro e w2 ⟨rfl,hb1⟩;have K2:=Lib.hid (K1.out.below hb1);clear hb1 K1 c0 c1 d0 d1;have c0:=K2.out.c (g:=w.heap.size+1) (t:=82) (cs:=#[.int .i64 b,.int .i64 b]) (by simp) (i:=0) rfl
 have c1:=K2.out.c (g:=w.heap.size+1) (t:=82) (cs:=#[.int .i64 b,.int .i64 b]) (by simp) (i:=1) rfl
 have d0:=K2.out.c (g:=w.heap.size) (t:=82) (cs:=#[.int .i64 1073741824,.int .i64 1073741824]) (by simp) (i:=0) rfl
 have d1:=K2.out.c (g:=w.heap.size) (t:=82) (cs:=#[.int .i64 1073741824,.int .i64 1073741824]) (by simp) (i:=1) rfl
 go_wp2;have K3:=Lib.hid (K2.out.new w2.heap.size rfl 242 #[.int .i64 1073741824,.int .i64 b,.int .i64 1073741824,.int .i64 b,.int .i64 1073741824,.int .i64 b,.int .i64 1073741824,.int .i64 b]);clear c0 c1 d0 d1;refine wp_loop_rounds 5 ?_;rw [rounds_succ];go_wp2_with fail;refine (C3.out _).mono ?_;rintro e w3 ⟨rfl,hb1⟩;have K4:=Lib.hid ((K3.out.alloc _).below hb1);clear hb1 K3;have c2:=K4.out.c (g:=w2.heap.size) (t:=242) (cs:=#[.int .i64 1073741824,.int .i64 b,.int .i64 1073741824,.int .i64 b,.int .i64 1073741824,.int .i64 b,.int .i64 1073741824,.int .i64 b]) (by simp) (i:=2) rfl
 have c3:=K4.out.c (g:=w2.heap.size) (t:=242) (cs:=#[.int .i64 1073741824,.int .i64 b,.int .i64 1073741824,.int .i64 b,.int .i64 1073741824,.int .i64 b,.int .i64 1073741824,.int .i64 b]) (by simp) (i:=3) rfl
 go_wp2_with fail;rw [rounds_succ];go_wp2_with fail;refine (C3.out _).mono ?_;rintro e w4 ⟨rfl,hb1⟩;have K5:=Lib.hid ((K4.out.alloc _).below hb1);clear hb1 K4;clear c2 c3;have c4:=K5.out.c (g:=w2.heap.size) (t:=242) (cs:=#[.int .i64 1073741824,.int .i64 b,.int .i64 1073741824,.int .i64 b,.int .i64 1073741824,.int .i64 b,.int .i64 1073741824,.int .i64 b]) (by simp) (i:=4) rfl
 have c5:=K5.out.c (g:=w2.heap.size) (t:=242) (cs:=#[.int .i64 1073741824,.int .i64 b,.int .i64 1073741824,.int .i64 b,.int .i64 1073741824,.int .i64 b,.int .i64 1073741824,.int .i64 b]) (by simp) (i:=5) rfl
 go_wp2_with fail;rw [rounds_succ];go_wp2_with fail;refine (C3.out _).mono ?_;rintro e w5 ⟨rfl,hb1⟩;have K6:=Lib.hid ((K5.out.alloc _).below hb1);clear hb1 K5;clear c4 c5;have c6:=K6.out.c (g:=w2.heap.size) (t:=242) (cs:=#[.int .i64 1073741824,.int .i64 b,.int .i64 1073741824,.int .i64 b,.int .i64 1073741824,.int .i64 b,.int .i64 1073741824,.int .i64 b]) (by simp) (i:=6) rfl
 have c7:=K6.out.c (g:=w2.heap.size) (t:=242) (cs:=#[.int .i64 1073741824,.int .i64 b,.int .i64 1073741824,.int .i64 b,.int .i64 1073741824,.int .i64 b,.int .i64 1073741824,.int .i64 b]) (by simp) (i:=7) rfl
 go_wp2_with fail;rw [rounds_succ];go_wp2_with fail;refine (C3.out _).mono ?_;rintro e w6 ⟨rfl,hb1⟩;have K7:=Lib.hid ((K6.out.alloc _).below hb1);clear hb1 K6;go_wp2_with fail;rw [rounds_succ];go_wp2_with fail;refine (C4.out _).mono ?_;rintro e w' ⟨rfl,rfl⟩;go_wp2_with fail;refine (C4.out _).mono ?_;rintro e w' ⟨rfl,rfl⟩;go_wp2;go_ret3;exact ⟨rfl,K7.out.1⟩
