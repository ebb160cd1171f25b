/- The contract of Dlon where it is exact. -/
import Derived.Test.YtknhbpnclokciaaGreatZMid5
set_option linter.unusedVariables false
set_option linter.unusedSimpArgs false
set_option maxRecDepth 100000
set_option maxHeartbeats 2000000
namespace Go.Proofs.YtknhbpnclokciaaGreat
open Go.RowKit Alm
theorem zL (B C:Nat) (b n q:Int) (w:World) (hB:BK w B 82 #[.int .i64 1073741824,.int .i64 1073741824]) (hC:BK w C 82 #[.int .i64 b,.int .i64 b]) (hb:0<b) (hb2:b<=2147483648) (hn:aX n=true) (h1:qFl 1073741824 n b=q) (h2:qCe 1073741824 n b=q) (hq:aX q=true) :
 Calls Tryz.prog 201 #[.int .i64 n,.pointer (some ⟨B,0,none⟩),.pointer (some ⟨C,0,none⟩)] w fun e w'=>e=.returned (.tuple #[.int .i64 q,.int .i64 q,.int .i64 0])/\Below w.heap.size w w':=by
 have p0:=hB.cell 0;have p1:=hB.cell 1;have q0:=hC.cell 0;have q1:=hC.cell 1;simp at p0 p1 q0 q1;have C1:=Lib.hid (fun w=>xQ b n q w hb hb2 hn h1 h2 hq)
 clear hB hC hb hb2 hn h1 h2 hq;go_enter Tryz.func201,Tryz.ntmps201;go_wp2_with fail;refine (C1.out _).mono ?_;rintro e w1 ⟨rfl,hb1⟩;have H1:=Lib.hid hb1;clear hb1;go_wp2;go_ret3;exact ⟨rfl,H1.out⟩
theorem xJ (lo hi n b q:Int) (w:World) (hl:Cm lo hi=true) (hc1:dw lo hi=b) (hc2:cZ lo hi=b) (hb:0<b) (hn:aX n=true) (h1:qFl 1073741824 n b=q) (h2:qCe 1073741824 n b=q) (hq:aX q=true) :
 Calls Tryz.prog 96 #[.agg #[.int .i64 lo,.int .i64 hi],.agg #[.int .i64 n,.int .i64 n]] w fun e w'=>e=.returned (.tuple #[.agg #[.int .i64 q,.int .i64 q],.int .i64 0])/\Below w.heap.size w w':=by
 have hmf:∀ (fn:Fn) (first cap:Array Value) (w:World),(Instr.makeFunc fn first cap).run Tryz.prog w=.ok (.func fn first cap) w:=fun _ _ _ _=>rfl
 have hb2:b<=2147483648:=by have:=Rk (lo+5400000) (hi+5400000);rw [<-hc2];unfold cZ;omega
 have hnb:-1099511627776<=n/\n<=1099511627776:=by unfold aX at hn;simpa using hn
 have hqb:-1099511627776<=q/\q<=1099511627776:=by unfold aX at hq;simpa using hq
 have C1:=fun w=>C9 lo hi w
 rw [hl] at C1;have C2:=fun w=>jb n n w
 rw [(eF n n).2 (by omega)] at C2
 have C3:=fun w=>xz lo hi w (Ir hl)
 change ∀ w:World,Calls Tryz.prog 98 #[.agg #[.int .i64 lo,.int .i64 hi]] w fun e w'=>e=.returned (.tuple #[.agg #[.int .i64 (dw lo hi),.int .i64 (cZ lo hi)],.int .i64 0])/\Below w.heap.size w w' at C3
 rw [hc1,hc2] at C3
 have CB:=fun (B C:Nat) (W:World) (hB:BK W B 82 #[.int .i64 1073741824,.int .i64 1073741824]) (hC:BK W C 82 #[.int .i64 b,.int .i64 b])=>BU B C n n q q q q W
  (Lib.hid fun w' hbw=>zL B C b n q w' (hB.below hbw hB.lt) (hC.below hbw hC.lt) hb hb2 hn h1 h2 hq) (Lib.hid fun w' hbw=>zL B C b n q w' (hB.below hbw hB.lt) (hC.below hbw hC.lt) hb hb2 hn h1 h2 hq)
 have em:min q q=q:=by omega
 have eM:max q q=q:=by omega
 rw [em,eM,(eF q q).2 (by omega)] at CB
 simp only [if_true] at CB;replace C1:=Lib.hid C1;replace C2:=Lib.hid C2;replace C3:=Lib.hid C3;replace CB:=Lib.hid CB;clear hl hc1 hc2 hn h1 h2 hq hb2 hnb hqb em eM;have K0:=Lib.hid ((((av w).new w.heap.size rfl 40 #[.int .i64 lo,.int .i64 hi]).new (w.heap.size+1) (by simp) 40 #[.int .i64 n,.int .i64 n]).new (w.heap.size+1+1) (by simp) 40 #[.int .i64 0,.int .i64 0])
 go_enter Tryz.func96,Tryz.ntmps96;go_wp2_with fail;refine (C1.out _).mono ?_;rintro e w1 ⟨rfl,hb1⟩;have K1:=Lib.hid (K0.out.below hb1);clear hb1 K0;have c0:=K1.out.c (g:=w.heap.size+1) (t:=40) (cs:=#[.int .i64 n,.int .i64 n]) (by simp) (i:=0) rfl
 have c1:=K1.out.c (g:=w.heap.size+1) (t:=40) (cs:=#[.int .i64 n,.int .i64 n]) (by simp) (i:=1) rfl
 go_wp2_with fail;refine (C2.out _).mono ?_;rintro e w2 ⟨rfl,hb1⟩;have K2:=Lib.hid (K1.out.below hb1);clear hb1 K1 c0 c1;have c0:=K2.out.c (g:=w.heap.size) (t:=40) (cs:=#[.int .i64 lo,.int .i64 hi]) (by simp) (i:=0) rfl
 have c1:=K2.out.c (g:=w.heap.size) (t:=40) (cs:=#[.int .i64 lo,.int .i64 hi]) (by simp) (i:=1) rfl
 go_wp2_with fail;refine (C3.out _).mono ?_;rintro e w3 ⟨rfl,hb1⟩;have K3:=Lib.hid ((K2.out.below hb1).new w3.heap.size rfl 82 #[.int .i64 b,.int .i64 b]);clear hb1 K2 c0 c1;have K4:=Lib.hid (K3.out.new (w3.heap.size+1) (by simp) 82 #[.int .i64 1073741824,.int .i64 1073741824])
 have c0:=K4.out.c (g:=w.heap.size+1) (t:=40) (cs:=#[.int .i64 n,.int .i64 n]) (by simp) (i:=0) rfl
 have c1:=K4.out.c (g:=w.heap.size+1) (t:=40) (cs:=#[.int .i64 n,.int .i64 n]) (by simp) (i:=1) rfl
 go_wp2_with fail;refine (CB.out _ _ _ (K4.out.2 (w3.heap.size+1,82,#[.int .i64 1073741824,.int .i64 1073741824]) (by simp)) (K4.out.2 (w3.heap.size,82,#[.int .i64 b,.int .i64 b]) (by simp))).mono ?_
 rintro e w4 ⟨rfl,hb1⟩;have K5:=Lib.hid (K4.out.below hb1);clear hb1 K4 K3 c0 c1;have q0:=K5.out.c (g:=w.heap.size+1+1) (t:=40) (cs:=#[.int .i64 0,.int .i64 0]) (by simp) (i:=0) rfl
 have q1:=K5.out.c (g:=w.heap.size+1+1) (t:=40) (cs:=#[.int .i64 0,.int .i64 0]) (by simp) (i:=1) rfl
 have g0:=K5.out.f (g:=w.heap.size+1+1) (t:=40) (cs:=#[.int .i64 0,.int .i64 0]) (by simp) 0
 have g1:=K5.out.f (g:=w.heap.size+1+1) (t:=40) (cs:=#[.int .i64 0,.int .i64 0]) (by simp) 1
 go_wp2;refine bodyPost_ret (by simp [results,Tryz.results96,go_sem,q0,q1];try rfl) rfl ⟨rfl,by have:=K5.out.1;go_light;go_grown⟩
