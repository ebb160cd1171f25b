/- The contracts of Quotient where it is exact, of Dlon there. -/
import Derived.Test.YtmldbeipmappnaaZMid1
set_option linter.unusedVariables false
set_option linter.unusedSimpArgs false
set_option maxRecDepth 100000
set_option maxHeartbeats 2000000
namespace Go.Proofs.Ytmldbeipmappnaa
open Go.RowKit Alm
theorem aiB (b n q:Int) (w:World) (hb:0<b) (hb2:b<=2147483648) (hn:jP n=true) (h1:qFl 1073741824 n b=q) (h2:qCe 1073741824 n b=q) (hq:jP q=true) :
 Calls Try.prog 94 #[.agg #[.int .i64 1073741824,.int .i64 1073741824],.agg #[.int .i64 b,.int .i64 b],.int .i64 n] w fun e w'=>e=.returned (.tuple #[.int .i64 q,.int .i64 q,.int .i64 0])/\Below w.heap.size w w':=by
 have hnb:-1099511627776<=n/\n<=1099511627776:=by unfold jP at hn;simpa using hn
 have hqb:-1099511627776<=q/\q<=1099511627776:=by unfold jP at hq;simpa using hq
 have C0:=fun w=>Bz 1073741824 1073741824 b b w
 have e0:(fxV 1073741824 1073741824&&fxV b b)=true:=by unfold fxV;simp;omega
 rw [e0] at C0;have C1:=fun w=>NK n w
 rw [hn] at C1;have C2:=fun w=>aiW b b w
 have e2:aiy b b=false:=by unfold aiy;simp;omega
 rw [e2] at C2;have hP:(1073741824:Int).natAbs*n.natAbs<=1073741824*1099511627776:=Nat.mul_le_mul (by omega) (by omega)
 have C3:=fun w=>sI 1073741824 n b w ⟨by omega,by omega⟩ ⟨by omega,by omega⟩ (by omega) hb (by omega) (by rw [h1];exact ⟨by omega,by omega⟩) (by rw [h2];exact ⟨by omega,by omega⟩)
 rw [h1,h2] at C3;have C4:=fun w=>NK q w
 rw [hq] at C4;replace C0:=Lib.hid C0;replace C1:=Lib.hid C1;replace C2:=Lib.hid C2;replace C3:=Lib.hid C3;replace C4:=Lib.hid C4;clear e0 e2 hn h1 h2 hq hP hnb hqb hb hb2;have K0:=Lib.hid (((fu w).new w.heap.size rfl 87 #[.int .i64 1073741824,.int .i64 1073741824]).new (w.heap.size+1) (by simp) 87 #[.int .i64 b,.int .i64 b])
 go_enter Try.func94,Try.ntmps94;go_wp2_with fail;refine (C0.out _).mono ?_;rintro e w1 ⟨rfl,hb1⟩;have K1:=Lib.hid (K0.out.below hb1);clear hb1 K0;go_wp2_with fail;refine (C1.out _).mono ?_;rintro e w' ⟨rfl,rfl⟩;have c0:=K1.out.c (g:=w.heap.size+1) (t:=87) (cs:=#[.int .i64 b,.int .i64 b]) (by simp) (i:=0) rfl
 have c1:=K1.out.c (g:=w.heap.size+1) (t:=87) (cs:=#[.int .i64 b,.int .i64 b]) (by simp) (i:=1) rfl
 have d0:=K1.out.c (g:=w.heap.size) (t:=87) (cs:=#[.int .i64 1073741824,.int .i64 1073741824]) (by simp) (i:=0) rfl
 have d1:=K1.out.c (g:=w.heap.size) (t:=87) (cs:=#[.int .i64 1073741824,.int .i64 1073741824]) (by simp) (i:=1) rfl
 go_wp2_with fail;refine (C2.out _).mono ?_;rintro e w2 ⟨rfl,hb1⟩;have K2:=Lib.hid (K1.out.below hb1);clear hb1 K1 c0 c1 d0 d1;have c0:=K2.out.c (g:=w.heap.size+1) (t:=87) (cs:=#[.int .i64 b,.int .i64 b]) (by simp) (i:=0) rfl
 have c1:=K2.out.c (g:=w.heap.size+1) (t:=87) (cs:=#[.int .i64 b,.int .i64 b]) (by simp) (i:=1) rfl
 have d0:=K2.out.c (g:=w.heap.size) (t:=87) (cs:=#[.int .i64 1073741824,.int .i64 1073741824]) (by simp) (i:=0) rfl
 have d1:=K2.out.c (g:=w.heap.size) (t:=87) (cs:=#[.int .i64 1073741824,.int .i64 1073741824]) (by simp) (i:=1) rfl
 go_wp2;have K3:=Lib.hid (K2.out.new w2.heap.size rfl 141 #[.int .i64 1073741824,.int .i64 b,.int .i64 1073741824,.int .i64 b,.int .i64 1073741824,.int .i64 b,.int .i64 1073741824,.int .i64 b]);clear c0 c1 d0 d1;refine wp_loop_rounds 5 ?_;rw [rounds_succ];go_wp2_with fail;refine (C3.out _).mono ?_;rintro e w3 ⟨rfl,hb1⟩;have K4:=Lib.hid ((K3.out.alloc _).below hb1);clear hb1 K3;have c2:=K4.out.c (g:=w2.heap.size) (t:=141) (cs:=#[.int .i64 1073741824,.int .i64 b,.int .i64 1073741824,.int .i64 b,.int .i64 1073741824,.int .i64 b,.int .i64 1073741824,.int .i64 b]) (by simp) (i:=2) rfl
 have c3:=K4.out.c (g:=w2.heap.size) (t:=141) (cs:=#[.int .i64 1073741824,.int .i64 b,.int .i64 1073741824,.int .i64 b,.int .i64 1073741824,.int .i64 b,.int .i64 1073741824,.int .i64 b]) (by simp) (i:=3) rfl
 go_wp2_with fail;rw [rounds_succ];go_wp2_with fail;refine (C3.out _).mono ?_;rintro e w4 ⟨rfl,hb1⟩;have K5:=Lib.hid ((K4.out.alloc _).below hb1);clear hb1 K4;clear c2 c3;have c4:=K5.out.c (g:=w2.heap.size) (t:=141) (cs:=#[.int .i64 1073741824,.int .i64 b,.int .i64 1073741824,.int .i64 b,.int .i64 1073741824,.int .i64 b,.int .i64 1073741824,.int .i64 b]) (by simp) (i:=4) rfl
 have c5:=K5.out.c (g:=w2.heap.size) (t:=141) (cs:=#[.int .i64 1073741824,.int .i64 b,.int .i64 1073741824,.int .i64 b,.int .i64 1073741824,.int .i64 b,.int .i64 1073741824,.int .i64 b]) (by simp) (i:=5) rfl
 go_wp2_with fail;rw [rounds_succ];go_wp2_with fail;refine (C3.out _).mono ?_;rintro e w5 ⟨rfl,hb1⟩;have K6:=Lib.hid ((K5.out.alloc _).below hb1);clear hb1 K5;clear c4 c5;have c6:=K6.out.c (g:=w2.heap.size) (t:=141) (cs:=#[.int .i64 1073741824,.int .i64 b,.int .i64 1073741824,.int .i64 b,.int .i64 1073741824,.int .i64 b,.int .i64 1073741824,.int .i64 b]) (by simp) (i:=6) rfl
 have c7:=K6.out.c (g:=w2.heap.size) (t:=141) (cs:=#[.int .i64 1073741824,.int .i64 b,.int .i64 1073741824,.int .i64 b,.int .i64 1073741824,.int .i64 b,.int .i64 1073741824,.int .i64 b]) (by simp) (i:=7) rfl
 go_wp2_with fail;rw [rounds_succ];go_wp2_with fail;refine (C3.out _).mono ?_;rintro e w6 ⟨rfl,hb1⟩;have K7:=Lib.hid ((K6.out.alloc _).below hb1);clear hb1 K6;go_wp2_with fail;rw [rounds_succ];go_wp2_with fail;refine (C4.out _).mono ?_;rintro e w' ⟨rfl,rfl⟩;go_wp2_with fail;refine (C4.out _).mono ?_;rintro e w' ⟨rfl,rfl⟩;go_wp2;go_ret3;exact ⟨rfl,K7.out.1⟩
end Go.Proofs.Ytmldbeipmappnaa
namespace Go.Proofs.Ytmldbeipmappnaa
open Go.RowKit Alm
theorem aiJ (B C:Nat) (b n q:Int) (w:World) (hB:BK w B 87 #[.int .i64 1073741824,.int .i64 1073741824]) (hC:BK w C 87 #[.int .i64 b,.int .i64 b]) (hb:0<b) (hb2:b<=2147483648) (hn:jP n=true) (h1:qFl 1073741824 n b=q) (h2:qCe 1073741824 n b=q) (hq:jP q=true) :
 Calls Try.prog 112 #[.int .i64 n,.pointer (some ⟨B,0,none⟩),.pointer (some ⟨C,0,none⟩)] w fun e w'=>e=.returned (.tuple #[.int .i64 q,.int .i64 q,.int .i64 0])/\Below w.heap.size w w':=by
 have p0:=hB.cell 0;have p1:=hB.cell 1;have q0:=hC.cell 0;have q1:=hC.cell 1;simp at p0 p1 q0 q1;have C1:=Lib.hid (fun w=>aiB b n q w hb hb2 hn h1 h2 hq)
 clear hB hC hb hb2 hn h1 h2 hq;go_enter Try.func112,Try.ntmps112;go_wp2_with fail;refine (C1.out _).mono ?_;rintro e w1 ⟨rfl,hb1⟩;have H1:=Lib.hid hb1;clear hb1;go_wp2;go_ret3;exact ⟨rfl,H1.out⟩
theorem aiC (lo hi n b q:Int) (w:World) (hl:aik lo hi=true) (hc1:ah3 lo hi=b) (hc2:ah4 lo hi=b) (hb:0<b) (hn:jP n=true) (h1:qFl 1073741824 n b=q) (h2:qCe 1073741824 n b=q) (hq:jP q=true) :
 Calls Try.prog 48 #[.agg #[.int .i64 lo,.int .i64 hi],.agg #[.int .i64 n,.int .i64 n]] w fun e w'=>e=.returned (.tuple #[.agg #[.int .i64 q,.int .i64 q],.int .i64 0])/\Below w.heap.size w w':=by
 have hmf:∀ (fn:Fn) (first cap:Array Value) (w:World),(Instr.makeFunc fn first cap).run Try.prog w=.ok (.func fn first cap) w:=fun _ _ _ _=>rfl
 have hb2:b<=2147483648:=by have:=oQ (lo+5400000) (hi+5400000);rw [<-hc2];unfold ah4;omega
 have hnb:-1099511627776<=n/\n<=1099511627776:=by unfold jP at hn;simpa using hn
 have hqb:-1099511627776<=q/\q<=1099511627776:=by unfold jP at hq;simpa using hq
 have C1:=fun w=>aif lo hi w
 rw [hl] at C1;have C2:=fun w=>aid n n w
 rw [(cK n n).2 (by omega)] at C2
 have C3:=fun w=>acg lo hi w (aip hl)
 change ∀ w:World,Calls Try.prog 102 #[.agg #[.int .i64 lo,.int .i64 hi]] w fun e w'=>e=.returned (.tuple #[.agg #[.int .i64 (ah3 lo hi),.int .i64 (ah4 lo hi)],.int .i64 0])/\Below w.heap.size w w' at C3
 rw [hc1,hc2] at C3
 have CB:=fun (B C:Nat) (W:World) (hB:BK W B 87 #[.int .i64 1073741824,.int .i64 1073741824]) (hC:BK W C 87 #[.int .i64 b,.int .i64 b])=>air B C n n q q q q W
  (Lib.hid fun w' hbw=>aiJ B C b n q w' (hB.below hbw hB.lt) (hC.below hbw hC.lt) hb hb2 hn h1 h2 hq) (Lib.hid fun w' hbw=>aiJ B C b n q w' (hB.below hbw hB.lt) (hC.below hbw hC.lt) hb hb2 hn h1 h2 hq)
 have em:min q q=q:=by omega
 have eM:max q q=q:=by omega
 rw [em,eM,(cK q q).2 (by omega)] at CB
 simp only [if_true] at CB;replace C1:=Lib.hid C1;replace C2:=Lib.hid C2;replace C3:=Lib.hid C3;replace CB:=Lib.hid CB;clear hl hc1 hc2 hn h1 h2 hq hb2 hnb hqb em eM;have K0:=Lib.hid ((((fu w).new w.heap.size rfl 26 #[.int .i64 lo,.int .i64 hi]).new (w.heap.size+1) (by simp) 26 #[.int .i64 n,.int .i64 n]).new (w.heap.size+1+1) (by simp) 26 #[.int .i64 0,.int .i64 0])
 go_enter Try.func48,Try.ntmps48;go_wp2_with fail;refine (C1.out _).mono ?_;rintro e w1 ⟨rfl,hb1⟩;have K1:=Lib.hid (K0.out.below hb1);clear hb1 K0;have c0:=K1.out.c (g:=w.heap.size+1) (t:=26) (cs:=#[.int .i64 n,.int .i64 n]) (by simp) (i:=0) rfl
 have c1:=K1.out.c (g:=w.heap.size+1) (t:=26) (cs:=#[.int .i64 n,.int .i64 n]) (by simp) (i:=1) rfl
 go_wp2_with fail;refine (C2.out _).mono ?_;rintro e w2 ⟨rfl,hb1⟩;have K2:=Lib.hid (K1.out.below hb1);clear hb1 K1 c0 c1;have c0:=K2.out.c (g:=w.heap.size) (t:=26) (cs:=#[.int .i64 lo,.int .i64 hi]) (by simp) (i:=0) rfl
 have c1:=K2.out.c (g:=w.heap.size) (t:=26) (cs:=#[.int .i64 lo,.int .i64 hi]) (by simp) (i:=1) rfl
 go_wp2_with fail;refine (C3.out _).mono ?_;rintro e w3 ⟨rfl,hb1⟩;have K3:=Lib.hid ((K2.out.below hb1).new w3.heap.size rfl 87 #[.int .i64 b,.int .i64 b]);clear hb1 K2 c0 c1;have K4:=Lib.hid (K3.out.new (w3.heap.size+1) (by simp) 87 #[.int .i64 1073741824,.int .i64 1073741824])
 have c0:=K4.out.c (g:=w.heap.size+1) (t:=26) (cs:=#[.int .i64 n,.int .i64 n]) (by simp) (i:=0) rfl
 have c1:=K4.out.c (g:=w.heap.size+1) (t:=26) (cs:=#[.int .i64 n,.int .i64 n]) (by simp) (i:=1) rfl
 go_wp2_with fail;refine (CB.out _ _ _ (K4.out.2 (w3.heap.size+1,87,#[.int .i64 1073741824,.int .i64 1073741824]) (by simp)) (K4.out.2 (w3.heap.size,87,#[.int .i64 b,.int .i64 b]) (by simp))).mono ?_
 rintro e w4 ⟨rfl,hb1⟩;have K5:=Lib.hid (K4.out.below hb1);clear hb1 K4 K3 c0 c1;have q0:=K5.out.c (g:=w.heap.size+1+1) (t:=26) (cs:=#[.int .i64 0,.int .i64 0]) (by simp) (i:=0) rfl
 have q1:=K5.out.c (g:=w.heap.size+1+1) (t:=26) (cs:=#[.int .i64 0,.int .i64 0]) (by simp) (i:=1) rfl
 have g0:=K5.out.f (g:=w.heap.size+1+1) (t:=26) (cs:=#[.int .i64 0,.int .i64 0]) (by simp) 0
 have g1:=K5.out.f (g:=w.heap.size+1+1) (t:=26) (cs:=#[.int .i64 0,.int .i64 0]) (by simp) 1
 go_wp2;refine bodyPost_ret (by simp [results,Try.results48,go_sem,q0,q1];try rfl) rfl ⟨rfl,by have:=K5.out.1;go_light;go_grown⟩
