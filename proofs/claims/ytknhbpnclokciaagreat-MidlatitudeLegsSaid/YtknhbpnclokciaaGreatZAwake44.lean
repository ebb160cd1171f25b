/- The example of the chapter on plane sailing holds. -/
import Derived.Test.YtknhbpnclokciaaGreatZMid6
import Derived.Test.YtknhbpnclokciaaGreatZNums
import Derived.Deep.RegionHeld3
set_option linter.unusedVariables false
set_option linter.unusedSimpArgs false
set_option maxRecDepth 100000
set_option maxHeartbeats 2000000
namespace Go.Proofs.YtknhbpnclokciaaGreat
open Go.RowKit Alm
theorem Oj (n:Int) (w:World) :
 Calls Tryz.prog 95 #[.int .i64 n] w fun e w'=>e=.returned (.agg #[.int .i64 n,.int .i64 n])/\Below w.heap.size w w':=by
 go_enter Tryz.func95,Tryz.ntmps95;go_wp2;refine bodyPost_ret (by simp [results,Tryz.results95,go_sem];try rfl) rfl ⟨rfl,by go_grown⟩
theorem Ni:iL 3600000=929887696:=by
 unfold iL;rw [if_neg (by omega)]
 exact qV 1800000 (by omega) 929887696 Lg
theorem QW:bV 3600000=929887696:=by
 unfold bV;rw [if_neg (by omega),if_neg (by omega),if_neg (by omega)]
 show ((iL 3600000:Nat):Int)=_;rw [Ni];rfl
theorem tF (n q:Int) (h:bC n=q) (hs:jg n=false):bLo n=bV q/\bHi n=bV q+if dx q then 0 else 1:=by
 unfold bLo bHi;rw [hs,h];exact ⟨rfl,rfl⟩
theorem RA:dw 1800000 1800000=929887696/\cZ 1800000 1800000=929887697:=by
 have h:=tF (1800000+5400000) 3600000 (by decide) (by decide)
 have e:dx 3600000=false:=by decide
 have m1:cB (1800000+5400000) (1800000+5400000) 16200000=false:=by decide
 have m2:cB (1800000+5400000) (1800000+5400000) 5400000=false:=by decide
 unfold dw cZ dA dB;rw [m1,m2,h.1,h.2,QW,e];exact ⟨rfl,rfl⟩
theorem Rm:dA 1800000 1800000=536870912/\dB 1800000 1800000=536870912:=by
 have h:=tF 1800000 1800000 (by decide) (by decide)
 have e:dx 1800000=true:=by decide
 have v:bV 1800000=536870912:=rfl;have m1:cB 1800000 1800000 16200000=false:=by decide
 have m2:cB 1800000 1800000 5400000=false:=by decide
 unfold dA dB;rw [m1,m2,h.1,h.2,v,e];exact ⟨rfl,rfl⟩
theorem RQ:dw 3600000 3600000=536870912/\cZ 3600000 3600000=536870912:=by
 have h:=tF (3600000+5400000) 1800000 (by decide) (by decide)
 have e:dx 1800000=true:=by decide
 have v:bV 1800000=536870912:=rfl;have m1:cB (3600000+5400000) (3600000+5400000) 16200000=false:=by decide
 have m2:cB (3600000+5400000) (3600000+5400000) 5400000=false:=by decide
 unfold dw cZ dA dB;rw [m1,m2,h.1,h.2,v,e];exact ⟨rfl,rfl⟩
theorem X6:iN 929887696 929887697 100000 100000=86602/\iO 929887696 929887697 100000 100000=86603:=by decide
theorem Yf:iN 536870912 536870912 100000 100000=50000/\iO 536870912 536870912 100000 100000=50000:=by decide
theorem zD (w:World):Calls Tryz.prog 29 #[.agg #[.int .i64 1800000,.int .i64 1800000,.int .i64 100000,.int .i64 100000]] w fun e w' =>
 e=.returned (.tuple #[.agg #[.int .i64 86602,.int .i64 86603],.agg #[.int .i64 50000,.int .i64 50000],.int .i64 0])/\Below w.heap.size w w':=by
 have h:=P6 1800000 1800000 100000 100000 w (by decide)
 rw [RA.1,RA.2,Rm.1,Rm.2,X6.1,X6.2,Yf.1,Yf.2] at h;exact h (by decide) (by decide)
theorem CZ (w:World):Calls Tryz.prog 96 #[.agg #[.int .i64 3600000,.int .i64 3600000],.agg #[.int .i64 50000,.int .i64 50000]] w fun e w' =>
 e=.returned (.tuple #[.agg #[.int .i64 100000,.int .i64 100000],.int .i64 0])/\Below w.heap.size w w' :=
 xJ 3600000 3600000 50000 536870912 100000 w (by decide) RQ.1 RQ.2 (by decide) (by decide) (by decide) (by decide) (by decide)
theorem JN (w:World):Calls Tryz.prog 28 #[] w fun e w'=>e=.returned (.bool true)/\Below w.heap.size w w':=by
 have E1:∀ w,(binOp .eql 40 (.agg #[.int .i64 50000,.int .i64 50000]) (.agg #[.int .i64 50000,.int .i64 50000])).run Tryz.prog w=.ok (.bool true) w:=fun _=>by kernel_rfl
 have E2:∀ w,(binOp .eql 40 (.agg #[.int .i64 100000,.int .i64 100000]) (.agg #[.int .i64 100000,.int .i64 100000])).run Tryz.prog w=.ok (.bool true) w:=fun _=>by kernel_rfl
 have C1:=Lib.hid zD;have C2:=Lib.hid CZ;have C0:=Lib.hid Oj;have K0:=Lib.hid (av w);go_enter Tryz.func28,Tryz.ntmps28;go_wp2_with fail;refine (C0.out _ _).mono ?_;rintro e w1 ⟨rfl,hb1⟩;have K1:=Lib.hid (K0.out.below hb1);clear hb1 K0;go_wp2_with fail;refine (C0.out _ _).mono ?_;rintro e w2 ⟨rfl,hb1⟩;have K2:=Lib.hid (K1.out.below hb1);clear hb1 K1;go_wp2_with fail;refine (C1.out _).mono ?_;rintro e w3 ⟨rfl,hb1⟩;have K3:=Lib.hid (((K2.out.below hb1).new w3.heap.size rfl 40 #[.int .i64 86602,.int .i64 86603]).new (w3.heap.size+1) (by simp) 40 #[.int .i64 50000,.int .i64 50000]);clear hb1 K2
 go_wp2_with fail;refine (C0.out _ _).mono ?_;rintro e w4 ⟨rfl,hb1⟩;have K4:=Lib.hid (K3.out.below hb1);clear hb1 K3;go_wp2_with fail;refine (C0.out _ _).mono ?_;rintro e w5 ⟨rfl,hb1⟩;have K5:=Lib.hid (K4.out.below hb1);clear hb1 K4;go_wp2_with fail;refine (C2.out _).mono ?_;rintro e w6 ⟨rfl,hb1⟩;have K6:=Lib.hid ((K5.out.below hb1).new w6.heap.size rfl 40 #[.int .i64 100000,.int .i64 100000]);clear hb1 K5;go_wp2;generalize (w6.alloc (.cells #[.int .i64 100000,.int .i64 100000] 40))=w7 at *
 have a0:=K6.out.c (g:=w3.heap.size) (t:=40) (cs:=#[.int .i64 86602,.int .i64 86603]) (by simp) (i:=0) rfl
 have a1:=K6.out.c (g:=w3.heap.size) (t:=40) (cs:=#[.int .i64 86602,.int .i64 86603]) (by simp) (i:=1) rfl
 have b0:=K6.out.c (g:=w3.heap.size+1) (t:=40) (cs:=#[.int .i64 50000,.int .i64 50000]) (by simp) (i:=0) rfl
 have b1:=K6.out.c (g:=w3.heap.size+1) (t:=40) (cs:=#[.int .i64 50000,.int .i64 50000]) (by simp) (i:=1) rfl
 have c0:=K6.out.c (g:=w6.heap.size) (t:=40) (cs:=#[.int .i64 100000,.int .i64 100000]) (by simp) (i:=0) rfl
 have c1:=K6.out.c (g:=w6.heap.size) (t:=40) (cs:=#[.int .i64 100000,.int .i64 100000]) (by simp) (i:=1) rfl
 go_region_held3 (fun w'=>w'.cell? ⟨w3.heap.size,0,none⟩=some (.int .i64 86602)/\w'.cell? ⟨w3.heap.size,1,none⟩=some (.int .i64 86603)/\w'.cell? ⟨w3.heap.size+1,0,none⟩=some (.int .i64 50000)/\w'.cell? ⟨w3.heap.size+1,1,none⟩=some (.int .i64 50000)/\w'.cell? ⟨w6.heap.size,0,none⟩=some (.int .i64 100000)/\w'.cell? ⟨w6.heap.size,1,none⟩=some (.int .i64 100000))
  (first|go_keep|(refine ⟨?_,?_,?_,?_,?_,?_⟩<;>assumption))
  (first
   | (go_at_call 95;refine (C0.out _ _).mono ?_;rintro e w8 ⟨rfl,hb⟩;have K8:=Lib.hid (K6.out.drew.below hb);clear hb;have a0:=K8.out.c (g:=w3.heap.size) (t:=40) (cs:=#[.int .i64 86602,.int .i64 86603]) (by simp) (i:=0) rfl;have a1:=K8.out.c (g:=w3.heap.size) (t:=40) (cs:=#[.int .i64 86602,.int .i64 86603]) (by simp) (i:=1) rfl;have b0:=K8.out.c (g:=w3.heap.size+1) (t:=40) (cs:=#[.int .i64 50000,.int .i64 50000]) (by simp) (i:=0) rfl;have b1:=K8.out.c (g:=w3.heap.size+1) (t:=40) (cs:=#[.int .i64 50000,.int .i64 50000]) (by simp) (i:=1) rfl;have c0:=K8.out.c (g:=w6.heap.size) (t:=40) (cs:=#[.int .i64 100000,.int .i64 100000]) (by simp) (i:=0) rfl;have c1:=K8.out.c (g:=w6.heap.size) (t:=40) (cs:=#[.int .i64 100000,.int .i64 100000]) (by simp) (i:=1) rfl)
   | (go_at_call 95;refine (C0.out _ _).mono ?_;rintro e w9 ⟨rfl,hb⟩;have K9:=Lib.hid (K8.out.below hb);clear hb;have a0:=K9.out.c (g:=w3.heap.size) (t:=40) (cs:=#[.int .i64 86602,.int .i64 86603]) (by simp) (i:=0) rfl;have a1:=K9.out.c (g:=w3.heap.size) (t:=40) (cs:=#[.int .i64 86602,.int .i64 86603]) (by simp) (i:=1) rfl;have b0:=K9.out.c (g:=w3.heap.size+1) (t:=40) (cs:=#[.int .i64 50000,.int .i64 50000]) (by simp) (i:=0) rfl;have b1:=K9.out.c (g:=w3.heap.size+1) (t:=40) (cs:=#[.int .i64 50000,.int .i64 50000]) (by simp) (i:=1) rfl;have c0:=K9.out.c (g:=w6.heap.size) (t:=40) (cs:=#[.int .i64 100000,.int .i64 100000]) (by simp) (i:=0) rfl;have c1:=K9.out.c (g:=w6.heap.size) (t:=40) (cs:=#[.int .i64 100000,.int .i64 100000]) (by simp) (i:=1) rfl))
 go_wp2;go_ret;exact ⟨rfl,K9.out.1⟩
