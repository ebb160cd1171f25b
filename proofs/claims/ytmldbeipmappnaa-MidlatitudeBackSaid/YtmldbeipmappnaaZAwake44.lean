/- The example of the chapter on plane sailing holds. -/
import Derived.Test.YtmldbeipmappnaaZMid5
import Derived.Test.YtmldbeipmappnaaZNums
import Derived.Deep.RegionHeld3
set_option linter.unusedVariables false
set_option linter.unusedSimpArgs false
set_option maxRecDepth 100000
set_option maxHeartbeats 2000000
namespace Go.Proofs.Ytmldbeipmappnaa
open Go.RowKit Alm
theorem ajs (n:Int) (w:World) :
 Calls Try.prog 41 #[.int .i64 n] w fun e w'=>e=.returned (.agg #[.int .i64 n,.int .i64 n])/\Below w.heap.size w w':=by
 go_enter Try.func41,Try.ntmps41;go_wp2;refine bodyPost_ret (by simp [results,Try.results41,go_sem];try rfl) rfl ⟨rfl,by go_grown⟩
theorem ajp:nM 3600000=929887696:=by
 unfold nM;rw [if_neg (by omega)]
 exact QR 1800000 (by omega) 929887696 Zd
theorem ajC:fU 3600000=929887696:=by
 unfold fU;rw [if_neg (by omega),if_neg (by omega),if_neg (by omega)]
 show ((nM 3600000:Nat):Int)=_;rw [ajp];rfl
theorem aiw (n q:Int) (h:aI n=q) (hs:bv n=false):bLo n=fU q/\bHi n=fU q+if ic q then 0 else 1:=by
 unfold bLo bHi;rw [hs,h];exact ⟨rfl,rfl⟩
theorem ajP:ah3 1800000 1800000=929887696/\ah4 1800000 1800000=929887697:=by
 have h:=aiw (1800000+5400000) 3600000 (by decide) (by decide)
 have e:ic 3600000=false:=by decide
 have m1:bV (1800000+5400000) (1800000+5400000) 16200000=false:=by decide
 have m2:bV (1800000+5400000) (1800000+5400000) 5400000=false:=by decide
 unfold ah3 ah4 bU bW;rw [m1,m2,h.1,h.2,ajC,e];exact ⟨rfl,rfl⟩
theorem ajO:bU 1800000 1800000=536870912/\bW 1800000 1800000=536870912:=by
 have h:=aiw 1800000 1800000 (by decide) (by decide)
 have e:ic 1800000=true:=by decide
 have v:fU 1800000=536870912:=rfl;have m1:bV 1800000 1800000 16200000=false:=by decide
 have m2:bV 1800000 1800000 5400000=false:=by decide
 unfold bU bW;rw [m1,m2,h.1,h.2,v,e];exact ⟨rfl,rfl⟩
theorem ajR:ah3 3600000 3600000=536870912/\ah4 3600000 3600000=536870912:=by
 have h:=aiw (3600000+5400000) 1800000 (by decide) (by decide)
 have e:ic 1800000=true:=by decide
 have v:fU 1800000=536870912:=rfl;have m1:bV (3600000+5400000) (3600000+5400000) 16200000=false:=by decide
 have m2:bV (3600000+5400000) (3600000+5400000) 5400000=false:=by decide
 unfold ah3 ah4 bU bW;rw [m1,m2,h.1,h.2,v,e];exact ⟨rfl,rfl⟩
theorem akV:aic 929887696 929887697 100000 100000=86602/\aib 929887696 929887697 100000 100000=86603:=by decide
theorem ak2:aic 536870912 536870912 100000 100000=50000/\aib 536870912 536870912 100000 100000=50000:=by decide
theorem aiH (w:World):Calls Try.prog 42 #[.agg #[.int .i64 1800000,.int .i64 1800000,.int .i64 100000,.int .i64 100000]] w fun e w' =>
 e=.returned (.tuple #[.agg #[.int .i64 86602,.int .i64 86603],.agg #[.int .i64 50000,.int .i64 50000],.int .i64 0])/\Below w.heap.size w w':=by
 have h:=ajL 1800000 1800000 100000 100000 w (by decide)
 rw [ajP.1,ajP.2,ajO.1,ajO.2,akV.1,akV.2,ak2.1,ak2.2] at h;exact h (by decide) (by decide)
theorem aiQ (w:World):Calls Try.prog 48 #[.agg #[.int .i64 3600000,.int .i64 3600000],.agg #[.int .i64 50000,.int .i64 50000]] w fun e w' =>
 e=.returned (.tuple #[.agg #[.int .i64 100000,.int .i64 100000],.int .i64 0])/\Below w.heap.size w w' :=
 aiC 3600000 3600000 50000 536870912 100000 w (by decide) ajR.1 ajR.2 (by decide) (by decide) (by decide) (by decide) (by decide)
theorem ai4 (w:World):Calls Try.prog 40 #[] w fun e w'=>e=.returned (.bool true)/\Below w.heap.size w w':=by
 have E1:∀ w,(binOp .eql 26 (.agg #[.int .i64 50000,.int .i64 50000]) (.agg #[.int .i64 50000,.int .i64 50000])).run Try.prog w=.ok (.bool true) w:=fun _=>by kernel_rfl
 have E2:∀ w,(binOp .eql 26 (.agg #[.int .i64 100000,.int .i64 100000]) (.agg #[.int .i64 100000,.int .i64 100000])).run Try.prog w=.ok (.bool true) w:=fun _=>by kernel_rfl
 have C1:=Lib.hid aiH;have C2:=Lib.hid aiQ;have C0:=Lib.hid ajs;have K0:=Lib.hid (fu w);go_enter Try.func40,Try.ntmps40;go_wp2_with fail;refine (C0.out _ _).mono ?_;rintro e w1 ⟨rfl,hb1⟩;have K1:=Lib.hid (K0.out.below hb1);clear hb1 K0;go_wp2_with fail;refine (C0.out _ _).mono ?_;rintro e w2 ⟨rfl,hb1⟩;have K2:=Lib.hid (K1.out.below hb1);clear hb1 K1;go_wp2_with fail;refine (C1.out _).mono ?_;rintro e w3 ⟨rfl,hb1⟩;have K3:=Lib.hid (((K2.out.below hb1).new w3.heap.size rfl 26 #[.int .i64 86602,.int .i64 86603]).new (w3.heap.size+1) (by simp) 26 #[.int .i64 50000,.int .i64 50000]);clear hb1 K2
 go_wp2_with fail;refine (C0.out _ _).mono ?_;rintro e w4 ⟨rfl,hb1⟩;have K4:=Lib.hid (K3.out.below hb1);clear hb1 K3;go_wp2_with fail;refine (C0.out _ _).mono ?_;rintro e w5 ⟨rfl,hb1⟩;have K5:=Lib.hid (K4.out.below hb1);clear hb1 K4;go_wp2_with fail;refine (C2.out _).mono ?_;rintro e w6 ⟨rfl,hb1⟩;have K6:=Lib.hid ((K5.out.below hb1).new w6.heap.size rfl 26 #[.int .i64 100000,.int .i64 100000]);clear hb1 K5;go_wp2;generalize (w6.alloc (.cells #[.int .i64 100000,.int .i64 100000] 26))=w7 at *
 have a0:=K6.out.c (g:=w3.heap.size) (t:=26) (cs:=#[.int .i64 86602,.int .i64 86603]) (by simp) (i:=0) rfl
 have a1:=K6.out.c (g:=w3.heap.size) (t:=26) (cs:=#[.int .i64 86602,.int .i64 86603]) (by simp) (i:=1) rfl
 have b0:=K6.out.c (g:=w3.heap.size+1) (t:=26) (cs:=#[.int .i64 50000,.int .i64 50000]) (by simp) (i:=0) rfl
 have b1:=K6.out.c (g:=w3.heap.size+1) (t:=26) (cs:=#[.int .i64 50000,.int .i64 50000]) (by simp) (i:=1) rfl
 have c0:=K6.out.c (g:=w6.heap.size) (t:=26) (cs:=#[.int .i64 100000,.int .i64 100000]) (by simp) (i:=0) rfl
 have c1:=K6.out.c (g:=w6.heap.size) (t:=26) (cs:=#[.int .i64 100000,.int .i64 100000]) (by simp) (i:=1) rfl
 go_region_held3 (fun w'=>w'.cell? ⟨w3.heap.size,0,none⟩=some (.int .i64 86602)/\w'.cell? ⟨w3.heap.size,1,none⟩=some (.int .i64 86603)/\w'.cell? ⟨w3.heap.size+1,0,none⟩=some (.int .i64 50000)/\w'.cell? ⟨w3.heap.size+1,1,none⟩=some (.int .i64 50000)/\w'.cell? ⟨w6.heap.size,0,none⟩=some (.int .i64 100000)/\w'.cell? ⟨w6.heap.size,1,none⟩=some (.int .i64 100000))
  (first|go_keep|(refine ⟨?_,?_,?_,?_,?_,?_⟩<;>assumption))
  (first
   | (go_at_call 41;refine (C0.out _ _).mono ?_;rintro e w8 ⟨rfl,hb⟩;have K8:=Lib.hid (K6.out.drew.below hb);clear hb;have a0:=K8.out.c (g:=w3.heap.size) (t:=26) (cs:=#[.int .i64 86602,.int .i64 86603]) (by simp) (i:=0) rfl;have a1:=K8.out.c (g:=w3.heap.size) (t:=26) (cs:=#[.int .i64 86602,.int .i64 86603]) (by simp) (i:=1) rfl;have b0:=K8.out.c (g:=w3.heap.size+1) (t:=26) (cs:=#[.int .i64 50000,.int .i64 50000]) (by simp) (i:=0) rfl;have b1:=K8.out.c (g:=w3.heap.size+1) (t:=26) (cs:=#[.int .i64 50000,.int .i64 50000]) (by simp) (i:=1) rfl;have c0:=K8.out.c (g:=w6.heap.size) (t:=26) (cs:=#[.int .i64 100000,.int .i64 100000]) (by simp) (i:=0) rfl;have c1:=K8.out.c (g:=w6.heap.size) (t:=26) (cs:=#[.int .i64 100000,.int .i64 100000]) (by simp) (i:=1) rfl)
   | (go_at_call 41;refine (C0.out _ _).mono ?_;rintro e w9 ⟨rfl,hb⟩;have K9:=Lib.hid (K8.out.below hb);clear hb;have a0:=K9.out.c (g:=w3.heap.size) (t:=26) (cs:=#[.int .i64 86602,.int .i64 86603]) (by simp) (i:=0) rfl;have a1:=K9.out.c (g:=w3.heap.size) (t:=26) (cs:=#[.int .i64 86602,.int .i64 86603]) (by simp) (i:=1) rfl;have b0:=K9.out.c (g:=w3.heap.size+1) (t:=26) (cs:=#[.int .i64 50000,.int .i64 50000]) (by simp) (i:=0) rfl;have b1:=K9.out.c (g:=w3.heap.size+1) (t:=26) (cs:=#[.int .i64 50000,.int .i64 50000]) (by simp) (i:=1) rfl;have c0:=K9.out.c (g:=w6.heap.size) (t:=26) (cs:=#[.int .i64 100000,.int .i64 100000]) (by simp) (i:=0) rfl;have c1:=K9.out.c (g:=w6.heap.size) (t:=26) (cs:=#[.int .i64 100000,.int .i64 100000]) (by simp) (i:=1) rfl))
 go_wp2;go_ret;exact ⟨rfl,K9.out.1⟩
