/- The walk of package arctrig's circle at all angles, and of the comparison of a point's direction. -/
import Derived.Test.YtoniodlcogpdbaaGreatZArcs
import Derived.Test.YtoniodlcogpdbaaGreatZKp
import Derived.Deep.RegionHeld3
import Derived.Deep.Light
set_option linter.unusedVariables false
set_option linter.unusedSimpArgs false
set_option maxRecDepth 100000
set_option maxHeartbeats 8000000
namespace Alm
def jS (x y:Int) (k:Nat):Bool:=decide (k=0) || (if k=2700000 then decide (x<=y) else decide (sN k*x.toNat<=cN k*y.toNat))
end Alm
namespace Go.Proofs.YtoniodlcogpdbaaGreat
open Go.RowKit Alm
theorem AC (k:Nat) (w:World) (s0 s1 s2 s3 c0 c1 c2 c3:Int) (hk:2700000<(k:Int)) (hk2:(k:Int)<=5400000)
 (CL:Hid (∀ w,Calls Tryz.prog 177 #[.int .i64 (5400000-(k:Int))] w fun e w'=>e=.returned (.tuple #[.agg #[.int .u64 s0,.int .u64 s1,.int .u64 s2,.int .u64 s3],.agg #[.int .u64 c0,.int .u64 c1,.int .u64 c2,.int .u64 c3]])/\Below w.heap.size w w')) :
 Calls Tryz.prog 177 #[.int .i64 (k:Int)] w fun e w'=>e=.returned (.tuple #[.agg #[.int .u64 c0,.int .u64 c1,.int .u64 c2,.int .u64 c3],.agg #[.int .u64 s0,.int .u64 s1,.int .u64 s2,.int .u64 s3]])/\Below w.heap.size w w':=by
 have HZ:Hid (F4 ((w.alloc (.cells #[.int .u64 0,.int .u64 0,.int .u64 0,.int .u64 0] 186)).alloc (.cells #[.int .u64 0,.int .u64 0,.int .u64 0,.int .u64 0] 186)) w.heap.size (.int .u64 0) (.int .u64 0) (.int .u64 0) (.int .u64 0)/\F4 ((w.alloc (.cells #[.int .u64 0,.int .u64 0,.int .u64 0,.int .u64 0] 186)).alloc (.cells #[.int .u64 0,.int .u64 0,.int .u64 0,.int .u64 0] 186)) (w.heap.size+1) (.int .u64 0) (.int .u64 0) (.int .u64 0) (.int .u64 0)):=by
  refine ⟨(nT _ _ _ _ _ _).below (B:=w.heap.size+1) ((Below.refl _ _).alloc (by simp) _) (by omega),?_⟩
  have:=nT (w.alloc (.cells #[.int .u64 0,.int .u64 0,.int .u64 0,.int .u64 0] 186)) (.int .u64 0) (.int .u64 0) (.int .u64 0) (.int .u64 0) 186
  simpa using this
 go_enter Tryz.func177,Tryz.ntmps177;go_wp2_with fail;refine (CL.out _).mono ?_;rintro e w1 ⟨rfl,hb1⟩;have hB1:Below w.heap.size w w1:=(show Below w.heap.size w _ by go_grown).trans (hb1.mono (by simp;omega))
 have hr0:=HZ.out.1.below hb1 (by simp;omega)
 have hr1:=HZ.out.2.below hb1 (by simp)
 obtain ⟨⟨m0,m1,m2,m3⟩,f0,f1,f2,f3⟩:=hr0;obtain ⟨⟨n0,n1,n2,n3⟩,g0,g1,g2,g3⟩:=hr1
 have HX:Hid (Below w.heap.size w (W4 (W4 w1 (w.heap.size+1) (.int .u64 s0) (.int .u64 s1) (.int .u64 s2) (.int .u64 s3)) w.heap.size (.int .u64 c0) (.int .u64 c1) (.int .u64 c2) (.int .u64 c3))/\F4 (W4 (W4 w1 (w.heap.size+1) (.int .u64 s0) (.int .u64 s1) (.int .u64 s2) (.int .u64 s3)) w.heap.size (.int .u64 c0) (.int .u64 c1) (.int .u64 c2) (.int .u64 c3)) w.heap.size (.int .u64 c0) (.int .u64 c1) (.int .u64 c2) (.int .u64 c3)/\F4 (W4 (W4 w1 (w.heap.size+1) (.int .u64 s0) (.int .u64 s1) (.int .u64 s2) (.int .u64 s3)) w.heap.size (.int .u64 c0) (.int .u64 c1) (.int .u64 c2) (.int .u64 c3)) (w.heap.size+1) (.int .u64 s0) (.int .u64 s1) (.int .u64 s2) (.int .u64 s3)) :=
  ⟨Ew (Ew hB1 _ _ _ _ (by omega)) _ _ _ _ (by omega),((HZ.out.1.below hb1 (by simp;omega)).apart _ _ _ _ (by omega)).store _ _ _ _,((HZ.out.2.below hb1 (by simp)).store _ _ _ _).apart _ _ _ _ (by omega)⟩
 clear hb1 hB1 hk hk2;go_wp2;clear f0 f1 f2 f3 g0 g1 g2 g3 m0 m1 m2 m3 n0 n1 n2 n3;change Code.wp _ _ _ _ (W4 (W4 w1 (w.heap.size+1) (.int .u64 s0) (.int .u64 s1) (.int .u64 s2) (.int .u64 s3)) w.heap.size (.int .u64 c0) (.int .u64 c1) (.int .u64 c2) (.int .u64 c3));generalize W4 (W4 w1 (w.heap.size+1) (.int .u64 s0) (.int .u64 s1) (.int .u64 s2) (.int .u64 s3)) w.heap.size (.int .u64 c0) (.int .u64 c1) (.int .u64 c2) (.int .u64 c3)=wx at *
 have HB:=Lib.hid HX.out.1;obtain ⟨⟨m0,m1,m2,m3⟩,f0,f1,f2,f3⟩:=HX.out.2.1;obtain ⟨⟨n0,n1,n2,n3⟩,g0,g1,g2,g3⟩:=HX.out.2.2;clear HX HZ CL;go_region
 all_goals
  go_wp2;refine bodyPost_ret (v:=.tuple #[.agg #[.int .u64 c0,.int .u64 c1,.int .u64 c2,.int .u64 c3],.agg #[.int .u64 s0,.int .u64 s1,.int .u64 s2,.int .u64 s3]]) (by simp [results,Tryz.results177,go_sem,m0,m1,m2,m3,n0,n1,n2,n3]) rfl ⟨rfl,?_⟩
  have hb:=HB.out;go_grown
theorem EI (k:Nat) (w:World) (hk:2700000<k) (hk2:k<=5400000) :
 Calls Tryz.prog 177 #[.int .i64 (k:Int)] w fun e w'=>e=.returned (.tuple #[.agg #[.int .u64 (nl (tO (5400000-k)) 0),.int .u64 (nl (tO (5400000-k)) 1),.int .u64 (nl (tO (5400000-k)) 2),.int .u64 (nl (tO (5400000-k)) 3)],.agg #[.int .u64 (nl (rZ (5400000-k)) 0),.int .u64 (nl (rZ (5400000-k)) 1),.int .u64 (nl (rZ (5400000-k)) 2),.int .u64 (nl (rZ (5400000-k)) 3)]])/\Below w.heap.size w w':=by
 have CL:=fun w=>xk (5400000-k) w (by omega)
 rw [show ((5400000-k:Nat):Int)=5400000-(k:Int) by omega] at CL
 exact AC k w _ _ _ _ _ _ _ _ (by omega) (by omega) (Lib.hid CL)
theorem Qk (k:Nat) (w:World) (hk:k<=5400000) :
 Calls Tryz.prog 177 #[.int .i64 (k:Int)] w fun e w'=>e=.returned (.tuple #[.agg #[.int .u64 (nl (sN k) 0),.int .u64 (nl (sN k) 1),.int .u64 (nl (sN k) 2),.int .u64 (nl (sN k) 3)],.agg #[.int .u64 (nl (cN k) 0),.int .u64 (nl (cN k) 1),.int .u64 (nl (cN k) 2),.int .u64 (nl (cN k) 3)]])/\Below w.heap.size w w':=by
 unfold sN cN
 by_cases h:k<=2700000
 . rw [if_pos h,if_pos h];exact xk k w h
 . rw [if_neg h,if_neg h];exact EI k w (by omega) hk
theorem Sg (x y:Int) (w:World) :
 Calls Tryz.prog 166 #[.agg #[.int .i64 x,.int .i64 y],.int .i64 0] w fun e w'=>e=.returned (.bool true)/\Below w.heap.size w w':=by
 go_enter Tryz.func166,Tryz.ntmps166;go_wp2;go_ret;exact ⟨rfl,by go_grown⟩
theorem MU (x y:Int) (w:World) :
 Calls Tryz.prog 166 #[.agg #[.int .i64 x,.int .i64 y],.int .i64 2700000] w fun e w'=>e=.returned (.bool (decide (x<=y)))/\Below w.heap.size w w':=by
 go_enter Tryz.func166,Tryz.ntmps166;go_wp2;go_ret;exact ⟨rfl,by go_grown⟩
theorem Io (x y:Int) (k:Nat) (w:World) (S0 S1 S2 S3 C0 C1 C2 C3 U0 U1 U2 U3 V0 V1 V2 V3:Int) (R:Bool) (hx:0<=x/\x<=4294967296) (hy:0<=y/\y<=4294967296) (h0:0<(k:Int)) (hk:(k:Int)<=5400000) (hm:(k:Int)≠2700000)
 (CC:Hid (∀ w,Calls Tryz.prog 177 #[.int .i64 (k:Int)] w fun e w'=>e=.returned (.tuple #[.agg #[.int .u64 S0,.int .u64 S1,.int .u64 S2,.int .u64 S3],.agg #[.int .u64 C0,.int .u64 C1,.int .u64 C2,.int .u64 C3]])/\Below w.heap.size w w'))
 (CT1:Hid (∀ w,Calls Tryz.prog 178 #[.agg #[.int .u64 C0,.int .u64 C1,.int .u64 C2,.int .u64 C3],.int .u64 y] w fun e w'=>e=.returned (.agg #[.int .u64 U0,.int .u64 U1,.int .u64 U2,.int .u64 U3])/\Below w.heap.size w w'))
 (CT2:Hid (∀ w,Calls Tryz.prog 178 #[.agg #[.int .u64 S0,.int .u64 S1,.int .u64 S2,.int .u64 S3],.int .u64 x] w fun e w'=>e=.returned (.agg #[.int .u64 V0,.int .u64 V1,.int .u64 V2,.int .u64 V3])/\Below w.heap.size w w'))
 (CLs:Hid (∀ w,Calls Tryz.prog 179 #[.agg #[.int .u64 U0,.int .u64 U1,.int .u64 U2,.int .u64 U3],.agg #[.int .u64 V0,.int .u64 V1,.int .u64 V2,.int .u64 V3]] w fun e w'=>e=.returned (.bool R)/\Below w.heap.size w w')) :
 Calls Tryz.prog 166 #[.agg #[.int .i64 x,.int .i64 y],.int .i64 (k:Int)] w fun e w'=>e=.returned (.bool (!R))/\Below w.heap.size w w':=by
 have K0:=Lib.hid ((az w).new w.heap.size rfl 159 #[.int .i64 x,.int .i64 y]);have wx1:IntKind.u64.wrap x=x:=w64 x (by unfold U64;omega)
 have wy1:IntKind.u64.wrap y=y:=w64 y (by unfold U64;omega)
 have e0:((k:Int)==0)=false:=by simp;omega
 have e1:((k:Int)==2700000)=false:=by simp;omega
 have e2:¬ ((k:Int)=0):=by omega
 have e4:0<=(k:Int):=by omega
 clear h0 hx hy;go_enter Tryz.func166,Tryz.ntmps166;go_wp2_with fail;refine (CC.out _).mono ?_;rintro e w1 ⟨rfl,hb1⟩;have K1:=Lib.hid (((K0.out.below hb1).new w1.heap.size rfl 186 #[.int .u64 S0,.int .u64 S1,.int .u64 S2,.int .u64 S3]).new (w1.heap.size+1) (by simp) 186 #[.int .u64 C0,.int .u64 C1,.int .u64 C2,.int .u64 C3])
 clear hb1 K0 CC e0 e1 e2 e4 hm hk;go_wp2;generalize ((w1.alloc (.cells #[.int .u64 S0,.int .u64 S1,.int .u64 S2,.int .u64 S3] 186)).alloc (.cells #[.int .u64 C0,.int .u64 C1,.int .u64 C2,.int .u64 C3] 186))=wq at *
 generalize w1.heap.size=b5 at *
 have p0:=K1.out.c (g:=w.heap.size) (t:=159) (cs:=#[.int .i64 x,.int .i64 y]) (by simp) (i:=0) rfl
 have p1:=K1.out.c (g:=w.heap.size) (t:=159) (cs:=#[.int .i64 x,.int .i64 y]) (by simp) (i:=1) rfl
 have s0:=K1.out.c (g:=b5) (t:=186) (cs:=#[.int .u64 S0,.int .u64 S1,.int .u64 S2,.int .u64 S3]) (by simp) (i:=0) rfl
 have s1:=K1.out.c (g:=b5) (t:=186) (cs:=#[.int .u64 S0,.int .u64 S1,.int .u64 S2,.int .u64 S3]) (by simp) (i:=1) rfl
 have s2:=K1.out.c (g:=b5) (t:=186) (cs:=#[.int .u64 S0,.int .u64 S1,.int .u64 S2,.int .u64 S3]) (by simp) (i:=2) rfl
 have s3:=K1.out.c (g:=b5) (t:=186) (cs:=#[.int .u64 S0,.int .u64 S1,.int .u64 S2,.int .u64 S3]) (by simp) (i:=3) rfl
 have c0:=K1.out.c (g:=b5+1) (t:=186) (cs:=#[.int .u64 C0,.int .u64 C1,.int .u64 C2,.int .u64 C3]) (by simp) (i:=0) rfl
 have c1:=K1.out.c (g:=b5+1) (t:=186) (cs:=#[.int .u64 C0,.int .u64 C1,.int .u64 C2,.int .u64 C3]) (by simp) (i:=1) rfl
 have c2:=K1.out.c (g:=b5+1) (t:=186) (cs:=#[.int .u64 C0,.int .u64 C1,.int .u64 C2,.int .u64 C3]) (by simp) (i:=2) rfl
 have c3:=K1.out.c (g:=b5+1) (t:=186) (cs:=#[.int .u64 C0,.int .u64 C1,.int .u64 C2,.int .u64 C3]) (by simp) (i:=3) rfl
 go_region_held3 (fun w'=>w'.cell? ⟨w.heap.size,0,none⟩=some (.int .i64 x)/\w'.cell? ⟨w.heap.size,1,none⟩=some (.int .i64 y)/\w'.cell? ⟨b5,0,none⟩=some (.int .u64 S0)/\w'.cell? ⟨b5,1,none⟩=some (.int .u64 S1)/\w'.cell? ⟨b5,2,none⟩=some (.int .u64 S2)/\w'.cell? ⟨b5,3,none⟩=some (.int .u64 S3)/\w'.cell? ⟨b5+1,0,none⟩=some (.int .u64 C0)/\w'.cell? ⟨b5+1,1,none⟩=some (.int .u64 C1)/\w'.cell? ⟨b5+1,2,none⟩=some (.int .u64 C2)/\w'.cell? ⟨b5+1,3,none⟩=some (.int .u64 C3))
  (first|go_keep|(refine ⟨?_,?_,?_,?_,?_,?_,?_,?_,?_,?_⟩<;>assumption))
  (first
   | ((go_at_call 178;with_reducible refine (CT1.out _).mono ?_);rintro e w5 ⟨rfl,hb⟩;replace K1:=Lib.hid (K1.out.below (by first|exact hb|exact xX hb));clear hb p0 p1 s0 s1 s2 s3 c0 c1 c2 c3;have p0:=K1.out.c (g:=w.heap.size) (t:=159) (cs:=#[.int .i64 x,.int .i64 y]) (by simp) (i:=0) rfl;have p1:=K1.out.c (g:=w.heap.size) (t:=159) (cs:=#[.int .i64 x,.int .i64 y]) (by simp) (i:=1) rfl;have s0:=K1.out.c (g:=b5) (t:=186) (cs:=#[.int .u64 S0,.int .u64 S1,.int .u64 S2,.int .u64 S3]) (by simp) (i:=0) rfl;have s1:=K1.out.c (g:=b5) (t:=186) (cs:=#[.int .u64 S0,.int .u64 S1,.int .u64 S2,.int .u64 S3]) (by simp) (i:=1) rfl;have s2:=K1.out.c (g:=b5) (t:=186) (cs:=#[.int .u64 S0,.int .u64 S1,.int .u64 S2,.int .u64 S3]) (by simp) (i:=2) rfl;have s3:=K1.out.c (g:=b5) (t:=186) (cs:=#[.int .u64 S0,.int .u64 S1,.int .u64 S2,.int .u64 S3]) (by simp) (i:=3) rfl;have c0:=K1.out.c (g:=b5+1) (t:=186) (cs:=#[.int .u64 C0,.int .u64 C1,.int .u64 C2,.int .u64 C3]) (by simp) (i:=0) rfl;have c1:=K1.out.c (g:=b5+1) (t:=186) (cs:=#[.int .u64 C0,.int .u64 C1,.int .u64 C2,.int .u64 C3]) (by simp) (i:=1) rfl;have c2:=K1.out.c (g:=b5+1) (t:=186) (cs:=#[.int .u64 C0,.int .u64 C1,.int .u64 C2,.int .u64 C3]) (by simp) (i:=2) rfl;have c3:=K1.out.c (g:=b5+1) (t:=186) (cs:=#[.int .u64 C0,.int .u64 C1,.int .u64 C2,.int .u64 C3]) (by simp) (i:=3) rfl)
   | ((go_at_call 178;with_reducible refine (CT2.out _).mono ?_);rintro e w5 ⟨rfl,hb⟩;replace K1:=Lib.hid (K1.out.below (by first|exact hb|exact xX hb));clear hb p0 p1 s0 s1 s2 s3 c0 c1 c2 c3;have p0:=K1.out.c (g:=w.heap.size) (t:=159) (cs:=#[.int .i64 x,.int .i64 y]) (by simp) (i:=0) rfl;have p1:=K1.out.c (g:=w.heap.size) (t:=159) (cs:=#[.int .i64 x,.int .i64 y]) (by simp) (i:=1) rfl;have s0:=K1.out.c (g:=b5) (t:=186) (cs:=#[.int .u64 S0,.int .u64 S1,.int .u64 S2,.int .u64 S3]) (by simp) (i:=0) rfl;have s1:=K1.out.c (g:=b5) (t:=186) (cs:=#[.int .u64 S0,.int .u64 S1,.int .u64 S2,.int .u64 S3]) (by simp) (i:=1) rfl;have s2:=K1.out.c (g:=b5) (t:=186) (cs:=#[.int .u64 S0,.int .u64 S1,.int .u64 S2,.int .u64 S3]) (by simp) (i:=2) rfl;have s3:=K1.out.c (g:=b5) (t:=186) (cs:=#[.int .u64 S0,.int .u64 S1,.int .u64 S2,.int .u64 S3]) (by simp) (i:=3) rfl;have c0:=K1.out.c (g:=b5+1) (t:=186) (cs:=#[.int .u64 C0,.int .u64 C1,.int .u64 C2,.int .u64 C3]) (by simp) (i:=0) rfl;have c1:=K1.out.c (g:=b5+1) (t:=186) (cs:=#[.int .u64 C0,.int .u64 C1,.int .u64 C2,.int .u64 C3]) (by simp) (i:=1) rfl;have c2:=K1.out.c (g:=b5+1) (t:=186) (cs:=#[.int .u64 C0,.int .u64 C1,.int .u64 C2,.int .u64 C3]) (by simp) (i:=2) rfl;have c3:=K1.out.c (g:=b5+1) (t:=186) (cs:=#[.int .u64 C0,.int .u64 C1,.int .u64 C2,.int .u64 C3]) (by simp) (i:=3) rfl)
   | ((go_at_call 179;with_reducible refine (CLs.out _).mono ?_);rintro e w5 ⟨rfl,hb⟩;replace K1:=Lib.hid (K1.out.below (by first|exact hb|exact xX hb));clear hb p0 p1 s0 s1 s2 s3 c0 c1 c2 c3;have p0:=K1.out.c (g:=w.heap.size) (t:=159) (cs:=#[.int .i64 x,.int .i64 y]) (by simp) (i:=0) rfl;have p1:=K1.out.c (g:=w.heap.size) (t:=159) (cs:=#[.int .i64 x,.int .i64 y]) (by simp) (i:=1) rfl;have s0:=K1.out.c (g:=b5) (t:=186) (cs:=#[.int .u64 S0,.int .u64 S1,.int .u64 S2,.int .u64 S3]) (by simp) (i:=0) rfl;have s1:=K1.out.c (g:=b5) (t:=186) (cs:=#[.int .u64 S0,.int .u64 S1,.int .u64 S2,.int .u64 S3]) (by simp) (i:=1) rfl;have s2:=K1.out.c (g:=b5) (t:=186) (cs:=#[.int .u64 S0,.int .u64 S1,.int .u64 S2,.int .u64 S3]) (by simp) (i:=2) rfl;have s3:=K1.out.c (g:=b5) (t:=186) (cs:=#[.int .u64 S0,.int .u64 S1,.int .u64 S2,.int .u64 S3]) (by simp) (i:=3) rfl;have c0:=K1.out.c (g:=b5+1) (t:=186) (cs:=#[.int .u64 C0,.int .u64 C1,.int .u64 C2,.int .u64 C3]) (by simp) (i:=0) rfl;have c1:=K1.out.c (g:=b5+1) (t:=186) (cs:=#[.int .u64 C0,.int .u64 C1,.int .u64 C2,.int .u64 C3]) (by simp) (i:=1) rfl;have c2:=K1.out.c (g:=b5+1) (t:=186) (cs:=#[.int .u64 C0,.int .u64 C1,.int .u64 C2,.int .u64 C3]) (by simp) (i:=2) rfl;have c3:=K1.out.c (g:=b5+1) (t:=186) (cs:=#[.int .u64 C0,.int .u64 C1,.int .u64 C2,.int .u64 C3]) (by simp) (i:=3) rfl))
 all_goals
  go_wp2;go_ret;exact ⟨rfl,K1.out.1⟩
theorem MW (x y:Int) (k:Nat) (w:World) (hx:0<=x/\x<=4294967296) (hy:0<=y/\y<=4294967296) (h0:0<k) (hk:k<=5400000) (hm:k≠2700000) :
 Calls Tryz.prog 166 #[.agg #[.int .i64 x,.int .i64 y],.int .i64 (k:Int)] w fun e w'=>e=.returned (.bool (decide (sN k*x.toNat<=cN k*y.toNat)))/\Below w.heap.size w w':=by
 have hS:=acG k hk;have hC:=acW k hk;have hQ:=Lc
 have hCy:cN k*y.toNat<W:=by
  have h1:cN k*y.toNat<=QA*2^60:=Nat.mul_le_mul hC (by omega)
  omega
 have hSx:sN k*x.toNat<W:=by
  have h1:sN k*x.toNat<=QA*2^60:=Nat.mul_le_mul hS (by omega)
  omega
 have CC:=fun w=>Qk k w hk
 have CT1:=fun w=>wO (cN k) y (by omega) (by unfold U64;omega) hCy w
 have CT2:=fun w=>wO (sN k) x (by omega) (by unfold U64;omega) hSx w
 have CLs:=fun w=>TP (cN k*y.toNat) (sN k*x.toNat) hCy hSx w
 have hres:(!decide (cN k*y.toNat<sN k*x.toNat))=decide (sN k*x.toNat<=cN k*y.toNat):=by
  rw [Bool.eq_iff_iff];simp only [Bool.not_eq_true',decide_eq_false_iff_not,decide_eq_true_eq,Nat.not_lt]
 rw [<-hres];exact Io x y k w _ _ _ _ _ _ _ _ _ _ _ _ _ _ _ _ _ hx hy (by omega) (by omega) (by omega) (Lib.hid CC) (Lib.hid CT1) (Lib.hid CT2) (Lib.hid CLs)
theorem Ir (x y:Int) (k:Nat) (w:World) (hx:0<=x/\x<=4294967296) (hy:0<=y/\y<=4294967296) (hk:k<=5400000) :
 Calls Tryz.prog 166 #[.agg #[.int .i64 x,.int .i64 y],.int .i64 (k:Int)] w fun e w'=>e=.returned (.bool (jS x y k))/\Below w.heap.size w w':=by
 unfold jS
 by_cases h0:k=0
 . subst h0;exact Sg x y w
 . by_cases hm:k=2700000
   . subst hm;exact (MU x y w).mono fun e w' ⟨he,hb⟩=>⟨by rw [he];exact il (by simp),hb⟩
   . exact (MW x y k w hx hy (by omega) hk hm).mono fun e w' ⟨he,hb⟩=>⟨by rw [he];exact il (by simp [h0,hm]),hb⟩
end Go.Proofs.YtoniodlcogpdbaaGreat
namespace Alm
def pI (px py qx qy:Int):Bool:=decide (py*qx<=px*qy)
def qX (x y:Int):Int:=if 0<x/\0<=y then x else if 0<y then y else if x<0 then -x else -y
def qY (x y:Int):Int:=if 0<x/\0<=y then y else if 0<y then -x else if x<0 then -y else x
def qT (x y:Int):Int:=if 0<x/\0<=y then 0 else if 0<y then 5400000 else if x<0 then 10800000 else 16200000
theorem Zb (x y:Int) (h:¬ (0<x/\0<=y)) (h0:¬ (x=0/\y=0)):qX y (-x)=qX x y/\qY y (-x)=qY x y/\qT y (-x)+5400000=qT x y:=by
 unfold qX qY qT;refine ⟨?_,?_,?_⟩<;>(repeat' split)<;>omega
theorem ET (x y:Int):0<=qT x y/\qT x y<=16200000/\(¬ (0<x/\0<=y)->5400000<=qT x y):=by
 unfold qT;(repeat' split)<;>omega
theorem q_in (x y:Int) (h:0<x/\0<=y):qX x y=x/\qY x y=y/\qT x y=0:=by
 unfold qX qY qT;simp [h]
theorem q_bd (x y M:Int) (h0:¬ (x=0/\y=0)) (hx:-M<=x/\x<=M) (hy:-M<=y/\y<=M):0<qX x y/\qX x y<=M/\0<=qY x y/\qY x y<=M:=by
 unfold qX qY;(repeat' split)<;>omega
def oq (x y:Int):Nat->Nat->Nat->Nat
 | 0,lo,_=>lo
 | f+1,lo,hi=>if lo+1<hi then (if jS x y ((lo+hi)/2) then oq x y f ((lo+hi)/2) hi else oq x y f lo ((lo+hi)/2)) else lo
theorem yP (x y:Int) (f lo hi:Nat):oq x y (f+1) lo hi=if lo+1<hi then (if jS x y ((lo+hi)/2) then oq x y f ((lo+hi)/2) hi else oq x y f lo ((lo+hi)/2)) else lo:=rfl
theorem OJ (x y:Int) (f lo hi:Nat) (h:¬ lo+1<hi):oq x y f lo hi=lo:=by
 cases f with
 | zero=>rfl
 | succ f=>simp only [oq];rw [if_neg h]
theorem IW (x y:Int) (f lo hi:Nat) (h:lo<hi):lo<=oq x y f lo hi/\oq x y f lo hi<hi:=by
 induction f generalizing lo hi with
 | zero=>simp [oq];exact h
 | succ f ih =>
  simp only [oq];split
  . split
    . have:=ih ((lo+hi)/2) hi (by omega);omega
    . have:=ih lo ((lo+hi)/2) (by omega);omega
  . omega
def iH (x y:Int):Nat:=oq (qX x y) (qY x y) 23 0 5400000
def fF (x y:Int):Int:=qT x y+(iH x y:Int)
def gY (x y:Int):Bool:=(decide (iH x y=0)&&decide (qY x y=0)) || (decide (iH x y=2700000)&&decide (qX x y=qY x y))
def Ni (X Y:Int) (lo hi:Nat):Prop:=lo<hi/\hi<=5400000/\∃ f,hi-lo<=2^f/\oq X Y f lo hi=oq X Y 23 0 5400000
theorem GU (X Y:Int):Ni X Y 0 5400000:=⟨by omega,by omega,23,by omega,rfl⟩
theorem LF {X Y:Int} {lo hi:Nat} (h:Ni X Y lo hi) (h1:lo+1<hi):if jS X Y ((lo+hi)/2) then Ni X Y ((lo+hi)/2) hi else Ni X Y lo ((lo+hi)/2):=by
 obtain ⟨a,b,f,hf,he⟩:=h;cases f with
 | zero=>simp at hf;omega
 | succ f =>
  rw [Nat.pow_succ] at hf;rw [yP X Y f lo hi,if_pos h1] at he;cases hr:jS X Y ((lo+hi)/2)
  . rw [hr] at he;simp only [Bool.false_eq_true,if_false] at he ⊢
    exact ⟨by omega,by omega,f,by omega,he⟩
  . rw [hr] at he;simp only [if_true] at he ⊢
    exact ⟨by omega,by omega,f,by omega,he⟩
theorem Nn {X Y:Int} {lo hi:Nat} (h:Ni X Y lo hi) (h1:¬ lo+1<hi):oq X Y 23 0 5400000=lo:=by
 obtain ⟨a,b,f,hf,he⟩:=h;rw [<-he];exact OJ X Y f lo hi h1
def zN (x y x' y' t:Int):Prop:=qX x' y'=qX x y/\qY x' y'=qY x y/\t+qT x' y'=qT x y/\¬ (x'=0/\y'=0)/\(-4294967296<=x'/\x'<=4294967296)/\(-4294967296<=y'/\y'<=4294967296)/\0<=t
theorem xC {x y x' y' t:Int} (h:zN x y x' y' t) (hn:¬ (0<x'/\0<=y')):zN x y y' (-x') (t+5400000)/\t<=10800000:=by
 obtain ⟨a,b,c,d,e,f,g⟩:=h;obtain ⟨q1,q2,q3⟩:=Zb x' y' hn d;have q4:=ET x' y'
 have q5:=ET x y;exact ⟨⟨q1.trans a,q2.trans b,by omega,by omega,by omega,by omega,by omega⟩,by have:=q4.2.2 hn;omega⟩
end Alm
namespace Go.Proofs.YtoniodlcogpdbaaGreat
open Go.RowKit Alm
theorem BI (x y A B:Int) (hx:-A<=x/\x<=A) (hy:-B<=y/\y<=B):-(A*B)<=x*y/\x*y<=A*B:=by
 have k1:=Int.mul_nonneg (show 0<=A-x by omega) (show 0<=B+y by omega)
 have k2:=Int.mul_nonneg (show 0<=A+x by omega) (show 0<=B-y by omega)
 have k3:=Int.mul_nonneg (show 0<=A-x by omega) (show 0<=B-y by omega)
 have k4:=Int.mul_nonneg (show 0<=A+x by omega) (show 0<=B+y by omega)
 constructor<;>grind
theorem FU (px py qx qy:Int) (w:World) (hp:(-2147483648<=px/\px<=2147483648)/\(-2147483648<=py/\py<=2147483648)) (hq:(-2147483648<=qx/\qx<=2147483648)/\(-2147483648<=qy/\qy<=2147483648)) :
 Calls Tryz.prog 145 #[.agg #[.int .i64 px,.int .i64 py],.agg #[.int .i64 qx,.int .i64 qy]] w fun e w'=>e=.returned (.bool (pI px py qx qy))/\Below w.heap.size w w':=by
 have m1:=BI px qy 2147483648 2147483648 hp.1 hq.2;have m2:=BI py qx 2147483648 2147483648 hp.2 hq.1;obtain ⟨a1,a2⟩:=m1;obtain ⟨a3,a4⟩:=m2;unfold pI;clear hp hq;go_enter Tryz.func145,Tryz.ntmps145;go_wp2;go_ret;exact ⟨rfl,by go_grown⟩
def Nu (w:World) (X Y:Int) (wr:World):Prop:=KS w wr [(w.heap.size,159,#[.int .i64 X,.int .i64 Y])]
theorem Kv (x y:Int) (w:World) (hx:-4294967296<=x/\x<=4294967296) (hy:-4294967296<=y/\y<=4294967296) (h0:¬ (x=0/\y=0)) :
 Calls Tryz.prog 146 #[.agg #[.int .i64 x,.int .i64 y]] w fun e w'=>e=.returned (.tuple #[.int .i64 (fF x y),.bool (gY x y)])/\Below w.heap.size w w':=by
 have T0:Hid (zN x y x y 0):=⟨rfl,rfl,by omega,h0,hx,hy,by omega⟩
 have QB:=Lib.hid (q_bd x y 4294967296 h0 hx hy);have QT:=Lib.hid (ET x y);have K0:Hid (Nu w x y (w.alloc (.cells #[.int .i64 x,.int .i64 y] 159))):=(az w).new w.heap.size rfl 159 #[.int .i64 x,.int .i64 y];clear h0 hx hy;go_enter Tryz.func146,Tryz.ntmps146;go_wp2;go_loopw [4] (fun v4 wr=>∃ x' y' t,v4=.int .i64 t/\zN x y x' y' t/\Nu w x' y' wr) (fun v4 _=>(16200000-intOf v4).toNat)
 case atStart=>exact ⟨x,y,0,rfl,T0.out,K0.out⟩
 case round =>
  obtain ⟨x',y',t,rfl,hT,hK⟩:=hrel;have HT:=Lib.hid hT;have HK:=Lib.hid hK;clear hT hK K0 T0;have p0:=HK.out.c (g:=w.heap.size) (t:=159) (cs:=#[.int .i64 x',.int .i64 y']) (by simp) (i:=0) rfl
  have p1:=HK.out.c (g:=w.heap.size) (t:=159) (cs:=#[.int .i64 x',.int .i64 y']) (by simp) (i:=1) rfl
  by_cases hin:0<x'/\0<=y'
  . obtain ⟨hi1,hi2⟩:=hin;obtain ⟨qa,qb,qc⟩:=q_in x' y' ⟨hi1,hi2⟩
    have E:Hid (x'=qX x y/\y'=qY x y/\t=qT x y):=by
     obtain ⟨a,b,c,_⟩:=HT.out;exact ⟨by rw [<-a,qa],by rw [<-b,qb],by omega⟩
    have HX:Hid (0<=x'/\x'<=4294967296):=by have:=HT.out.2.2.2.2.1;exact ⟨by omega,by omega⟩
    have HY:Hid (0<=y'/\y'<=4294967296):=by have:=HT.out.2.2.2.2.2.1;exact ⟨by omega,by omega⟩
    have ht0:0<=t:=HT.out.2.2.2.2.2.2;have ht1:t<=16200000:=by have:=QT.out;have:=E.out;omega
    clear qa qb qc HT;go_wp2;clear p0 p1;go_loopw [5,6] (fun v5 v6 wr=>∃ lo hi:Nat,v5=.int .i64 (lo:Int)/\v6=.int .i64 (hi:Int)/\Ni x' y' lo hi/\Nu w x' y' wr) (fun v5 v6 _=>(intOf v6-intOf v5).toNat)
    case atStart=>exact ⟨0,5400000,rfl,rfl,GU x' y',HK.out⟩
    case round =>
     obtain ⟨lo,hi,rfl,rfl,hI,hK⟩:=hrel;have HI:=Lib.hid hI;have HK2:=Lib.hid hK;clear hI hK HK;have b1:lo<hi:=HI.out.1;have b2:hi<=5400000:=HI.out.2.1;have c1:(lo:Int)<(hi:Int):=by omega
     have c2:(hi:Int)<=5400000:=by omega
     have p0:=HK2.out.c (g:=w.heap.size) (t:=159) (cs:=#[.int .i64 x',.int .i64 y']) (by simp) (i:=0) rfl
     have p1:=HK2.out.c (g:=w.heap.size) (t:=159) (cs:=#[.int .i64 x',.int .i64 y']) (by simp) (i:=1) rfl
     by_cases hgo:lo+1<hi
     . have NX:=Lib.hid (LF HI.out hgo);have CR:=fun w=>Ir x' y' ((lo+hi)/2) w HX.out HY.out (by omega)
       have em:(((lo+hi)/2:Nat):Int)=((lo:Int)+(hi:Int))/2:=by omega
       have hm1:Hid (lo<(lo+hi)/2/\(lo+hi)/2<hi):=⟨by omega,by omega⟩
       have hgo':1<(hi:Int)-(lo:Int):=by omega
       clear HI hgo;cases hr:jS x' y' ((lo+hi)/2)
       . rw [hr] at CR NX;rw [em] at CR;replace CR:=Lib.hid CR;have EM:=Lib.hid em;clear em hr;go_wp2_with fail;refine (CR.out _).mono ?_;rintro e w1 ⟨rfl,hb⟩;have HK3:Hid (Nu w x' y' w1):=HK2.out.below hb;clear hb p0 p1 HK2 CR;go_wp2;go_light;exact ⟨⟨lo,(lo+hi)/2,rfl,by rw [EM.out],by have:=NX.out;simpa using this,HK3.out⟩,by simp only [intOf];have:=hm1.out;omega⟩
       . rw [hr] at CR NX;rw [em] at CR;replace CR:=Lib.hid CR;have EM:=Lib.hid em;clear em hr;go_wp2_with fail;refine (CR.out _).mono ?_;rintro e w1 ⟨rfl,hb⟩;have HK3:Hid (Nu w x' y' w1):=HK2.out.below hb;clear hb p0 p1 HK2 CR;go_wp2;go_light;exact ⟨⟨(lo+hi)/2,hi,by rw [EM.out],rfl,by have:=NX.out;simpa using this,HK3.out⟩,by simp only [intOf];have:=hm1.out;omega⟩
     . have hgo':¬ 1<(hi:Int)-(lo:Int):=by omega
       have hA:iH x y=lo:=by
        unfold iH;rw [<-E.out.1,<-E.out.2.1];exact Nn HI.out hgo
       have V:Hid (fF x y=t+(lo:Int)):=by unfold fF;rw [hA,<-E.out.2.2];exact rfl
       have VE:Hid (gY x y=((decide (lo=0)&&decide (y'=0)) || (decide (lo=2700000)&&decide (x'=y')))):=by unfold gY;rw [hA,<-E.out.1,<-E.out.2.1];exact rfl
       have HB:=Lib.hid HK2.out.1;clear HI hgo hA E HX HY QB QT HK2 b1 b2
       by_cases l0:lo=0
       . subst l0
         by_cases y0:y'=0
         . subst y0;go_wp2;go_quiet (fail);go_wp2;go_ret2;exact ⟨by rw [V.out,VE.out];simp,below_drewN HB.out _⟩
         . have hd1:(y'==0)=false:=by simpa using y0
           have hd2:decide (y'=0)=false:=by simpa using y0
           go_wp2;go_quiet (fail);go_wp2;go_ret2;exact ⟨by rw [V.out,VE.out];simp [y0],below_drewN HB.out _⟩
       . have hd1:((lo:Int)==0)=false:=by simpa using l0
         have hd2:decide ((lo:Int)=0)=false:=by simpa using l0
         by_cases l1:lo=2700000
         . subst l1
           by_cases y0:x'=y'
           . subst y0;go_wp2;go_quiet (fail);go_wp2;go_ret2;exact ⟨by rw [V.out,VE.out];simp,below_drewN HB.out _⟩
           . have hd3:(x'==y')=false:=by simpa using y0
             have hd4:decide (x'=y')=false:=by simpa using y0
             go_wp2;go_quiet (fail);go_wp2;go_ret2;exact ⟨by rw [V.out,VE.out];simp [y0],below_drewN HB.out _⟩
         . have hd3:((lo:Int)==2700000)=false:=by simp;omega
           have hd4:decide ((lo:Int)=2700000)=false:=by simp;omega
           go_wp2;go_quiet (fail);go_wp2;go_ret2;exact ⟨by rw [V.out,VE.out];simp [l0,l1],below_drewN HB.out _⟩
  . obtain ⟨NT,ht1⟩:=xC HT.out hin;have NT:=Lib.hid NT;have ht0:0<=t:=HT.out.2.2.2.2.2.2;have hx1:-4294967296<=x':=HT.out.2.2.2.2.1.1;have hx2:x'<=4294967296:=HT.out.2.2.2.2.1.2;have f0:=HK.out.f (g:=w.heap.size) (t:=159) (cs:=#[.int .i64 x',.int .i64 y']) (by simp) 0
    have f1:=HK.out.f (g:=w.heap.size) (t:=159) (cs:=#[.int .i64 x',.int .i64 y']) (by simp) 1
    have HK3:Hid (Nu w y' (-x') ((wr.setCell ⟨w.heap.size,0,none⟩ (.int .i64 y')).setCell ⟨w.heap.size,1,none⟩ (.int .i64 (-x')))) :=
     (HK.out.set (Nat.le_refl _) (by simp) 0 (.int .i64 y')).set (Nat.le_refl _) (by simp) 1 (.int .i64 (-x'))
    clear HT HK
    by_cases hx0:0<x'
    . have hy0:¬ 0<=y':=by omega
      clear hin;go_wp2;go_light;exact ⟨⟨y',-x',t+5400000,rfl,NT.out,HK3.out⟩,by simp only [intOf];omega⟩
    . clear hin;go_wp2;go_light;exact ⟨⟨y',-x',t+5400000,rfl,NT.out,HK3.out⟩,by simp only [intOf];omega⟩
