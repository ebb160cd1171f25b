/- The walk of package arctrig's circle at all angles, and of the comparison of a point's direction. -/
import Derived.Test.YtbcnifkfaknnaaaGreatZArcs
import Derived.Test.YtbcnifkfaknnaaaGreatZKp
import Derived.Deep.RegionHeld3
import Derived.Deep.Light
import Derived.Test.YtbcnifkfaknnaaaGreatZWides
import Derived.Deep.DeepCutAuto
set_option linter.unusedVariables false
set_option linter.unusedSimpArgs false
set_option maxRecDepth 100000
set_option maxHeartbeats 16000000
namespace Alm
def jy (x y:Int) (k:Nat):Bool:=decide (k=0) || (if k=2700000 then decide (x<=y) else decide (sN k*x.toNat<=cN k*y.toNat))
end Alm
namespace Go.Proofs.YtbcnifkfaknnaaaGreat
open Go.RowKit Alm
theorem zK (k:Nat) (w:World) (s0 s1 s2 s3 c0 c1 c2 c3:Int) (hk:2700000<(k:Int)) (hk2:(k:Int)<=5400000)
 (CL:Hid (∀ w,Calls Tryz.prog 83 #[.int .i64 (5400000-(k:Int))] w fun e w'=>e=.returned (.tuple #[.agg #[.int .u64 s0,.int .u64 s1,.int .u64 s2,.int .u64 s3],.agg #[.int .u64 c0,.int .u64 c1,.int .u64 c2,.int .u64 c3]])/\Below w.heap.size w w')) :
 Calls Tryz.prog 83 #[.int .i64 (k:Int)] w fun e w'=>e=.returned (.tuple #[.agg #[.int .u64 c0,.int .u64 c1,.int .u64 c2,.int .u64 c3],.agg #[.int .u64 s0,.int .u64 s1,.int .u64 s2,.int .u64 s3]])/\Below w.heap.size w w':=by
 have HZ:Hid (F4 ((w.alloc (.cells #[.int .u64 0,.int .u64 0,.int .u64 0,.int .u64 0] 106)).alloc (.cells #[.int .u64 0,.int .u64 0,.int .u64 0,.int .u64 0] 106)) w.heap.size (.int .u64 0) (.int .u64 0) (.int .u64 0) (.int .u64 0)/\F4 ((w.alloc (.cells #[.int .u64 0,.int .u64 0,.int .u64 0,.int .u64 0] 106)).alloc (.cells #[.int .u64 0,.int .u64 0,.int .u64 0,.int .u64 0] 106)) (w.heap.size+1) (.int .u64 0) (.int .u64 0) (.int .u64 0) (.int .u64 0)):=by
  refine ⟨(mI _ _ _ _ _ _).below (B:=w.heap.size+1) ((Below.refl _ _).alloc (by simp) _) (by omega),?_⟩
  have:=mI (w.alloc (.cells #[.int .u64 0,.int .u64 0,.int .u64 0,.int .u64 0] 106)) (.int .u64 0) (.int .u64 0) (.int .u64 0) (.int .u64 0) 106
  simpa using this
 go_enter Tryz.func83,Tryz.ntmps83;go_wp2_with fail;refine (CL.out _).mono ?_;rintro e w1 ⟨rfl,hb1⟩;have hB1:Below w.heap.size w w1:=(show Below w.heap.size w _ by go_grown).trans (hb1.mono (by simp;omega))
 have hr0:=HZ.out.1.below hb1 (by simp;omega)
 have hr1:=HZ.out.2.below hb1 (by simp)
 obtain ⟨⟨m0,m1,m2,m3⟩,f0,f1,f2,f3⟩:=hr0;obtain ⟨⟨n0,n1,n2,n3⟩,g0,g1,g2,g3⟩:=hr1
 have HX:Hid (Below w.heap.size w (W4 (W4 w1 (w.heap.size+1) (.int .u64 s0) (.int .u64 s1) (.int .u64 s2) (.int .u64 s3)) w.heap.size (.int .u64 c0) (.int .u64 c1) (.int .u64 c2) (.int .u64 c3))/\F4 (W4 (W4 w1 (w.heap.size+1) (.int .u64 s0) (.int .u64 s1) (.int .u64 s2) (.int .u64 s3)) w.heap.size (.int .u64 c0) (.int .u64 c1) (.int .u64 c2) (.int .u64 c3)) w.heap.size (.int .u64 c0) (.int .u64 c1) (.int .u64 c2) (.int .u64 c3)/\F4 (W4 (W4 w1 (w.heap.size+1) (.int .u64 s0) (.int .u64 s1) (.int .u64 s2) (.int .u64 s3)) w.heap.size (.int .u64 c0) (.int .u64 c1) (.int .u64 c2) (.int .u64 c3)) (w.heap.size+1) (.int .u64 s0) (.int .u64 s1) (.int .u64 s2) (.int .u64 s3)) :=
  ⟨Dl (Dl hB1 _ _ _ _ (by omega)) _ _ _ _ (by omega),((HZ.out.1.below hb1 (by simp;omega)).apart _ _ _ _ (by omega)).store _ _ _ _,((HZ.out.2.below hb1 (by simp)).store _ _ _ _).apart _ _ _ _ (by omega)⟩
 clear hb1 hB1 hk hk2;go_wp2;clear f0 f1 f2 f3 g0 g1 g2 g3 m0 m1 m2 m3 n0 n1 n2 n3;change Code.wp _ _ _ _ (W4 (W4 w1 (w.heap.size+1) (.int .u64 s0) (.int .u64 s1) (.int .u64 s2) (.int .u64 s3)) w.heap.size (.int .u64 c0) (.int .u64 c1) (.int .u64 c2) (.int .u64 c3));generalize W4 (W4 w1 (w.heap.size+1) (.int .u64 s0) (.int .u64 s1) (.int .u64 s2) (.int .u64 s3)) w.heap.size (.int .u64 c0) (.int .u64 c1) (.int .u64 c2) (.int .u64 c3)=wx at *
 have HB:=Lib.hid HX.out.1;obtain ⟨⟨m0,m1,m2,m3⟩,f0,f1,f2,f3⟩:=HX.out.2.1;obtain ⟨⟨n0,n1,n2,n3⟩,g0,g1,g2,g3⟩:=HX.out.2.2;clear HX HZ CL;go_region
 all_goals
  go_wp2;refine bodyPost_ret (v:=.tuple #[.agg #[.int .u64 c0,.int .u64 c1,.int .u64 c2,.int .u64 c3],.agg #[.int .u64 s0,.int .u64 s1,.int .u64 s2,.int .u64 s3]]) (by simp [results,Tryz.results83,go_sem,m0,m1,m2,m3,n0,n1,n2,n3]) rfl ⟨rfl,?_⟩
  have hb:=HB.out;go_grown
theorem DL (k:Nat) (w:World) (hk:2700000<k) (hk2:k<=5400000) :
 Calls Tryz.prog 83 #[.int .i64 (k:Int)] w fun e w'=>e=.returned (.tuple #[.agg #[.int .u64 (nl (qI (5400000-k)) 0),.int .u64 (nl (qI (5400000-k)) 1),.int .u64 (nl (qI (5400000-k)) 2),.int .u64 (nl (qI (5400000-k)) 3)],.agg #[.int .u64 (nl (qQ (5400000-k)) 0),.int .u64 (nl (qQ (5400000-k)) 1),.int .u64 (nl (qQ (5400000-k)) 2),.int .u64 (nl (qQ (5400000-k)) 3)]])/\Below w.heap.size w w':=by
 have CL:=fun w=>wL (5400000-k) w (by omega)
 rw [show ((5400000-k:Nat):Int)=5400000-(k:Int) by omega] at CL
 exact zK k w _ _ _ _ _ _ _ _ (by omega) (by omega) (Lib.hid CL)
theorem Ko (k:Nat) (w:World) (hk:k<=5400000) :
 Calls Tryz.prog 83 #[.int .i64 (k:Int)] w fun e w'=>e=.returned (.tuple #[.agg #[.int .u64 (nl (sN k) 0),.int .u64 (nl (sN k) 1),.int .u64 (nl (sN k) 2),.int .u64 (nl (sN k) 3)],.agg #[.int .u64 (nl (cN k) 0),.int .u64 (nl (cN k) 1),.int .u64 (nl (cN k) 2),.int .u64 (nl (cN k) 3)]])/\Below w.heap.size w w':=by
 unfold sN cN
 by_cases h:k<=2700000
 . rw [if_pos h,if_pos h];exact wL k w h
 . rw [if_neg h,if_neg h];exact DL k w (by omega) hk
theorem Ps (x y:Int) (w:World) :
 Calls Tryz.prog 70 #[.agg #[.int .i64 x,.int .i64 y],.int .i64 0] w fun e w'=>e=.returned (.bool true)/\Below w.heap.size w w':=by
 go_enter Tryz.func70,Tryz.ntmps70;go_wp2;go_ret;exact ⟨rfl,by go_grown⟩
theorem Jd (x y:Int) (w:World) :
 Calls Tryz.prog 70 #[.agg #[.int .i64 x,.int .i64 y],.int .i64 2700000] w fun e w'=>e=.returned (.bool (decide (x<=y)))/\Below w.heap.size w w':=by
 go_enter Tryz.func70,Tryz.ntmps70;go_wp2;go_ret;exact ⟨rfl,by go_grown⟩
theorem Er (x y:Int) (k:Nat) (w:World) (S0 S1 S2 S3 C0 C1 C2 C3 U0 U1 U2 U3 V0 V1 V2 V3:Int) (R:Bool) (hx:0<=x/\x<=4294967296) (hy:0<=y/\y<=4294967296) (h0:0<(k:Int)) (hk:(k:Int)<=5400000) (hm:(k:Int)≠2700000)
 (CC:Hid (∀ w,Calls Tryz.prog 83 #[.int .i64 (k:Int)] w fun e w'=>e=.returned (.tuple #[.agg #[.int .u64 S0,.int .u64 S1,.int .u64 S2,.int .u64 S3],.agg #[.int .u64 C0,.int .u64 C1,.int .u64 C2,.int .u64 C3]])/\Below w.heap.size w w'))
 (CT1:Hid (∀ w,Calls Tryz.prog 84 #[.agg #[.int .u64 C0,.int .u64 C1,.int .u64 C2,.int .u64 C3],.int .u64 y] w fun e w'=>e=.returned (.agg #[.int .u64 U0,.int .u64 U1,.int .u64 U2,.int .u64 U3])/\Below w.heap.size w w'))
 (CT2:Hid (∀ w,Calls Tryz.prog 84 #[.agg #[.int .u64 S0,.int .u64 S1,.int .u64 S2,.int .u64 S3],.int .u64 x] w fun e w'=>e=.returned (.agg #[.int .u64 V0,.int .u64 V1,.int .u64 V2,.int .u64 V3])/\Below w.heap.size w w'))
 (CLs:Hid (∀ w,Calls Tryz.prog 85 #[.agg #[.int .u64 U0,.int .u64 U1,.int .u64 U2,.int .u64 U3],.agg #[.int .u64 V0,.int .u64 V1,.int .u64 V2,.int .u64 V3]] w fun e w'=>e=.returned (.bool R)/\Below w.heap.size w w')) :
 Calls Tryz.prog 70 #[.agg #[.int .i64 x,.int .i64 y],.int .i64 (k:Int)] w fun e w'=>e=.returned (.bool (!R))/\Below w.heap.size w w':=by
 have K0:=Lib.hid ((fB w).new w.heap.size rfl 68 #[.int .i64 x,.int .i64 y]);have wx1:IntKind.u64.wrap x=x:=w64 x (by unfold U64;omega)
 have wy1:IntKind.u64.wrap y=y:=w64 y (by unfold U64;omega)
 have e0:((k:Int)==0)=false:=by simp;omega
 have e1:((k:Int)==2700000)=false:=by simp;omega
 have e2:¬ ((k:Int)=0):=by omega
 have e4:0<=(k:Int):=by omega
 clear h0 hx hy;go_enter Tryz.func70,Tryz.ntmps70;go_wp2_with fail;refine (CC.out _).mono ?_;rintro e w1 ⟨rfl,hb1⟩;have K1:=Lib.hid (((K0.out.below hb1).new w1.heap.size rfl 106 #[.int .u64 S0,.int .u64 S1,.int .u64 S2,.int .u64 S3]).new (w1.heap.size+1) (by simp) 106 #[.int .u64 C0,.int .u64 C1,.int .u64 C2,.int .u64 C3])
 clear hb1 K0 CC e0 e1 e2 e4 hm hk;go_wp2;generalize ((w1.alloc (.cells #[.int .u64 S0,.int .u64 S1,.int .u64 S2,.int .u64 S3] 106)).alloc (.cells #[.int .u64 C0,.int .u64 C1,.int .u64 C2,.int .u64 C3] 106))=wq at *
 generalize w1.heap.size=b5 at *
 have p0:=K1.out.c (g:=w.heap.size) (t:=68) (cs:=#[.int .i64 x,.int .i64 y]) (by simp) (i:=0) rfl
 have p1:=K1.out.c (g:=w.heap.size) (t:=68) (cs:=#[.int .i64 x,.int .i64 y]) (by simp) (i:=1) rfl
 have s0:=K1.out.c (g:=b5) (t:=106) (cs:=#[.int .u64 S0,.int .u64 S1,.int .u64 S2,.int .u64 S3]) (by simp) (i:=0) rfl
 have s1:=K1.out.c (g:=b5) (t:=106) (cs:=#[.int .u64 S0,.int .u64 S1,.int .u64 S2,.int .u64 S3]) (by simp) (i:=1) rfl
 have s2:=K1.out.c (g:=b5) (t:=106) (cs:=#[.int .u64 S0,.int .u64 S1,.int .u64 S2,.int .u64 S3]) (by simp) (i:=2) rfl
 have s3:=K1.out.c (g:=b5) (t:=106) (cs:=#[.int .u64 S0,.int .u64 S1,.int .u64 S2,.int .u64 S3]) (by simp) (i:=3) rfl
 have c0:=K1.out.c (g:=b5+1) (t:=106) (cs:=#[.int .u64 C0,.int .u64 C1,.int .u64 C2,.int .u64 C3]) (by simp) (i:=0) rfl
 have c1:=K1.out.c (g:=b5+1) (t:=106) (cs:=#[.int .u64 C0,.int .u64 C1,.int .u64 C2,.int .u64 C3]) (by simp) (i:=1) rfl
 have c2:=K1.out.c (g:=b5+1) (t:=106) (cs:=#[.int .u64 C0,.int .u64 C1,.int .u64 C2,.int .u64 C3]) (by simp) (i:=2) rfl
 have c3:=K1.out.c (g:=b5+1) (t:=106) (cs:=#[.int .u64 C0,.int .u64 C1,.int .u64 C2,.int .u64 C3]) (by simp) (i:=3) rfl
 go_region_held3 (fun w'=>w'.cell? ⟨w.heap.size,0,none⟩=some (.int .i64 x)/\w'.cell? ⟨w.heap.size,1,none⟩=some (.int .i64 y)/\w'.cell? ⟨b5,0,none⟩=some (.int .u64 S0)/\w'.cell? ⟨b5,1,none⟩=some (.int .u64 S1)/\w'.cell? ⟨b5,2,none⟩=some (.int .u64 S2)/\w'.cell? ⟨b5,3,none⟩=some (.int .u64 S3)/\w'.cell? ⟨b5+1,0,none⟩=some (.int .u64 C0)/\w'.cell? ⟨b5+1,1,none⟩=some (.int .u64 C1)/\w'.cell? ⟨b5+1,2,none⟩=some (.int .u64 C2)/\w'.cell? ⟨b5+1,3,none⟩=some (.int .u64 C3))
  (first|go_keep|(refine ⟨?_,?_,?_,?_,?_,?_,?_,?_,?_,?_⟩<;>assumption))
  (first
   | ((go_at_call 84;with_reducible refine (CT1.out _).mono ?_);rintro e w5 ⟨rfl,hb⟩;replace K1:=Lib.hid (K1.out.below (by first|exact hb|exact wY hb));clear hb p0 p1 s0 s1 s2 s3 c0 c1 c2 c3;have p0:=K1.out.c (g:=w.heap.size) (t:=68) (cs:=#[.int .i64 x,.int .i64 y]) (by simp) (i:=0) rfl;have p1:=K1.out.c (g:=w.heap.size) (t:=68) (cs:=#[.int .i64 x,.int .i64 y]) (by simp) (i:=1) rfl;have s0:=K1.out.c (g:=b5) (t:=106) (cs:=#[.int .u64 S0,.int .u64 S1,.int .u64 S2,.int .u64 S3]) (by simp) (i:=0) rfl;have s1:=K1.out.c (g:=b5) (t:=106) (cs:=#[.int .u64 S0,.int .u64 S1,.int .u64 S2,.int .u64 S3]) (by simp) (i:=1) rfl;have s2:=K1.out.c (g:=b5) (t:=106) (cs:=#[.int .u64 S0,.int .u64 S1,.int .u64 S2,.int .u64 S3]) (by simp) (i:=2) rfl;have s3:=K1.out.c (g:=b5) (t:=106) (cs:=#[.int .u64 S0,.int .u64 S1,.int .u64 S2,.int .u64 S3]) (by simp) (i:=3) rfl;have c0:=K1.out.c (g:=b5+1) (t:=106) (cs:=#[.int .u64 C0,.int .u64 C1,.int .u64 C2,.int .u64 C3]) (by simp) (i:=0) rfl;have c1:=K1.out.c (g:=b5+1) (t:=106) (cs:=#[.int .u64 C0,.int .u64 C1,.int .u64 C2,.int .u64 C3]) (by simp) (i:=1) rfl;have c2:=K1.out.c (g:=b5+1) (t:=106) (cs:=#[.int .u64 C0,.int .u64 C1,.int .u64 C2,.int .u64 C3]) (by simp) (i:=2) rfl;have c3:=K1.out.c (g:=b5+1) (t:=106) (cs:=#[.int .u64 C0,.int .u64 C1,.int .u64 C2,.int .u64 C3]) (by simp) (i:=3) rfl)
   | ((go_at_call 84;with_reducible refine (CT2.out _).mono ?_);rintro e w5 ⟨rfl,hb⟩;replace K1:=Lib.hid (K1.out.below (by first|exact hb|exact wY hb));clear hb p0 p1 s0 s1 s2 s3 c0 c1 c2 c3;have p0:=K1.out.c (g:=w.heap.size) (t:=68) (cs:=#[.int .i64 x,.int .i64 y]) (by simp) (i:=0) rfl;have p1:=K1.out.c (g:=w.heap.size) (t:=68) (cs:=#[.int .i64 x,.int .i64 y]) (by simp) (i:=1) rfl;have s0:=K1.out.c (g:=b5) (t:=106) (cs:=#[.int .u64 S0,.int .u64 S1,.int .u64 S2,.int .u64 S3]) (by simp) (i:=0) rfl;have s1:=K1.out.c (g:=b5) (t:=106) (cs:=#[.int .u64 S0,.int .u64 S1,.int .u64 S2,.int .u64 S3]) (by simp) (i:=1) rfl;have s2:=K1.out.c (g:=b5) (t:=106) (cs:=#[.int .u64 S0,.int .u64 S1,.int .u64 S2,.int .u64 S3]) (by simp) (i:=2) rfl;have s3:=K1.out.c (g:=b5) (t:=106) (cs:=#[.int .u64 S0,.int .u64 S1,.int .u64 S2,.int .u64 S3]) (by simp) (i:=3) rfl;have c0:=K1.out.c (g:=b5+1) (t:=106) (cs:=#[.int .u64 C0,.int .u64 C1,.int .u64 C2,.int .u64 C3]) (by simp) (i:=0) rfl;have c1:=K1.out.c (g:=b5+1) (t:=106) (cs:=#[.int .u64 C0,.int .u64 C1,.int .u64 C2,.int .u64 C3]) (by simp) (i:=1) rfl;have c2:=K1.out.c (g:=b5+1) (t:=106) (cs:=#[.int .u64 C0,.int .u64 C1,.int .u64 C2,.int .u64 C3]) (by simp) (i:=2) rfl;have c3:=K1.out.c (g:=b5+1) (t:=106) (cs:=#[.int .u64 C0,.int .u64 C1,.int .u64 C2,.int .u64 C3]) (by simp) (i:=3) rfl)
   | ((go_at_call 85;with_reducible refine (CLs.out _).mono ?_);rintro e w5 ⟨rfl,hb⟩;replace K1:=Lib.hid (K1.out.below (by first|exact hb|exact wY hb));clear hb p0 p1 s0 s1 s2 s3 c0 c1 c2 c3;have p0:=K1.out.c (g:=w.heap.size) (t:=68) (cs:=#[.int .i64 x,.int .i64 y]) (by simp) (i:=0) rfl;have p1:=K1.out.c (g:=w.heap.size) (t:=68) (cs:=#[.int .i64 x,.int .i64 y]) (by simp) (i:=1) rfl;have s0:=K1.out.c (g:=b5) (t:=106) (cs:=#[.int .u64 S0,.int .u64 S1,.int .u64 S2,.int .u64 S3]) (by simp) (i:=0) rfl;have s1:=K1.out.c (g:=b5) (t:=106) (cs:=#[.int .u64 S0,.int .u64 S1,.int .u64 S2,.int .u64 S3]) (by simp) (i:=1) rfl;have s2:=K1.out.c (g:=b5) (t:=106) (cs:=#[.int .u64 S0,.int .u64 S1,.int .u64 S2,.int .u64 S3]) (by simp) (i:=2) rfl;have s3:=K1.out.c (g:=b5) (t:=106) (cs:=#[.int .u64 S0,.int .u64 S1,.int .u64 S2,.int .u64 S3]) (by simp) (i:=3) rfl;have c0:=K1.out.c (g:=b5+1) (t:=106) (cs:=#[.int .u64 C0,.int .u64 C1,.int .u64 C2,.int .u64 C3]) (by simp) (i:=0) rfl;have c1:=K1.out.c (g:=b5+1) (t:=106) (cs:=#[.int .u64 C0,.int .u64 C1,.int .u64 C2,.int .u64 C3]) (by simp) (i:=1) rfl;have c2:=K1.out.c (g:=b5+1) (t:=106) (cs:=#[.int .u64 C0,.int .u64 C1,.int .u64 C2,.int .u64 C3]) (by simp) (i:=2) rfl;have c3:=K1.out.c (g:=b5+1) (t:=106) (cs:=#[.int .u64 C0,.int .u64 C1,.int .u64 C2,.int .u64 C3]) (by simp) (i:=3) rfl))
 all_goals
  go_wp2;go_ret;exact ⟨rfl,K1.out.1⟩
theorem JE (x y:Int) (k:Nat) (w:World) (hx:0<=x/\x<=4294967296) (hy:0<=y/\y<=4294967296) (h0:0<k) (hk:k<=5400000) (hm:k≠2700000) :
 Calls Tryz.prog 70 #[.agg #[.int .i64 x,.int .i64 y],.int .i64 (k:Int)] w fun e w'=>e=.returned (.bool (decide (sN k*x.toNat<=cN k*y.toNat)))/\Below w.heap.size w w':=by
 have hS:=YF k hk;have hC:=XK k hk;have hQ:=Jy
 have hCy:cN k*y.toNat<W:=by
  have h1:cN k*y.toNat<=QA*2^60:=Nat.mul_le_mul hC (by omega)
  omega
 have hSx:sN k*x.toNat<W:=by
  have h1:sN k*x.toNat<=QA*2^60:=Nat.mul_le_mul hS (by omega)
  omega
 have CC:=fun w=>Ko k w hk
 have CT1:=fun w=>vz (cN k) y (by omega) (by unfold U64;omega) hCy w
 have CT2:=fun w=>vz (sN k) x (by omega) (by unfold U64;omega) hSx w
 have CLs:=fun w=>QG (cN k*y.toNat) (sN k*x.toNat) hCy hSx w
 have hres:(!decide (cN k*y.toNat<sN k*x.toNat))=decide (sN k*x.toNat<=cN k*y.toNat):=by
  rw [Bool.eq_iff_iff];simp only [Bool.not_eq_true',decide_eq_false_iff_not,decide_eq_true_eq,Nat.not_lt]
 rw [<-hres];exact Er x y k w _ _ _ _ _ _ _ _ _ _ _ _ _ _ _ _ _ hx hy (by omega) (by omega) (by omega) (Lib.hid CC) (Lib.hid CT1) (Lib.hid CT2) (Lib.hid CLs)
theorem Eg (x y:Int) (k:Nat) (w:World) (hx:0<=x/\x<=4294967296) (hy:0<=y/\y<=4294967296) (hk:k<=5400000) :
 Calls Tryz.prog 70 #[.agg #[.int .i64 x,.int .i64 y],.int .i64 (k:Int)] w fun e w'=>e=.returned (.bool (jy x y k))/\Below w.heap.size w w':=by
 unfold jy
 by_cases h0:k=0
 . subst h0;exact Ps x y w
 . by_cases hm:k=2700000
   . subst hm;exact (Jd x y w).mono fun e w' ⟨he,hb⟩=>⟨by rw [he];exact dM (by simp),hb⟩
   . exact (JE x y k w hx hy (by omega) hk hm).mono fun e w' ⟨he,hb⟩=>⟨by rw [he];exact dM (by simp [h0,hm]),hb⟩
end Go.Proofs.YtbcnifkfaknnaaaGreat
namespace Alm
def qK (px py qx qy:Int):Bool:=decide (py*qx<=px*qy)
def qX (x y:Int):Int:=if 0<x/\0<=y then x else if 0<y then y else if x<0 then -x else -y
def qY (x y:Int):Int:=if 0<x/\0<=y then y else if 0<y then -x else if x<0 then -y else x
def qT (x y:Int):Int:=if 0<x/\0<=y then 0 else if 0<y then 5400000 else if x<0 then 10800000 else 16200000
theorem Ux (x y:Int) (h:¬ (0<x/\0<=y)) (h0:¬ (x=0/\y=0)):qX y (-x)=qX x y/\qY y (-x)=qY x y/\qT y (-x)+5400000=qT x y:=by
 unfold qX qY qT;refine ⟨?_,?_,?_⟩<;>(repeat' split)<;>omega
theorem H7 (x y:Int):0<=qT x y/\qT x y<=16200000/\(¬ (0<x/\0<=y)->5400000<=qT x y):=by
 unfold qT;(repeat' split)<;>omega
theorem q_in (x y:Int) (h:0<x/\0<=y):qX x y=x/\qY x y=y/\qT x y=0:=by
 unfold qX qY qT;simp [h]
theorem q_bd (x y M:Int) (h0:¬ (x=0/\y=0)) (hx:-M<=x/\x<=M) (hy:-M<=y/\y<=M):0<qX x y/\qX x y<=M/\0<=qY x y/\qY x y<=M:=by
 unfold qX qY;(repeat' split)<;>omega
def mU (x y:Int):Nat->Nat->Nat->Nat
 | 0,lo,_=>lo
 | f+1,lo,hi=>if lo+1<hi then (if jy x y ((lo+hi)/2) then mU x y f ((lo+hi)/2) hi else mU x y f lo ((lo+hi)/2)) else lo
theorem yE (x y:Int) (f lo hi:Nat):mU x y (f+1) lo hi=if lo+1<hi then (if jy x y ((lo+hi)/2) then mU x y f ((lo+hi)/2) hi else mU x y f lo ((lo+hi)/2)) else lo:=rfl
theorem Mq (x y:Int) (f lo hi:Nat) (h:¬ lo+1<hi):mU x y f lo hi=lo:=by
 cases f with
 | zero=>rfl
 | succ f=>simp only [mU];rw [if_neg h]
theorem Qj (x y:Int) (f lo hi:Nat) (h:lo<hi):lo<=mU x y f lo hi/\mU x y f lo hi<hi:=by
 induction f generalizing lo hi with
 | zero=>simp [mU];exact h
 | succ f ih =>
  simp only [mU];split
  . split
    . have:=ih ((lo+hi)/2) hi (by omega);omega
    . have:=ih lo ((lo+hi)/2) (by omega);omega
  . omega
def bQ (x y:Int):Nat:=mU (qX x y) (qY x y) 23 0 5400000
def aG (x y:Int):Int:=qT x y+(bQ x y:Int)
def fG (x y:Int):Bool:=(decide (bQ x y=0)&&decide (qY x y=0)) || (decide (bQ x y=2700000)&&decide (qX x y=qY x y))
def JZ (X Y:Int) (lo hi:Nat):Prop:=lo<hi/\hi<=5400000/\∃ f,hi-lo<=2^f/\mU X Y f lo hi=mU X Y 23 0 5400000
theorem Ex (X Y:Int):JZ X Y 0 5400000:=⟨by omega,by omega,23,by omega,rfl⟩
theorem J2 {X Y:Int} {lo hi:Nat} (h:JZ X Y lo hi) (h1:lo+1<hi):if jy X Y ((lo+hi)/2) then JZ X Y ((lo+hi)/2) hi else JZ X Y lo ((lo+hi)/2):=by
 obtain ⟨a,b,f,hf,he⟩:=h;cases f with
 | zero=>simp at hf;omega
 | succ f =>
  rw [Nat.pow_succ] at hf;rw [yE X Y f lo hi,if_pos h1] at he;cases hr:jy X Y ((lo+hi)/2)
  . rw [hr] at he;simp only [Bool.false_eq_true,if_false] at he ⊢
    exact ⟨by omega,by omega,f,by omega,he⟩
  . rw [hr] at he;simp only [if_true] at he ⊢
    exact ⟨by omega,by omega,f,by omega,he⟩
theorem Iz {X Y:Int} {lo hi:Nat} (h:JZ X Y lo hi) (h1:¬ lo+1<hi):mU X Y 23 0 5400000=lo:=by
 obtain ⟨a,b,f,hf,he⟩:=h;rw [<-he];exact Mq X Y f lo hi h1
def Gi (x y x' y' t:Int):Prop:=qX x' y'=qX x y/\qY x' y'=qY x y/\t+qT x' y'=qT x y/\¬ (x'=0/\y'=0)/\(-4294967296<=x'/\x'<=4294967296)/\(-4294967296<=y'/\y'<=4294967296)/\0<=t
theorem ED {x y x' y' t:Int} (h:Gi x y x' y' t) (hn:¬ (0<x'/\0<=y')):Gi x y y' (-x') (t+5400000)/\t<=10800000:=by
 obtain ⟨a,b,c,d,e,f,g⟩:=h;obtain ⟨q1,q2,q3⟩:=Ux x' y' hn d;have q4:=H7 x' y'
 have q5:=H7 x y;exact ⟨⟨q1.trans a,q2.trans b,by omega,by omega,by omega,by omega,by omega⟩,by have:=q4.2.2 hn;omega⟩
end Alm
namespace Go.Proofs.YtbcnifkfaknnaaaGreat
open Go.RowKit Alm
theorem G7 (x y A B:Int) (hx:-A<=x/\x<=A) (hy:-B<=y/\y<=B):-(A*B)<=x*y/\x*y<=A*B:=by
 have k1:=Int.mul_nonneg (show 0<=A-x by omega) (show 0<=B+y by omega)
 have k2:=Int.mul_nonneg (show 0<=A+x by omega) (show 0<=B-y by omega)
 have k3:=Int.mul_nonneg (show 0<=A-x by omega) (show 0<=B-y by omega)
 have k4:=Int.mul_nonneg (show 0<=A+x by omega) (show 0<=B+y by omega)
 constructor<;>grind
theorem BH (px py qx qy:Int) (w:World) (hp:(-2147483648<=px/\px<=2147483648)/\(-2147483648<=py/\py<=2147483648)) (hq:(-2147483648<=qx/\qx<=2147483648)/\(-2147483648<=qy/\qy<=2147483648)) :
 Calls Tryz.prog 40 #[.agg #[.int .i64 px,.int .i64 py],.agg #[.int .i64 qx,.int .i64 qy]] w fun e w'=>e=.returned (.bool (qK px py qx qy))/\Below w.heap.size w w':=by
 have m1:=G7 px qy 2147483648 2147483648 hp.1 hq.2;have m2:=G7 py qx 2147483648 2147483648 hp.2 hq.1;obtain ⟨a1,a2⟩:=m1;obtain ⟨a3,a4⟩:=m2;unfold qK;clear hp hq;go_enter Tryz.func40,Tryz.ntmps40;go_wp2;go_ret;exact ⟨rfl,by go_grown⟩
def IR (w:World) (X Y:Int) (wr:World):Prop:=KS w wr [(w.heap.size,68,#[.int .i64 X,.int .i64 Y])]
theorem Ia (x y:Int) (w:World) (hx:-4294967296<=x/\x<=4294967296) (hy:-4294967296<=y/\y<=4294967296) (h0:¬ (x=0/\y=0)) :
 Calls Tryz.prog 41 #[.agg #[.int .i64 x,.int .i64 y]] w fun e w'=>e=.returned (.tuple #[.int .i64 (aG x y),.bool (fG x y)])/\Below w.heap.size w w':=by
 have T0:Hid (Gi x y x y 0):=⟨rfl,rfl,by omega,h0,hx,hy,by omega⟩
 have QB:=Lib.hid (q_bd x y 4294967296 h0 hx hy);have QT:=Lib.hid (H7 x y);have K0:Hid (IR w x y (w.alloc (.cells #[.int .i64 x,.int .i64 y] 68))):=(fB w).new w.heap.size rfl 68 #[.int .i64 x,.int .i64 y];clear h0 hx hy;go_enter Tryz.func41,Tryz.ntmps41;go_wp2;go_loopw [4] (fun v4 wr=>∃ x' y' t,v4=.int .i64 t/\Gi x y x' y' t/\IR w x' y' wr) (fun v4 _=>(16200000-intOf v4).toNat)
 case atStart=>exact ⟨x,y,0,rfl,T0.out,K0.out⟩
 case round =>
  obtain ⟨x',y',t,rfl,hT,hK⟩:=hrel;have HT:=Lib.hid hT;have HK:=Lib.hid hK;clear hT hK K0 T0;have p0:=HK.out.c (g:=w.heap.size) (t:=68) (cs:=#[.int .i64 x',.int .i64 y']) (by simp) (i:=0) rfl
  have p1:=HK.out.c (g:=w.heap.size) (t:=68) (cs:=#[.int .i64 x',.int .i64 y']) (by simp) (i:=1) rfl
  by_cases hin:0<x'/\0<=y'
  . obtain ⟨hi1,hi2⟩:=hin;obtain ⟨qa,qb,qc⟩:=q_in x' y' ⟨hi1,hi2⟩
    have E:Hid (x'=qX x y/\y'=qY x y/\t=qT x y):=by
     obtain ⟨a,b,c,_⟩:=HT.out;exact ⟨by rw [<-a,qa],by rw [<-b,qb],by omega⟩
    have HX:Hid (0<=x'/\x'<=4294967296):=by have:=HT.out.2.2.2.2.1;exact ⟨by omega,by omega⟩
    have HY:Hid (0<=y'/\y'<=4294967296):=by have:=HT.out.2.2.2.2.2.1;exact ⟨by omega,by omega⟩
    have ht0:0<=t:=HT.out.2.2.2.2.2.2;have ht1:t<=16200000:=by have:=QT.out;have:=E.out;omega
    clear qa qb qc HT;go_wp2;clear p0 p1;go_loopw [5,6] (fun v5 v6 wr=>∃ lo hi:Nat,v5=.int .i64 (lo:Int)/\v6=.int .i64 (hi:Int)/\JZ x' y' lo hi/\IR w x' y' wr) (fun v5 v6 _=>(intOf v6-intOf v5).toNat)
    case atStart=>exact ⟨0,5400000,rfl,rfl,Ex x' y',HK.out⟩
    case round =>
     obtain ⟨lo,hi,rfl,rfl,hI,hK⟩:=hrel;have HI:=Lib.hid hI;have HK2:=Lib.hid hK;clear hI hK HK;have b1:lo<hi:=HI.out.1;have b2:hi<=5400000:=HI.out.2.1;have c1:(lo:Int)<(hi:Int):=by omega
     have c2:(hi:Int)<=5400000:=by omega
     have p0:=HK2.out.c (g:=w.heap.size) (t:=68) (cs:=#[.int .i64 x',.int .i64 y']) (by simp) (i:=0) rfl
     have p1:=HK2.out.c (g:=w.heap.size) (t:=68) (cs:=#[.int .i64 x',.int .i64 y']) (by simp) (i:=1) rfl
     by_cases hgo:lo+1<hi
     . have NX:=Lib.hid (J2 HI.out hgo);have CR:=fun w=>Eg x' y' ((lo+hi)/2) w HX.out HY.out (by omega)
       have em:(((lo+hi)/2:Nat):Int)=((lo:Int)+(hi:Int))/2:=by omega
       have hm1:Hid (lo<(lo+hi)/2/\(lo+hi)/2<hi):=⟨by omega,by omega⟩
       have hgo':1<(hi:Int)-(lo:Int):=by omega
       clear HI hgo;cases hr:jy x' y' ((lo+hi)/2)
       . rw [hr] at CR NX;rw [em] at CR;replace CR:=Lib.hid CR;have EM:=Lib.hid em;clear em hr;go_wp2_with fail;refine (CR.out _).mono ?_;rintro e w1 ⟨rfl,hb⟩;have HK3:Hid (IR w x' y' w1):=HK2.out.below hb;clear hb p0 p1 HK2 CR;go_wp2;go_light;exact ⟨⟨lo,(lo+hi)/2,rfl,by rw [EM.out],by have:=NX.out;simpa using this,HK3.out⟩,by simp only [intOf];have:=hm1.out;omega⟩
       . rw [hr] at CR NX;rw [em] at CR;replace CR:=Lib.hid CR;have EM:=Lib.hid em;clear em hr;go_wp2_with fail;refine (CR.out _).mono ?_;rintro e w1 ⟨rfl,hb⟩;have HK3:Hid (IR w x' y' w1):=HK2.out.below hb;clear hb p0 p1 HK2 CR;go_wp2;go_light;exact ⟨⟨(lo+hi)/2,hi,by rw [EM.out],rfl,by have:=NX.out;simpa using this,HK3.out⟩,by simp only [intOf];have:=hm1.out;omega⟩
     . have hgo':¬ 1<(hi:Int)-(lo:Int):=by omega
       have hA:bQ x y=lo:=by
        unfold bQ;rw [<-E.out.1,<-E.out.2.1];exact Iz HI.out hgo
       have V:Hid (aG x y=t+(lo:Int)):=by unfold aG;rw [hA,<-E.out.2.2];exact rfl
       have VE:Hid (fG x y=((decide (lo=0)&&decide (y'=0)) || (decide (lo=2700000)&&decide (x'=y')))):=by unfold fG;rw [hA,<-E.out.1,<-E.out.2.1];exact rfl
       have HB:=Lib.hid HK2.out.1;clear HI hgo hA E HX HY QB QT HK2 b1 b2
       by_cases l0:lo=0
       . subst l0
         by_cases y0:y'=0
         . subst y0;go_wp2;go_quiet (fail);go_wp2;go_ret2;exact ⟨by rw [V.out,VE.out];simp,below_drewN HB.out _⟩
         . have hd1:(y'==0)=false:=by simpa using y0
           have hd2:decide (y'=0)=false:=by simpa using y0
           go_wp2;go_quiet (fail);go_wp2;go_ret2;exact ⟨by rw [V.out,VE.out];simp [y0],below_drewN HB.out _⟩
       . have hd1:((lo:Int)==0)=false:=by simpa using l0
         have hd2:decide ((lo:Int)=0)=false:=by simpa using l0
         by_cases l1:lo=2700000
         . subst l1
           by_cases y0:x'=y'
           . subst y0;go_wp2;go_quiet (fail);go_wp2;go_ret2;exact ⟨by rw [V.out,VE.out];simp,below_drewN HB.out _⟩
           . have hd3:(x'==y')=false:=by simpa using y0
             have hd4:decide (x'=y')=false:=by simpa using y0
             go_wp2;go_quiet (fail);go_wp2;go_ret2;exact ⟨by rw [V.out,VE.out];simp [y0],below_drewN HB.out _⟩
         . have hd3:((lo:Int)==2700000)=false:=by simp;omega
           have hd4:decide ((lo:Int)=2700000)=false:=by simp;omega
           go_wp2;go_quiet (fail);go_wp2;go_ret2;exact ⟨by rw [V.out,VE.out];simp [l0,l1],below_drewN HB.out _⟩
  . obtain ⟨NT,ht1⟩:=ED HT.out hin;have NT:=Lib.hid NT;have ht0:0<=t:=HT.out.2.2.2.2.2.2;have hx1:-4294967296<=x':=HT.out.2.2.2.2.1.1;have hx2:x'<=4294967296:=HT.out.2.2.2.2.1.2;have f0:=HK.out.f (g:=w.heap.size) (t:=68) (cs:=#[.int .i64 x',.int .i64 y']) (by simp) 0
    have f1:=HK.out.f (g:=w.heap.size) (t:=68) (cs:=#[.int .i64 x',.int .i64 y']) (by simp) 1
    have HK3:Hid (IR w y' (-x') ((wr.setCell ⟨w.heap.size,0,none⟩ (.int .i64 y')).setCell ⟨w.heap.size,1,none⟩ (.int .i64 (-x')))) :=
     (HK.out.set (Nat.le_refl _) (by simp) 0 (.int .i64 y')).set (Nat.le_refl _) (by simp) 1 (.int .i64 (-x'))
    clear HT HK
    by_cases hx0:0<x'
    . have hy0:¬ 0<=y':=by omega
      clear hin;go_wp2;go_light;exact ⟨⟨y',-x',t+5400000,rfl,NT.out,HK3.out⟩,by simp only [intOf];omega⟩
    . clear hin;go_wp2;go_light;exact ⟨⟨y',-x',t+5400000,rfl,NT.out,HK3.out⟩,by simp only [intOf];omega⟩
end Go.Proofs.YtbcnifkfaknnaaaGreat
namespace Alm
def cX (xl xh:Int) (k:Nat):Int:=if k<2 then xl else xh
def cY (yl yh:Int) (k:Nat):Int:=if k%2=0 then yl else yh
def aL (xl xh yl yh:Int):Nat->Int × Int
 | 0=>(xl,yl)
 | k+1=>if qK (cX xl xh k) (cY yl yh k) (aL xl xh yl yh k).1 (aL xl xh yl yh k).2 then (cX xl xh k,cY yl yh k) else aL xl xh yl yh k
def aQ (xl xh yl yh:Int):Nat->Int × Int
 | 0=>(xl,yl)
 | k+1=>if qK (aQ xl xh yl yh k).1 (aQ xl xh yl yh k).2 (cX xl xh k) (cY yl yh k) then (cX xl xh k,cY yl yh k) else aQ xl xh yl yh k
def dX (yl yh xl xh:Int):Bool:=decide (xl<=0/\0<=xh/\yl<=0/\0<=yh)
def aT (yl yh xl xh:Int):Int:=if dX yl yh xl xh then 0 else aG (aL xl xh yl yh 4).1 (aL xl xh yl yh 4).2
def upE (lo hi:Int) (e:Bool):Int:=(if hi<lo then hi+21600000 else hi)+if e then 0 else 1
def bi (yl yh xl xh:Int):Int:=if dX yl yh xl xh then 21600000 else upE (aT yl yh xl xh) (aG (aQ xl xh yl yh 4).1 (aQ xl xh yl yh 4).2) (fG (aQ xl xh yl yh 4).1 (aQ xl xh yl yh 4).2)
theorem iw (xl xh yl yh:Int) (k:Nat):((aL xl xh yl yh k).1=xl∨(aL xl xh yl yh k).1=xh)/\((aL xl xh yl yh k).2=yl∨(aL xl xh yl yh k).2=yh):=by
 induction k with
 | zero=>simp [aL]
 | succ k ih =>
  simp only [aL];split
  . simp only [cX,cY];constructor<;>split<;>simp
  . exact ih
theorem jl (xl xh yl yh:Int) (k:Nat):((aQ xl xh yl yh k).1=xl∨(aQ xl xh yl yh k).1=xh)/\((aQ xl xh yl yh k).2=yl∨(aQ xl xh yl yh k).2=yh):=by
 induction k with
 | zero=>simp [aQ]
 | succ k ih =>
  simp only [aQ];split
  . simp only [cX,cY];constructor<;>split<;>simp
  . exact ih
theorem jg (x y:Int):0<=aG x y/\aG x y<=21599999:=by
 have h1:=H7 x y;have h2:=Qj (qX x y) (qY x y) 23 0 5400000 (by omega)
 unfold aG bQ;omega
end Alm
namespace Go.Proofs.YtbcnifkfaknnaaaGreat
open Go.RowKit Alm
def FY (w wr:World) (b7 b8:Nat) (f l:Int × Int):Prop:=KS w wr [(b7,68,#[.int .i64 f.1,.int .i64 f.2]),(b8,68,#[.int .i64 l.1,.int .i64 l.2]),(w.heap.size+1+1,27,#[.int .i64 0,.int .i64 0])]
def XH (xl xh yl yh:Int) (w:World) (bc:Nat) (s7 s8:Value) (wy:World):Prop :=
 ∃ b7 b8:Nat,s7=.pointer (some ⟨b7,0,none⟩)/\s8=.pointer (some ⟨b8,0,none⟩)/\b7≠b8/\w.heap.size+3<=b7/\w.heap.size+3<=b8/\KS w wy [(b7,68,#[.int .i64 xl,.int .i64 yl]),(b8,68,#[.int .i64 xl,.int .i64 yl]),(bc,69,#[.int .i64 xl,.int .i64 yl,.int .i64 xl,.int .i64 yh,.int .i64 xh,.int .i64 yl,.int .i64 xh,.int .i64 yh]),(w.heap.size+1+1,27,#[.int .i64 0,.int .i64 0])]
theorem J4 (xl xh yl yh:Int) (k:Nat) (hk:k<4):∀ w,(Instr.index 69 (.agg #[.int .i64 xl,.int .i64 yl,.int .i64 xl,.int .i64 yh,.int .i64 xh,.int .i64 yl,.int .i64 xh,.int .i64 yh]) (.int .i64 (k:Int))).run Tryz.prog w=.ok (.agg #[.int .i64 (cX xl xh k),.int .i64 (cY yl yh k)]) w:=by
 have:k=0∨k=1∨k=2∨k=3:=by omega
 rcases this with rfl|rfl|rfl|rfl<;>intro w<;>kernel_rfl
theorem Rn {lo hi:Int} (h:fxV lo hi=true):-2147483648<=lo/\lo<=hi/\hi<=2147483648:=by unfold fxV at h;simpa using h
theorem Qz (yl yh xl xh:Int) (w:World) (hy:fxV yl yh=true) (hx:fxV xl xh=true) (h1:xl<=0) (h2:0<=xh) (h3:yl<=0) (h4:0<=yh) :
 Calls Tryz.prog 19 #[.agg #[.int .i64 yl,.int .i64 yh],.agg #[.int .i64 xl,.int .i64 xh]] w fun e w'=>e=.returned (.tuple #[.agg #[.int .i64 0,.int .i64 21600000],.int .i64 0])/\Below w.heap.size w w':=by
 have C1:=fun w=>jD xl xh w
 have C2:=fun w=>jD yl yh w
 rw [hx] at C1;rw [hy] at C2;replace C1:=Lib.hid C1;replace C2:=Lib.hid C2;have K0:=Lib.hid ((((fB w).new w.heap.size rfl 46 #[.int .i64 yl,.int .i64 yh]).new (w.heap.size+1) (by simp) 46 #[.int .i64 xl,.int .i64 xh]).new (w.heap.size+1+1) (by simp) 27 #[.int .i64 0,.int .i64 0])
 clear hx hy;go_enter Tryz.func19,Tryz.ntmps19;go_wp2_with fail;refine (C1.out _).mono ?_;rintro e w1 ⟨rfl,hb1⟩;have K1:=Lib.hid (K0.out.below hb1);clear hb1 K0;have a0:=K1.out.c (g:=w.heap.size) (t:=46) (cs:=#[.int .i64 yl,.int .i64 yh]) (by simp) (i:=0) rfl
 have a1:=K1.out.c (g:=w.heap.size) (t:=46) (cs:=#[.int .i64 yl,.int .i64 yh]) (by simp) (i:=1) rfl
 go_wp2_with fail;refine (C2.out _).mono ?_;rintro e w2 ⟨rfl,hb1⟩;have K2:=Lib.hid (K1.out.below hb1);clear hb1 K1 a0 a1;have a0:=K2.out.c (g:=w.heap.size) (t:=46) (cs:=#[.int .i64 yl,.int .i64 yh]) (by simp) (i:=0) rfl
 have a1:=K2.out.c (g:=w.heap.size) (t:=46) (cs:=#[.int .i64 yl,.int .i64 yh]) (by simp) (i:=1) rfl
 have b0:=K2.out.c (g:=w.heap.size+1) (t:=46) (cs:=#[.int .i64 xl,.int .i64 xh]) (by simp) (i:=0) rfl
 have b1:=K2.out.c (g:=w.heap.size+1) (t:=46) (cs:=#[.int .i64 xl,.int .i64 xh]) (by simp) (i:=1) rfl
 have r0:=K2.out.c (g:=w.heap.size+1+1) (t:=27) (cs:=#[.int .i64 0,.int .i64 0]) (by simp) (i:=0) rfl
 have fr0:=K2.out.f (g:=w.heap.size+1+1) (t:=27) (cs:=#[.int .i64 0,.int .i64 0]) (by simp) 0
 have r1:=K2.out.c (g:=w.heap.size+1+1) (t:=27) (cs:=#[.int .i64 0,.int .i64 0]) (by simp) (i:=1) rfl
 have fr1:=K2.out.f (g:=w.heap.size+1+1) (t:=27) (cs:=#[.int .i64 0,.int .i64 0]) (by simp) 1
 have HB:=Lib.hid K2.out.1;go_wp2;refine bodyPost_ret (v:=.tuple #[.agg #[.int .i64 0,.int .i64 21600000],.int .i64 0]) (by simp [results,Tryz.results19,go_sem,r0,r1]) rfl ⟨rfl,?_⟩
 have hb:=HB.out;go_grown
theorem MH (yl yh xl xh:Int) (w:World) (hy:fxV yl yh=true) (hx:fxV xl xh=true) (ho:¬ (xl<=0/\0<=xh/\yl<=0/\0<=yh)) :
 Calls Tryz.prog 19 #[.agg #[.int .i64 yl,.int .i64 yh],.agg #[.int .i64 xl,.int .i64 xh]] w fun e w'=>e=.returned (.tuple #[.agg #[.int .i64 (aT yl yh xl xh),.int .i64 (bi yl yh xl xh)],.int .i64 0])/\Below w.heap.size w w':=by
 have C1:=fun w=>jD xl xh w
 have C2:=fun w=>jD yl yh w
 rw [hx] at C1;rw [hy] at C2;replace C1:=Lib.hid C1;replace C2:=Lib.hid C2;have HXB:=Lib.hid (Rn hx);have HYB:=Lib.hid (Rn hy);have HO:=Lib.hid ho;have EL:Hid (aT yl yh xl xh=aG (aL xl xh yl yh 4).1 (aL xl xh yl yh 4).2):=Lib.hid (by unfold aT dX;rw [if_neg (by simpa using ho)])
 have EH:Hid (bi yl yh xl xh=upE (aT yl yh xl xh) (aG (aQ xl xh yl yh 4).1 (aQ xl xh yl yh 4).2) (fG (aQ xl xh yl yh 4).1 (aQ xl xh yl yh 4).2)):=Lib.hid (by unfold bi dX;rw [if_neg (by simpa using ho)])
 have K0:=Lib.hid ((((fB w).new w.heap.size rfl 46 #[.int .i64 yl,.int .i64 yh]).new (w.heap.size+1) (by simp) 46 #[.int .i64 xl,.int .i64 xh]).new (w.heap.size+1+1) (by simp) 27 #[.int .i64 0,.int .i64 0])
 clear hx hy ho;go_enter Tryz.func19,Tryz.ntmps19;go_wp2_with fail;refine (C1.out _).mono ?_;rintro e w1 ⟨rfl,hb1⟩;have K1:=Lib.hid (K0.out.below hb1);clear hb1 K0;have a0:=K1.out.c (g:=w.heap.size) (t:=46) (cs:=#[.int .i64 yl,.int .i64 yh]) (by simp) (i:=0) rfl
 have a1:=K1.out.c (g:=w.heap.size) (t:=46) (cs:=#[.int .i64 yl,.int .i64 yh]) (by simp) (i:=1) rfl
 go_wp2_with fail;refine (C2.out _).mono ?_;rintro e w2 ⟨rfl,hb1⟩;have K2:=Lib.hid (K1.out.below hb1);clear hb1 K1 a0 a1;have a0:=K2.out.c (g:=w.heap.size) (t:=46) (cs:=#[.int .i64 yl,.int .i64 yh]) (by simp) (i:=0) rfl
 have a1:=K2.out.c (g:=w.heap.size) (t:=46) (cs:=#[.int .i64 yl,.int .i64 yh]) (by simp) (i:=1) rfl
 have b0:=K2.out.c (g:=w.heap.size+1) (t:=46) (cs:=#[.int .i64 xl,.int .i64 xh]) (by simp) (i:=0) rfl
 have b1:=K2.out.c (g:=w.heap.size+1) (t:=46) (cs:=#[.int .i64 xl,.int .i64 xh]) (by simp) (i:=1) rfl
 go_upto_region 3 with (fail)
 go_cut [41] (fun s wx=>s=.bool false/\wx=w2)
 case first =>
  have ho:=HO.out;have hb1:=HXB.out;have hb2:=HYB.out;go_wp2_with fail
  all_goals (go_meet;refine ⟨?_,rfl⟩;first|rfl|(exfalso;omega)|(simp;omega))
 case rest =>
  obtain ⟨rfl,h⟩:=hcut;have h':=h.symm;clear h;subst h'
  have KR:Hid (w.heap.size+1+1<w2.heap.size):=K2.out.lt (g:=w.heap.size+1+1) (t:=27) (cs:=#[.int .i64 0,.int .i64 0]) (by simp)
  have KC:=Lib.hid ((K2.out.new _ rfl 69 #[.int .i64 xl,.int .i64 yl,.int .i64 xl,.int .i64 yh,.int .i64 xh,.int .i64 yl,.int .i64 xh,.int .i64 yh]));go_upto_region 6 with (fail)
  clear a0 a1 b0 b1;have c0:=KC.out.c (g:=w2.heap.size) (t:=69) (cs:=#[.int .i64 xl,.int .i64 yl,.int .i64 xl,.int .i64 yh,.int .i64 xh,.int .i64 yl,.int .i64 xh,.int .i64 yh]) (by simp) (i:=0) rfl
  have c1:=KC.out.c (g:=w2.heap.size) (t:=69) (cs:=#[.int .i64 xl,.int .i64 yl,.int .i64 xl,.int .i64 yh,.int .i64 xh,.int .i64 yl,.int .i64 xh,.int .i64 yh]) (by simp) (i:=1) rfl
  have c2:=KC.out.c (g:=w2.heap.size) (t:=69) (cs:=#[.int .i64 xl,.int .i64 yl,.int .i64 xl,.int .i64 yh,.int .i64 xh,.int .i64 yl,.int .i64 xh,.int .i64 yh]) (by simp) (i:=2) rfl
  have c3:=KC.out.c (g:=w2.heap.size) (t:=69) (cs:=#[.int .i64 xl,.int .i64 yl,.int .i64 xl,.int .i64 yh,.int .i64 xh,.int .i64 yl,.int .i64 xh,.int .i64 yh]) (by simp) (i:=3) rfl
  have c4:=KC.out.c (g:=w2.heap.size) (t:=69) (cs:=#[.int .i64 xl,.int .i64 yl,.int .i64 xl,.int .i64 yh,.int .i64 xh,.int .i64 yl,.int .i64 xh,.int .i64 yh]) (by simp) (i:=4) rfl
  have c5:=KC.out.c (g:=w2.heap.size) (t:=69) (cs:=#[.int .i64 xl,.int .i64 yl,.int .i64 xl,.int .i64 yh,.int .i64 xh,.int .i64 yl,.int .i64 xh,.int .i64 yh]) (by simp) (i:=5) rfl
  have c6:=KC.out.c (g:=w2.heap.size) (t:=69) (cs:=#[.int .i64 xl,.int .i64 yl,.int .i64 xl,.int .i64 yh,.int .i64 xh,.int .i64 yl,.int .i64 xh,.int .i64 yh]) (by simp) (i:=6) rfl
  have c7:=KC.out.c (g:=w2.heap.size) (t:=69) (cs:=#[.int .i64 xl,.int .i64 yl,.int .i64 xl,.int .i64 yh,.int .i64 xh,.int .i64 yl,.int .i64 xh,.int .i64 yh]) (by simp) (i:=7) rfl
  go_cut [7,8] (fun s7 s8 wy=>XH xl xh yl yh w w2.heap.size s7 s8 wy)
  case first =>
   go_region
   all_goals (go_wp2_with fail)
   all_goals go_meet
   all_goals (first
    | exact ⟨w2.heap.size+1,w2.heap.size+1+1,rfl,rfl,by omega,by have:=KR.out;omega,by have:=KR.out;omega,(((KC.out.new (w2.heap.size+1) (by simp) 68 #[.int .i64 xl,.int .i64 yl]).new (w2.heap.size+1+1) (by simp) 68 #[.int .i64 xl,.int .i64 yl]).drew.sub (by intro q hq;simp at hq ⊢;rcases hq with rfl|rfl|rfl|rfl<;>simp))⟩
    | exact ⟨w2.heap.size+1+1,w2.heap.size+1,rfl,rfl,by omega,by have:=KR.out;omega,by have:=KR.out;omega,(((KC.out.new (w2.heap.size+1) (by simp) 68 #[.int .i64 xl,.int .i64 yl]).new (w2.heap.size+1+1) (by simp) 68 #[.int .i64 xl,.int .i64 yl]).drew.sub (by intro q hq;simp at hq ⊢;rcases hq with rfl|rfl|rfl|rfl<;>simp))⟩
    | skip)
  case rest =>
   obtain ⟨b7,b8,rfl,rfl,hne,h7,h8,hK⟩:=hcut;have KB:=Lib.hid hK;clear hK c0 c1 c2 c3 c4 c5 c6 c7 KC K2;have c0:=KB.out.c (g:=w2.heap.size) (t:=69) (cs:=#[.int .i64 xl,.int .i64 yl,.int .i64 xl,.int .i64 yh,.int .i64 xh,.int .i64 yl,.int .i64 xh,.int .i64 yh]) (by simp) (i:=0) rfl
   have c1:=KB.out.c (g:=w2.heap.size) (t:=69) (cs:=#[.int .i64 xl,.int .i64 yl,.int .i64 xl,.int .i64 yh,.int .i64 xh,.int .i64 yl,.int .i64 xh,.int .i64 yh]) (by simp) (i:=1) rfl
   have c2:=KB.out.c (g:=w2.heap.size) (t:=69) (cs:=#[.int .i64 xl,.int .i64 yl,.int .i64 xl,.int .i64 yh,.int .i64 xh,.int .i64 yl,.int .i64 xh,.int .i64 yh]) (by simp) (i:=2) rfl
   have c3:=KB.out.c (g:=w2.heap.size) (t:=69) (cs:=#[.int .i64 xl,.int .i64 yl,.int .i64 xl,.int .i64 yh,.int .i64 xh,.int .i64 yl,.int .i64 xh,.int .i64 yh]) (by simp) (i:=3) rfl
   have c4:=KB.out.c (g:=w2.heap.size) (t:=69) (cs:=#[.int .i64 xl,.int .i64 yl,.int .i64 xl,.int .i64 yh,.int .i64 xh,.int .i64 yl,.int .i64 xh,.int .i64 yh]) (by simp) (i:=4) rfl
   have c5:=KB.out.c (g:=w2.heap.size) (t:=69) (cs:=#[.int .i64 xl,.int .i64 yl,.int .i64 xl,.int .i64 yh,.int .i64 xh,.int .i64 yl,.int .i64 xh,.int .i64 yh]) (by simp) (i:=5) rfl
   have c6:=KB.out.c (g:=w2.heap.size) (t:=69) (cs:=#[.int .i64 xl,.int .i64 yl,.int .i64 xl,.int .i64 yh,.int .i64 xh,.int .i64 yl,.int .i64 xh,.int .i64 yh]) (by simp) (i:=6) rfl
   have c7:=KB.out.c (g:=w2.heap.size) (t:=69) (cs:=#[.int .i64 xl,.int .i64 yl,.int .i64 xl,.int .i64 yh,.int .i64 xh,.int .i64 yl,.int .i64 xh,.int .i64 yh]) (by simp) (i:=7) rfl
   have KL:=Lib.hid (KB.out.sub (l':=[(b7,68,#[.int .i64 xl,.int .i64 yl]),(b8,68,#[.int .i64 xl,.int .i64 yl]),(w.heap.size+1+1,27,#[.int .i64 0,.int .i64 0])]) (by intro q hq;simp at hq ⊢;rcases hq with rfl|rfl|rfl<;>simp))
   go_wp2;clear c0 c1 c2 c3 c4 c5 c6 c7 KB;go_loopw [69] (fun v wr=>∃ k:Nat,v=.int .i64 (k:Int)/\k<=4/\FY w wr b7 b8 (aL xl xh yl yh k) (aQ xl xh yl yh k)) (fun v _=>(4-intOf v).toNat)
   case atStart=>exact ⟨0,rfl,by omega,KL.out⟩
   case round =>
    obtain ⟨k,rfl,hk,hW⟩:=hrel;have HW:=Lib.hid hW;clear hW KL
    by_cases hl:k<4
    . have hl':(k:Int)<4:=by omega
      have IX:=J4 xl xh yl yh k hl;have FI:=iw xl xh yl yh k;have LI:=jl xl xh yl yh k;have FS:aL xl xh yl yh (k+1)=if qK (cX xl xh k) (cY yl yh k) (aL xl xh yl yh k).1 (aL xl xh yl yh k).2 then (cX xl xh k,cY yl yh k) else aL xl xh yl yh k:=rfl
      have LS:aQ xl xh yl yh (k+1)=if qK (aQ xl xh yl yh k).1 (aQ xl xh yl yh k).2 (cX xl xh k) (cY yl yh k) then (cX xl xh k,cY yl yh k) else aQ xl xh yl yh k:=rfl
      have CB:((-2147483648<=cX xl xh k/\cX xl xh k<=2147483648)/\(-2147483648<=cY yl yh k/\cY yl yh k<=2147483648)):=by
       have:=HXB.out;have:=HYB.out;unfold cX cY;split<;>split<;>omega
      have FB:((-2147483648<=(aL xl xh yl yh k).1/\(aL xl xh yl yh k).1<=2147483648)/\(-2147483648<=(aL xl xh yl yh k).2/\(aL xl xh yl yh k).2<=2147483648)):=by
       have:=HXB.out;have:=HYB.out;omega
      have LB:((-2147483648<=(aQ xl xh yl yh k).1/\(aQ xl xh yl yh k).1<=2147483648)/\(-2147483648<=(aQ xl xh yl yh k).2/\(aQ xl xh yl yh k).2<=2147483648)):=by
       have:=HXB.out;have:=HYB.out;omega
      have D1:=fun w=>BH (cX xl xh k) (cY yl yh k) (aL xl xh yl yh k).1 (aL xl xh yl yh k).2 w CB FB
      have D2:=fun w=>BH (aQ xl xh yl yh k).1 (aQ xl xh yl yh k).2 (cX xl xh k) (cY yl yh k) w LB CB
      have EK:Hid (FY w wr b7 b8 (aL xl xh yl yh k) (aQ xl xh yl yh k)->True):=fun _=>trivial
      have GOAL:Hid (∀ wz,FY w wz b7 b8 (aL xl xh yl yh (k+1)) (aQ xl xh yl yh (k+1))->(∃ k':Nat,Value.int .i64 ((k:Int)+1)=.int .i64 (k':Int)/\k'<=4/\FY w wz b7 b8 (aL xl xh yl yh k') (aQ xl xh yl yh k'))/\(4-intOf (Value.int .i64 ((k:Int)+1))).toNat<(4-intOf (Value.int .i64 (k:Int))).toNat) :=
       fun wz h=>⟨⟨k+1,by rw [show ((k+1:Nat):Int)=(k:Int)+1 by omega],by omega,h⟩,by simp only [intOf];omega⟩
      clear CB FB LB FI LI EK;generalize aL xl xh yl yh (k+1)=f' at *
      generalize aQ xl xh yl yh (k+1)=l' at *
      generalize aL xl xh yl yh k=f at *
      generalize aQ xl xh yl yh k=l at *
      generalize cX xl xh k=cx at *
      generalize cY yl yh k=cy at *
      obtain ⟨f1,f2⟩:=f;obtain ⟨l1,l2⟩:=l;simp only [] at D1 D2 FS LS;have lt7:Hid (b7<wr.heap.size):=HW.out.lt (g:=b7) (t:=68) (cs:=#[.int .i64 f1,.int .i64 f2]) (by simp)
      have lt8:Hid (b8<wr.heap.size):=HW.out.lt (g:=b8) (t:=68) (cs:=#[.int .i64 l1,.int .i64 l2]) (by simp)
      have ltr:Hid (w.heap.size+1+1<wr.heap.size):=HW.out.lt (g:=w.heap.size+1+1) (t:=27) (cs:=#[.int .i64 0,.int .i64 0]) (by simp)
      have K3:=Lib.hid (KS.new HW.out _ rfl 68 #[.int .i64 cx,.int .i64 cy])
      by_cases hb1:qK cx cy f1 f2=true
      . rw [hb1,if_pos rfl] at FS;rw [hb1] at D1;replace D1:=Lib.hid D1;clear hb1;subst FS
        by_cases hb2:qK l1 l2 cx cy=true
        . rw [hb2,if_pos rfl] at LS;rw [hb2] at D2;replace D2:=Lib.hid D2;clear hb2;subst LS;have c0:=K3.out.c (g:=wr.heap.size) (t:=68) (cs:=#[.int .i64 cx,.int .i64 cy]) (by simp) (i:=0) rfl
          have c1:=K3.out.c (g:=wr.heap.size) (t:=68) (cs:=#[.int .i64 cx,.int .i64 cy]) (by simp) (i:=1) rfl
          have d0:=K3.out.c (g:=b7) (t:=68) (cs:=#[.int .i64 f1,.int .i64 f2]) (by simp) (i:=0) rfl
          have d1:=K3.out.c (g:=b7) (t:=68) (cs:=#[.int .i64 f1,.int .i64 f2]) (by simp) (i:=1) rfl
          go_wp2_with fail;refine (D1.out _).mono ?_;rintro e w3 ⟨rfl,hb⟩;have K4:=Lib.hid (K3.out.below hb);clear hb c0 c1 d0 d1 K3;have K5:=Lib.hid (((K4.out.sub (l':=[(b7,68,#[.int .i64 f1,.int .i64 f2]),(wr.heap.size,68,#[.int .i64 cx,.int .i64 cy]),(b8,68,#[.int .i64 l1,.int .i64 l2]),(w.heap.size+1+1,27,#[.int .i64 0,.int .i64 0])]) (by intro q hq;simp at hq ⊢;rcases hq with rfl|rfl|rfl|rfl<;>simp)).set (by omega) (by have:=lt7.out;intro q hq;simp at hq;rcases hq with rfl|rfl|rfl<;>simp<;>omega) 0 (.int .i64 cx)).set (by omega) (by have:=lt7.out;intro q hq;simp at hq;rcases hq with rfl|rfl|rfl<;>simp<;>omega) 1 (.int .i64 cy))
          have c0:=K4.out.c (g:=wr.heap.size) (t:=68) (cs:=#[.int .i64 cx,.int .i64 cy]) (by simp) (i:=0) rfl
          have c1:=K4.out.c (g:=wr.heap.size) (t:=68) (cs:=#[.int .i64 cx,.int .i64 cy]) (by simp) (i:=1) rfl
          have d0:=K4.out.c (g:=b7) (t:=68) (cs:=#[.int .i64 f1,.int .i64 f2]) (by simp) (i:=0) rfl
          have fd0:=K4.out.f (g:=b7) (t:=68) (cs:=#[.int .i64 f1,.int .i64 f2]) (by simp) 0
          have d1:=K4.out.c (g:=b7) (t:=68) (cs:=#[.int .i64 f1,.int .i64 f2]) (by simp) (i:=1) rfl
          have fd1:=K4.out.f (g:=b7) (t:=68) (cs:=#[.int .i64 f1,.int .i64 f2]) (by simp) 1
          have g0:=K4.out.c (g:=b8) (t:=68) (cs:=#[.int .i64 l1,.int .i64 l2]) (by simp) (i:=0) rfl
          have g1:=K4.out.c (g:=b8) (t:=68) (cs:=#[.int .i64 l1,.int .i64 l2]) (by simp) (i:=1) rfl
          have hne':b8≠b7:=fun h=>hne h.symm
          have hne3:wr.heap.size≠b7:=by have:=lt7.out;omega
          have hne4:wr.heap.size≠b8:=by have:=lt8.out;omega
          go_wp2_with fail;refine (D2.out _).mono ?_;rintro e w5 ⟨rfl,hb⟩;have K6:=Lib.hid (KS.below K5.out hb);clear hb c0 c1 g0 g1 d0 d1 fd0 fd1;have K7:=Lib.hid (((K6.out.sub (l':=[(b8,68,#[.int .i64 l1,.int .i64 l2]),(wr.heap.size,68,#[.int .i64 cx,.int .i64 cy]),(b7,68,#[.int .i64 cx,.int .i64 cy]),(w.heap.size+1+1,27,#[.int .i64 0,.int .i64 0])]) (by intro q hq;simp at hq ⊢;rcases hq with rfl|rfl|rfl|rfl<;>simp)).set (by omega) (by have:=lt8.out;intro q hq;simp at hq;rcases hq with rfl|rfl|rfl<;>simp<;>omega) 0 (.int .i64 cx)).set (by omega) (by have:=lt8.out;intro q hq;simp at hq;rcases hq with rfl|rfl|rfl<;>simp<;>omega) 1 (.int .i64 cy))
          have c0:=K6.out.c (g:=wr.heap.size) (t:=68) (cs:=#[.int .i64 cx,.int .i64 cy]) (by simp) (i:=0) rfl
          have c1:=K6.out.c (g:=wr.heap.size) (t:=68) (cs:=#[.int .i64 cx,.int .i64 cy]) (by simp) (i:=1) rfl
          have g0:=K6.out.c (g:=b8) (t:=68) (cs:=#[.int .i64 l1,.int .i64 l2]) (by simp) (i:=0) rfl
          have fg0:=K6.out.f (g:=b8) (t:=68) (cs:=#[.int .i64 l1,.int .i64 l2]) (by simp) 0
          have g1:=K6.out.c (g:=b8) (t:=68) (cs:=#[.int .i64 l1,.int .i64 l2]) (by simp) (i:=1) rfl
          have fg1:=K6.out.f (g:=b8) (t:=68) (cs:=#[.int .i64 l1,.int .i64 l2]) (by simp) 1
          have FIN:=Lib.hid (GOAL.out _ (K7.out.sub (by intro q hq;simp at hq ⊢;rcases hq with rfl|rfl|rfl<;>simp)))
          clear GOAL K4 K5 K6 D1 D2 K7;go_wp2;exact FIN.out
        . rw [Bool.not_eq_true] at hb2;rw [hb2,if_neg (by simp)] at LS
          rw [hb2] at D2;replace D2:=Lib.hid D2;clear hb2;subst LS;have c0:=K3.out.c (g:=wr.heap.size) (t:=68) (cs:=#[.int .i64 cx,.int .i64 cy]) (by simp) (i:=0) rfl
          have c1:=K3.out.c (g:=wr.heap.size) (t:=68) (cs:=#[.int .i64 cx,.int .i64 cy]) (by simp) (i:=1) rfl
          have d0:=K3.out.c (g:=b7) (t:=68) (cs:=#[.int .i64 f1,.int .i64 f2]) (by simp) (i:=0) rfl
          have d1:=K3.out.c (g:=b7) (t:=68) (cs:=#[.int .i64 f1,.int .i64 f2]) (by simp) (i:=1) rfl
          go_wp2_with fail;refine (D1.out _).mono ?_;rintro e w3 ⟨rfl,hb⟩;have K4:=Lib.hid (K3.out.below hb);clear hb c0 c1 d0 d1 K3;have K5:=Lib.hid (((K4.out.sub (l':=[(b7,68,#[.int .i64 f1,.int .i64 f2]),(wr.heap.size,68,#[.int .i64 cx,.int .i64 cy]),(b8,68,#[.int .i64 l1,.int .i64 l2]),(w.heap.size+1+1,27,#[.int .i64 0,.int .i64 0])]) (by intro q hq;simp at hq ⊢;rcases hq with rfl|rfl|rfl|rfl<;>simp)).set (by omega) (by have:=lt7.out;intro q hq;simp at hq;rcases hq with rfl|rfl|rfl<;>simp<;>omega) 0 (.int .i64 cx)).set (by omega) (by have:=lt7.out;intro q hq;simp at hq;rcases hq with rfl|rfl|rfl<;>simp<;>omega) 1 (.int .i64 cy))
          have c0:=K4.out.c (g:=wr.heap.size) (t:=68) (cs:=#[.int .i64 cx,.int .i64 cy]) (by simp) (i:=0) rfl
          have c1:=K4.out.c (g:=wr.heap.size) (t:=68) (cs:=#[.int .i64 cx,.int .i64 cy]) (by simp) (i:=1) rfl
          have d0:=K4.out.c (g:=b7) (t:=68) (cs:=#[.int .i64 f1,.int .i64 f2]) (by simp) (i:=0) rfl
          have fd0:=K4.out.f (g:=b7) (t:=68) (cs:=#[.int .i64 f1,.int .i64 f2]) (by simp) 0
          have d1:=K4.out.c (g:=b7) (t:=68) (cs:=#[.int .i64 f1,.int .i64 f2]) (by simp) (i:=1) rfl
          have fd1:=K4.out.f (g:=b7) (t:=68) (cs:=#[.int .i64 f1,.int .i64 f2]) (by simp) 1
          have g0:=K4.out.c (g:=b8) (t:=68) (cs:=#[.int .i64 l1,.int .i64 l2]) (by simp) (i:=0) rfl
          have g1:=K4.out.c (g:=b8) (t:=68) (cs:=#[.int .i64 l1,.int .i64 l2]) (by simp) (i:=1) rfl
          have hne':b8≠b7:=fun h=>hne h.symm
          have hne3:wr.heap.size≠b7:=by have:=lt7.out;omega
          have hne4:wr.heap.size≠b8:=by have:=lt8.out;omega
          go_wp2_with fail;refine (D2.out _).mono ?_;rintro e w5 ⟨rfl,hb⟩;have K6:=Lib.hid (KS.below K5.out hb);clear hb c0 c1 g0 g1 d0 d1 fd0 fd1;have FIN:=Lib.hid (GOAL.out _ (K6.out.sub (by intro q hq;simp at hq ⊢;rcases hq with rfl|rfl|rfl<;>simp)))
          clear GOAL K4 K5 K6 D1 D2;go_wp2;exact FIN.out
      . rw [Bool.not_eq_true] at hb1;rw [hb1,if_neg (by simp)] at FS
        rw [hb1] at D1;replace D1:=Lib.hid D1;clear hb1;subst FS
        by_cases hb2:qK l1 l2 cx cy=true
        . rw [hb2,if_pos rfl] at LS;rw [hb2] at D2;replace D2:=Lib.hid D2;clear hb2;subst LS;have c0:=K3.out.c (g:=wr.heap.size) (t:=68) (cs:=#[.int .i64 cx,.int .i64 cy]) (by simp) (i:=0) rfl
          have c1:=K3.out.c (g:=wr.heap.size) (t:=68) (cs:=#[.int .i64 cx,.int .i64 cy]) (by simp) (i:=1) rfl
          have d0:=K3.out.c (g:=b7) (t:=68) (cs:=#[.int .i64 f1,.int .i64 f2]) (by simp) (i:=0) rfl
          have d1:=K3.out.c (g:=b7) (t:=68) (cs:=#[.int .i64 f1,.int .i64 f2]) (by simp) (i:=1) rfl
          go_wp2_with fail;refine (D1.out _).mono ?_;rintro e w3 ⟨rfl,hb⟩;have K4:=Lib.hid (K3.out.below hb);clear hb c0 c1 d0 d1 K3;have K5:=K4;have c0:=K5.out.c (g:=wr.heap.size) (t:=68) (cs:=#[.int .i64 cx,.int .i64 cy]) (by simp) (i:=0) rfl
          have c1:=K5.out.c (g:=wr.heap.size) (t:=68) (cs:=#[.int .i64 cx,.int .i64 cy]) (by simp) (i:=1) rfl
          have g0:=K5.out.c (g:=b8) (t:=68) (cs:=#[.int .i64 l1,.int .i64 l2]) (by simp) (i:=0) rfl
          have g1:=K5.out.c (g:=b8) (t:=68) (cs:=#[.int .i64 l1,.int .i64 l2]) (by simp) (i:=1) rfl
          have hne':b8≠b7:=fun h=>hne h.symm
          have hne3:wr.heap.size≠b7:=by have:=lt7.out;omega
          have hne4:wr.heap.size≠b8:=by have:=lt8.out;omega
          go_wp2_with fail;refine (D2.out _).mono ?_;rintro e w5 ⟨rfl,hb⟩;have K6:=Lib.hid (KS.below K5.out hb);clear hb c0 c1 g0 g1;have K7:=Lib.hid (((K6.out.sub (l':=[(b8,68,#[.int .i64 l1,.int .i64 l2]),(wr.heap.size,68,#[.int .i64 cx,.int .i64 cy]),(b7,68,#[.int .i64 f1,.int .i64 f2]),(w.heap.size+1+1,27,#[.int .i64 0,.int .i64 0])]) (by intro q hq;simp at hq ⊢;rcases hq with rfl|rfl|rfl|rfl<;>simp)).set (by omega) (by have:=lt8.out;intro q hq;simp at hq;rcases hq with rfl|rfl|rfl<;>simp<;>omega) 0 (.int .i64 cx)).set (by omega) (by have:=lt8.out;intro q hq;simp at hq;rcases hq with rfl|rfl|rfl<;>simp<;>omega) 1 (.int .i64 cy))
          have c0:=K6.out.c (g:=wr.heap.size) (t:=68) (cs:=#[.int .i64 cx,.int .i64 cy]) (by simp) (i:=0) rfl
          have c1:=K6.out.c (g:=wr.heap.size) (t:=68) (cs:=#[.int .i64 cx,.int .i64 cy]) (by simp) (i:=1) rfl
          have g0:=K6.out.c (g:=b8) (t:=68) (cs:=#[.int .i64 l1,.int .i64 l2]) (by simp) (i:=0) rfl
          have fg0:=K6.out.f (g:=b8) (t:=68) (cs:=#[.int .i64 l1,.int .i64 l2]) (by simp) 0
          have g1:=K6.out.c (g:=b8) (t:=68) (cs:=#[.int .i64 l1,.int .i64 l2]) (by simp) (i:=1) rfl
          have fg1:=K6.out.f (g:=b8) (t:=68) (cs:=#[.int .i64 l1,.int .i64 l2]) (by simp) 1
          have FIN:=Lib.hid (GOAL.out _ (K7.out.sub (by intro q hq;simp at hq ⊢;rcases hq with rfl|rfl|rfl<;>simp)))
          clear GOAL K4 K5 K6 D1 D2 K7;go_wp2;exact FIN.out
        . rw [Bool.not_eq_true] at hb2;rw [hb2,if_neg (by simp)] at LS
          rw [hb2] at D2;replace D2:=Lib.hid D2;clear hb2;subst LS;have c0:=K3.out.c (g:=wr.heap.size) (t:=68) (cs:=#[.int .i64 cx,.int .i64 cy]) (by simp) (i:=0) rfl
          have c1:=K3.out.c (g:=wr.heap.size) (t:=68) (cs:=#[.int .i64 cx,.int .i64 cy]) (by simp) (i:=1) rfl
          have d0:=K3.out.c (g:=b7) (t:=68) (cs:=#[.int .i64 f1,.int .i64 f2]) (by simp) (i:=0) rfl
          have d1:=K3.out.c (g:=b7) (t:=68) (cs:=#[.int .i64 f1,.int .i64 f2]) (by simp) (i:=1) rfl
          go_wp2_with fail;refine (D1.out _).mono ?_;rintro e w3 ⟨rfl,hb⟩;have K4:=Lib.hid (K3.out.below hb);clear hb c0 c1 d0 d1 K3;have K5:=K4;have c0:=K5.out.c (g:=wr.heap.size) (t:=68) (cs:=#[.int .i64 cx,.int .i64 cy]) (by simp) (i:=0) rfl
          have c1:=K5.out.c (g:=wr.heap.size) (t:=68) (cs:=#[.int .i64 cx,.int .i64 cy]) (by simp) (i:=1) rfl
          have g0:=K5.out.c (g:=b8) (t:=68) (cs:=#[.int .i64 l1,.int .i64 l2]) (by simp) (i:=0) rfl
          have g1:=K5.out.c (g:=b8) (t:=68) (cs:=#[.int .i64 l1,.int .i64 l2]) (by simp) (i:=1) rfl
          have hne':b8≠b7:=fun h=>hne h.symm
          have hne3:wr.heap.size≠b7:=by have:=lt7.out;omega
          have hne4:wr.heap.size≠b8:=by have:=lt8.out;omega
          go_wp2_with fail;refine (D2.out _).mono ?_;rintro e w5 ⟨rfl,hb⟩;have K6:=Lib.hid (KS.below K5.out hb);clear hb c0 c1 g0 g1;have FIN:=Lib.hid (GOAL.out _ (K6.out.sub (by intro q hq;simp at hq ⊢;rcases hq with rfl|rfl|rfl<;>simp)))
          clear GOAL K4 K5 K6 D1 D2;go_wp2;exact FIN.out
    . have hk4:k=4:=by omega
      subst hk4;have FI:=iw xl xh yl yh 4;have LI:=jl xl xh yl yh 4;have G1:=fun w=>Ia (aL xl xh yl yh 4).1 (aL xl xh yl yh 4).2 w (by have:=HXB.out;omega) (by have:=HYB.out;omega) (by have:=HXB.out;have:=HYB.out;have:=HO.out;omega)
      have G2:=fun w=>Ia (aQ xl xh yl yh 4).1 (aQ xl xh yl yh 4).2 w (by have:=HXB.out;omega) (by have:=HYB.out;omega) (by have:=HXB.out;have:=HYB.out;have:=HO.out;omega)
      have V1:=jg (aL xl xh yl yh 4).1 (aL xl xh yl yh 4).2;have V2:=jg (aQ xl xh yl yh 4).1 (aQ xl xh yl yh 4).2;rw [EL.out] at EH;clear FI LI;generalize aL xl xh yl yh 4=f at *
      generalize aQ xl xh yl yh 4=l at *
      obtain ⟨f1,f2⟩:=f;obtain ⟨l1,l2⟩:=l;simp only [] at G1 G2 V1 V2 EL EH;generalize aG f1 f2=LO at *
      generalize fG f1 f2=EF at *
      generalize aG l1 l2=HI at *
      generalize fG l1 l2=EB at *
      obtain ⟨v1,v2⟩:=V1;obtain ⟨v3,v4⟩:=V2;replace G1:=Lib.hid G1;replace G2:=Lib.hid G2;have d0:=HW.out.c (g:=b7) (t:=68) (cs:=#[.int .i64 f1,.int .i64 f2]) (by simp) (i:=0) rfl
      have d1:=HW.out.c (g:=b7) (t:=68) (cs:=#[.int .i64 f1,.int .i64 f2]) (by simp) (i:=1) rfl
      go_wp2_with fail;refine (G1.out _).mono ?_;rintro e w3 ⟨rfl,hb⟩;have K4:=Lib.hid (KS.below HW.out hb);clear hb d0 d1 HW;have d0:=K4.out.c (g:=b8) (t:=68) (cs:=#[.int .i64 l1,.int .i64 l2]) (by simp) (i:=0) rfl
      have d1:=K4.out.c (g:=b8) (t:=68) (cs:=#[.int .i64 l1,.int .i64 l2]) (by simp) (i:=1) rfl
      go_wp2_with fail;refine (G2.out _).mono ?_;rintro e w5 ⟨rfl,hb⟩;have K5:=Lib.hid (K4.out.below hb);clear hb d0 d1 K4;have r0:=K5.out.c (g:=w.heap.size+1+1) (t:=27) (cs:=#[.int .i64 0,.int .i64 0]) (by simp) (i:=0) rfl
      have fr0:=K5.out.f (g:=w.heap.size+1+1) (t:=27) (cs:=#[.int .i64 0,.int .i64 0]) (by simp) 0
      have r1:=K5.out.c (g:=w.heap.size+1+1) (t:=27) (cs:=#[.int .i64 0,.int .i64 0]) (by simp) (i:=1) rfl
      have fr1:=K5.out.f (g:=w.heap.size+1+1) (t:=27) (cs:=#[.int .i64 0,.int .i64 0]) (by simp) 1
      have HB:=Lib.hid K5.out.1;clear K5 G1 G2
      by_cases hlt:HI<LO
      . cases EB
        . have e1:aT yl yh xl xh=LO:=EL.out;have e2:bi yl yh xl xh=HI+21600000+1:=by rw [EH.out];unfold upE;simp [hlt]
          have E1:=Lib.hid e1;have E2:=Lib.hid e2;clear e1 e2 EL EH;go_wp2;refine bodyPost_ret (v:=.tuple #[.agg #[.int .i64 LO,.int .i64 (HI+21600000+1)],.int .i64 0]) (by simp [results,Tryz.results19,go_sem,r0,r1]) rfl ⟨by rw [E1.out,E2.out],?_⟩
          have hb:=HB.out;go_grown
        . have e1:aT yl yh xl xh=LO:=EL.out;have e2:bi yl yh xl xh=HI+21600000:=by rw [EH.out];unfold upE;simp [hlt]
          have E1:=Lib.hid e1;have E2:=Lib.hid e2;clear e1 e2 EL EH;go_wp2;refine bodyPost_ret (v:=.tuple #[.agg #[.int .i64 LO,.int .i64 (HI+21600000)],.int .i64 0]) (by simp [results,Tryz.results19,go_sem,r0,r1]) rfl ⟨by rw [E1.out,E2.out],?_⟩
          have hb:=HB.out;go_grown
      . cases EB
        . have e1:aT yl yh xl xh=LO:=EL.out;have e2:bi yl yh xl xh=HI+1:=by rw [EH.out];unfold upE;simp [hlt]
          have E1:=Lib.hid e1;have E2:=Lib.hid e2;clear e1 e2 EL EH;go_wp2;refine bodyPost_ret (v:=.tuple #[.agg #[.int .i64 LO,.int .i64 (HI+1)],.int .i64 0]) (by simp [results,Tryz.results19,go_sem,r0,r1]) rfl ⟨by rw [E1.out,E2.out],?_⟩
          have hb:=HB.out;go_grown
        . have e1:aT yl yh xl xh=LO:=EL.out;have e2:bi yl yh xl xh=HI:=by rw [EH.out];unfold upE;simp [hlt]
          have E1:=Lib.hid e1;have E2:=Lib.hid e2;clear e1 e2 EL EH;go_wp2;refine bodyPost_ret (v:=.tuple #[.agg #[.int .i64 LO,.int .i64 (HI)],.int .i64 0]) (by simp [results,Tryz.results19,go_sem,r0,r1]) rfl ⟨by rw [E1.out,E2.out],?_⟩
          have hb:=HB.out;go_grown
theorem I5 (yl yh xl xh:Int) (w:World) (hy:fxV yl yh=true) (hx:fxV xl xh=true) :
 Calls Tryz.prog 19 #[.agg #[.int .i64 yl,.int .i64 yh],.agg #[.int .i64 xl,.int .i64 xh]] w fun e w'=>e=.returned (.tuple #[.agg #[.int .i64 (aT yl yh xl xh),.int .i64 (bi yl yh xl xh)],.int .i64 0])/\Below w.heap.size w w':=by
 by_cases h:xl<=0/\0<=xh/\yl<=0/\0<=yh
 . have e1:aT yl yh xl xh=0:=by unfold aT dX;simp [h]
   have e2:bi yl yh xl xh=21600000:=by unfold bi dX;simp [h]
   rw [e1,e2];exact Qz yl yh xl xh w hy hx h.1 h.2.1 h.2.2.1 h.2.2.2
 . exact MH yl yh xl xh w hy hx h
