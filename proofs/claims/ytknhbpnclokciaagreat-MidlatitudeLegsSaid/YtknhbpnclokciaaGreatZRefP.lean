/- The contract of the reference's Product of layer 44. -/
import Derived.Test.YtknhbpnclokciaaGreatZRef2
import Derived.Test.YtknhbpnclokciaaGreatZMid3
set_option linter.unusedVariables false
set_option linter.unusedSimpArgs false
set_option maxRecDepth 100000
set_option maxHeartbeats 1000000
namespace Go.Proofs.YtknhbpnclokciaaGreat
open Go.RowKit Alm
theorem Cb (a b c d:Int) (w:World) :
 Calls Tryz.prog 222 #[.int .i64 a,.int .i64 b,.int .i64 c,.int .i64 d] w fun e w'=>e=.returned (.agg #[.int .i64 (min a c),.int .i64 (max b d)])/\Below w.heap.size w w':=by
 have C1:=Lib.hid xK;have C2:=Lib.hid MB;go_enter Tryz.func222,Tryz.ntmps222;go_wp2_with fail;refine (C1.out _ _ _).mono ?_;rintro e w' ⟨rfl,rfl⟩;go_wp2_with fail;refine (C2.out _ _ _).mono ?_;rintro e w' ⟨rfl,rfl⟩;go_wp2;refine bodyPost_ret (by simp [results,Tryz.results222,go_sem];try rfl) rfl ⟨rfl,by go_grown⟩
theorem yB (flo fhi lo hi:Int) (w:World) (hv:fxV flo fhi=true) (hl:aX lo=true) (hh:aX hi=true) :
 Calls Tryz.prog 113 #[.agg #[.int .i64 flo,.int .i64 fhi],.agg #[.int .i64 lo,.int .i64 hi]] w fun e w'=>e=.returned (Cv (iN flo fhi lo hi) (iO flo fhi lo hi))/\Below w.heap.size w w':=by
 have C1:=Lib.hid (fun w=>pK flo fhi lo w hv hl)
 have C2:=Lib.hid (fun w=>pK flo fhi hi w hv hh)
 have C3:=fun w=>Cb (eG flo fhi lo) (d9 flo fhi lo) (eG flo fhi hi) (d9 flo fhi hi) w
 have e1:min (eG flo fhi lo) (eG flo fhi hi)=iN flo fhi lo hi:=rfl;have e2:max (d9 flo fhi lo) (d9 flo fhi hi)=iO flo fhi lo hi:=rfl;rw [e1,e2] at C3;replace C3:=Lib.hid C3;have C4:=Lib.hid (fun w=>Ho (iN flo fhi lo hi) (iO flo fhi lo hi) w)
 unfold Cv;clear e1 e2 hv hl hh;generalize eG flo fhi lo=a at *
 generalize d9 flo fhi lo=b at *
 generalize eG flo fhi hi=c at *
 generalize d9 flo fhi hi=d at *
 generalize iN flo fhi lo hi=x at *
 generalize iO flo fhi lo hi=y at *
 generalize aH x y=V at *
 have K0:=Lib.hid ((((av w).new w.heap.size rfl 82 #[.int .i64 flo,.int .i64 fhi]).new (w.heap.size+1) (by simp) 40 #[.int .i64 lo,.int .i64 hi]).new (w.heap.size+1+1) (by simp) 40 #[.int .i64 0,.int .i64 0])
 go_enter Tryz.func113,Tryz.ntmps113;go_wp2_with fail;refine (C1.out _).mono ?_;rintro e w1 ⟨rfl,hb1⟩;have K1:=Lib.hid (K0.out.below hb1);clear hb1 K0;have c0:=K1.out.c (g:=w.heap.size) (t:=82) (cs:=#[.int .i64 flo,.int .i64 fhi]) (by simp) (i:=0) rfl
 have c1:=K1.out.c (g:=w.heap.size) (t:=82) (cs:=#[.int .i64 flo,.int .i64 fhi]) (by simp) (i:=1) rfl
 have c2:=K1.out.c (g:=w.heap.size+1) (t:=40) (cs:=#[.int .i64 lo,.int .i64 hi]) (by simp) (i:=1) rfl
 go_wp2_with fail;refine (C2.out _).mono ?_;rintro e w2 ⟨rfl,hb1⟩;have K2:=Lib.hid (K1.out.below hb1);clear hb1 K1 c0 c1 c2;go_wp2_with fail;refine (C3.out _).mono ?_;rintro e w3 ⟨rfl,hb1⟩;have K3:=Lib.hid ((K2.out.below hb1).new w3.heap.size rfl 40 #[.int .i64 x,.int .i64 y]);clear hb1 K2;go_wp2_with fail;refine (C4.out _).mono ?_;rintro e w4 ⟨rfl,hb1⟩;have K4:=Lib.hid (K3.out.below hb1);clear hb1 K3;have c0:=K4.out.c (g:=w3.heap.size) (t:=40) (cs:=#[.int .i64 x,.int .i64 y]) (by simp) (i:=0) rfl
 have c1:=K4.out.c (g:=w3.heap.size) (t:=40) (cs:=#[.int .i64 x,.int .i64 y]) (by simp) (i:=1) rfl
 have q0:=K4.out.c (g:=w.heap.size+1+1) (t:=40) (cs:=#[.int .i64 0,.int .i64 0]) (by simp) (i:=0) rfl
 have q1:=K4.out.c (g:=w.heap.size+1+1) (t:=40) (cs:=#[.int .i64 0,.int .i64 0]) (by simp) (i:=1) rfl
 have g0:=K4.out.f (g:=w.heap.size+1+1) (t:=40) (cs:=#[.int .i64 0,.int .i64 0]) (by simp) 0
 have g1:=K4.out.f (g:=w.heap.size+1+1) (t:=40) (cs:=#[.int .i64 0,.int .i64 0]) (by simp) 1
 cases V
 all_goals
  go_wp2;refine bodyPost_ret (by simp [results,Tryz.results113,go_sem,q0,q1];try rfl) rfl ⟨rfl,by have:=K4.out.1;go_light;go_grown⟩
