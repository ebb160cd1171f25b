/- The walk of composite.Plan. -/
import Derived.Test.YtknhbpnclokciaaZRwP
import Derived.StillTailTactics
import Derived.Deep.RegionHeld3
import Derived.Deep.DeepCutAuto
import Derived.IntWalk
set_option linter.unusedVariables false
set_option linter.unusedSimpArgs false
set_option maxRecDepth 100000
set_option maxHeartbeats 8000000
namespace Go.Proofs.Ytknhbpnclokciaa
open Go.RowKit Sx
theorem Zm (sg:Int->Int) (a b c d l x1 x2 y1 y2:Int) (w:World)
 (CK:Hid (∀ (g cap:Nat) (w:World),gJ 2 w g 0 [[a,b],[c,d]]->Calls Try.prog 21 #[.int .i64 l,.slice (some ⟨g,0,none⟩) 2 cap] w fun e w'=>e=.returned (.int .i64 0)/\Below w.heap.size w w'))
 (RX:Hid (∀ w:World,Calls Try.prog 22 #[.int .i64 a,.int .i64 l] w fun e w'=>e=.returned (.tuple #[.agg #[.int .i64 x1,.int .i64 x2],.int .i64 0])/\Below w.heap.size w w'))
 (RY:Hid (∀ w:World,Calls Try.prog 22 #[.int .i64 c,.int .i64 l] w fun e w'=>e=.returned (.tuple #[.agg #[.int .i64 y1,.int .i64 y2],.int .i64 0])/\Below w.heap.size w w'))
 (SG:Hid (∀ (n:Int) (w:World),-100000000<=n/\n<=100000000->Calls Try.prog 8 #[.int .i64 n] w fun e w'=>e=.returned (.int .i64 (sg n))/\w=w'))
 (SZ:Hid (∀ (n:Int) (w:World),-100000000<=n/\n<=100000000->Calls Try.prog 23 #[.int .i64 n] w fun e w'=>e=.returned (.int .i64 (max n (-n)))/\w=w'))
 (MD:Hid (∀ (u v:Int) (w:World),(0<=u/\u<=10800000)->(0<=v/\v<=10800000)->Calls Try.prog 24 #[.agg #[.int .i64 u,.int .i64 v]] w fun e w'=>e=.returned (.int .i64 ((u+v)/2))/\Below w.heap.size w w'))
 (TU:Hid (∀ (u v:Int) (w:World),(0<=u/\u<=10800000)->(0<=v/\v<=10800000)->Calls Try.prog 25 #[.agg #[.int .i64 u,.int .i64 v]] w fun e w'=>e=.returned (.agg #[.int .i64 (10800000-v),.int .i64 (10800000-u)])/\Below w.heap.size w w'))
 (hb:-10800000<=b/\b<=10800000) (hd:-10800000<=d/\d<=10800000) (hl:1<=l/\l<5400000) (hx1:0<=x1/\x1<=10800000) (hx2:0<=x2/\x2<=10800000) (hy1:0<=y1/\y1<=10800000) (hy2:0<=y2/\y2<=10800000) (hsg:∀ n,-10800000<=sg n/\sg n<10800000)
 (u1 u2 v1 v2:Int) (HU:Hid (u1=10800000-x2/\u2=10800000-x1/\v1=10800000-y2/\v2=10800000-y1)) (hu1:0<=u1/\u1<=10800000) (hu2:0<=u2/\u2<=10800000) (hv1:0<=v1/\v1<=10800000) (hv2:0<=v2/\v2<=10800000) (h1:¬ (x2+y2<max (sg (d-b)) (-(sg (d-b))))) (h2:¬ (u2+v2<max (sg (d-b)) (-(sg (d-b)))))
 (RS:Cs) (hRS:RS=[[a,b],[c,d]]) :
 Calls Try.prog 7 #[.agg #[.int .i64 a,.int .i64 b],.agg #[.int .i64 c,.int .i64 d],.int .i64 l] w fun e w'=>(∃ v,e=.returned (.tuple #[v,.int .i64 0])/\bJ 2 23 w.heap.size w' v (dd RS))/\Below w.heap.size w w':=by
 have K0:=Lib.hid (((av w).new w.heap.size rfl 23 #[.int .i64 a,.int .i64 b]).new (w.heap.size+1) (by simp) 23 #[.int .i64 c,.int .i64 d])
 have hs:=hsg (d-b);have HRS:=Lib.hid hRS;clear hRS;go_enter Try.func7,Try.ntmps7;go_wp2_with fail;refine (CK.out _ _ _ (fE _ _ [[a,b],[c,d]] _ rfl (by intro x hx;simp at hx;rcases hx with rfl|rfl<;>rfl) _ (by simp))).mono ?_
 rintro e w1 ⟨rfl,hb1⟩;have K1:=Lib.hid ((K0.out.alloc _).below hb1);clear hb1 K0;have c0:=K1.out.c (g:=w.heap.size) (t:=23) (cs:=#[.int .i64 a,.int .i64 b]) (by simp) (i:=0) rfl
 go_wp2_with fail;refine (RX.out _).mono ?_;rintro e w2 ⟨rfl,hb1⟩;have S20:=Lib.hid ((K1.out.below hb1).lt (g:=w.heap.size+1) (t:=23) (cs:=#[.int .i64 c,.int .i64 d]) (by simp))
 have K2:=Lib.hid ((K1.out.below hb1).new w2.heap.size rfl 35 #[.int .i64 x1,.int .i64 x2]);clear hb1 K1 c0;have c0:=K2.out.c (g:=w.heap.size+1) (t:=23) (cs:=#[.int .i64 c,.int .i64 d]) (by simp) (i:=0) rfl
 go_wp2_with fail;refine (RY.out _).mono ?_;rintro e w3 ⟨rfl,hb1⟩;have S3:=Lib.hid (show w2.heap.size<w3.heap.size from (K2.out.below hb1).lt (g:=w2.heap.size) (t:=35) (cs:=#[.int .i64 x1,.int .i64 x2]) (by simp))
 have K3:=Lib.hid ((K2.out.below hb1).new w3.heap.size rfl 35 #[.int .i64 y1,.int .i64 y2]);clear hb1 K2 c0;have a0:=K3.out.c (g:=w.heap.size) (t:=23) (cs:=#[.int .i64 a,.int .i64 b]) (by simp) (i:=0) rfl
 have a1:=K3.out.c (g:=w.heap.size) (t:=23) (cs:=#[.int .i64 a,.int .i64 b]) (by simp) (i:=1) rfl
 have c1:=K3.out.c (g:=w.heap.size+1) (t:=23) (cs:=#[.int .i64 c,.int .i64 d]) (by simp) (i:=1) rfl
 go_wp2_with fail;refine (SG.out _ _ (by omega)).mono ?_
 rintro e w4 ⟨rfl,rfl⟩;generalize hq:sg (d-b)=q at *
 go_wp2_with fail;have S2:=Lib.hid (show w.heap.size+1<w2.heap.size/\w2.heap.size<w3.heap.size from ⟨S20.out,S3.out⟩)
 have K5:=Lib.hid ((K3.out.alloc (.cells #[.int .i64 a,.int .i64 b] 23)).new (w3.heap.size+1+1) (by simp) 3 #[.int .i64 l,.int .i64 (-l)])
 have O5:Hid (bJ 2 23 (w3.heap.size+1) (((w3.alloc (.cells #[.int .i64 y1,.int .i64 y2] 35)).alloc (.cells #[.int .i64 a,.int .i64 b] 23)).alloc (.cells #[.int .i64 l,.int .i64 (-l)] 3)) (.slice (some ⟨w3.heap.size+1,0,none⟩) 1 1) [[a,b]]) :=
  (Ce (w3.alloc (.cells #[.int .i64 y1,.int .i64 y2] 35)) 23 [[a,b]] #[.int .i64 a,.int .i64 b] rfl (by intro x hx;simp at hx;subst hx;rfl) (w3.heap.size+1) 1 (by simp) (w3.heap.size+1) (Nat.le_refl _) rfl (by decide)).alloc _
 generalize (((w3.alloc (.cells #[.int .i64 y1,.int .i64 y2] 35)).alloc (.cells #[.int .i64 a,.int .i64 b] 23)).alloc (.cells #[.int .i64 l,.int .i64 (-l)] 3))=w5 at *
 generalize w3.heap.size=B3 at *
 generalize w2.heap.size=B2 at *
 clear K3 S3 S20 a0 a1 c1 CK RX RY;refine wp_loop_rounds 4 ?_;rw [rounds_succ];have i0:=K5.out.c (g:=B3+1+1) (t:=3) (cs:=#[.int .i64 l,.int .i64 (-l)]) (by simp) (i:=0) rfl
 have x1c:=K5.out.c (g:=B2) (t:=35) (cs:=#[.int .i64 x1,.int .i64 x2]) (by simp) (i:=1) rfl
 have y1c:=K5.out.c (g:=B3) (t:=35) (cs:=#[.int .i64 y1,.int .i64 y2]) (by simp) (i:=1) rfl
 go_wp2_with fail;go_quiet ((go_at_call 23;exact Calls.quiet_of_same (fu (SZ.out _ _ (by omega)))))
 go_wp2_with fail;have K6:=Lib.hid (K5.out.drewN nq);have O6:Hid (bJ 2 23 (B3+1) _ (.slice (some ⟨B3+1,0,none⟩) 1 1) [[a,b]]):=Lib.hid (O5.out.drewN nq);clear i0 x1c y1c K5 O5;generalize w5.drewN nq=w6 at *
 have T1:Hid (∀ w:World,Calls Try.prog 25 #[.agg #[.int .i64 x1,.int .i64 x2]] w fun e w'=>e=.returned (.agg #[.int .i64 u1,.int .i64 u2])/\Below w.heap.size w w'):=Lib.hid (fun w=>by have h:=TU.out x1 x2 w (by omega) (by omega);rw [show 10800000-x2=u1 by have:=HU.out;omega,show 10800000-x1=u2 by have:=HU.out;omega] at h;exact h)
 have T2:Hid (∀ w:World,Calls Try.prog 25 #[.agg #[.int .i64 y1,.int .i64 y2]] w fun e w'=>e=.returned (.agg #[.int .i64 v1,.int .i64 v2])/\Below w.heap.size w w'):=Lib.hid (fun w=>by have h:=TU.out y1 y2 w (by omega) (by omega);rw [show 10800000-y2=v1 by have:=HU.out;omega,show 10800000-y1=v2 by have:=HU.out;omega] at h;exact h)
 have xa0:=K6.out.c (g:=B2) (t:=35) (cs:=#[.int .i64 x1,.int .i64 x2]) (by simp) (i:=0) rfl
 have xa1:=K6.out.c (g:=B2) (t:=35) (cs:=#[.int .i64 x1,.int .i64 x2]) (by simp) (i:=1) rfl
 have ya0:=K6.out.c (g:=B3) (t:=35) (cs:=#[.int .i64 y1,.int .i64 y2]) (by simp) (i:=0) rfl
 have ya1:=K6.out.c (g:=B3) (t:=35) (cs:=#[.int .i64 y1,.int .i64 y2]) (by simp) (i:=1) rfl
 have xf0:=K6.out.f (g:=B2) (t:=35) (cs:=#[.int .i64 x1,.int .i64 x2]) (by simp) 0
 have xf1:=K6.out.f (g:=B2) (t:=35) (cs:=#[.int .i64 x1,.int .i64 x2]) (by simp) 1
 have yf0:=K6.out.f (g:=B3) (t:=35) (cs:=#[.int .i64 y1,.int .i64 y2]) (by simp) 0
 have yf1:=K6.out.f (g:=B3) (t:=35) (cs:=#[.int .i64 y1,.int .i64 y2]) (by simp) 1
 have SS:=S2.out;refine Ci (some 98) (some 99) (some 100) (some 101) (.agg #[.int .i64 x1,.int .i64 x2]) (.agg #[.int .i64 u1,.int .i64 u2]) (.agg #[.int .i64 y1,.int .i64 y2]) (.agg #[.int .i64 v1,.int .i64 v2]) (fun wx=>KS w wx [(B3,35,#[.int .i64 v1,.int .i64 v2]),(B2,35,#[.int .i64 u1,.int .i64 u2]),(B3+1+1,3,#[.int .i64 l,.int .i64 (-l)]),(w.heap.size+1,23,#[.int .i64 c,.int .i64 d]),(w.heap.size,23,#[.int .i64 a,.int .i64 b])]/\bJ 2 23 (B3+1) wx (.slice (some ⟨B3+1,0,none⟩) 1 1) [[a,b]]) ?_ ?_
 . replace K6:=Lib.hid K6.out.drew;replace O6:=Lib.hid O6.out.drew;go_region_with (first
    | ((go_at_call 25;with_reducible refine (T1.out _).mono ?_);rintro r w7 ⟨rfl,hk⟩;replace K6:=Lib.hid (K6.out.below hk);replace O6:=Lib.hid (O6.out.below hk);clear hk xa0 xa1 ya0 ya1 xf0 xf1 yf0 yf1;have xa0:=K6.out.c (g:=B2) (t:=35) (cs:=#[.int .i64 x1,.int .i64 x2]) (by simp) (i:=0) rfl;have xa1:=K6.out.c (g:=B2) (t:=35) (cs:=#[.int .i64 x1,.int .i64 x2]) (by simp) (i:=1) rfl;have ya0:=K6.out.c (g:=B3) (t:=35) (cs:=#[.int .i64 y1,.int .i64 y2]) (by simp) (i:=0) rfl;have ya1:=K6.out.c (g:=B3) (t:=35) (cs:=#[.int .i64 y1,.int .i64 y2]) (by simp) (i:=1) rfl;have xf0:=K6.out.f (g:=B2) (t:=35) (cs:=#[.int .i64 x1,.int .i64 x2]) (by simp) 0;have xf1:=K6.out.f (g:=B2) (t:=35) (cs:=#[.int .i64 x1,.int .i64 x2]) (by simp) 1;have yf0:=K6.out.f (g:=B3) (t:=35) (cs:=#[.int .i64 y1,.int .i64 y2]) (by simp) 0;have yf1:=K6.out.f (g:=B3) (t:=35) (cs:=#[.int .i64 y1,.int .i64 y2]) (by simp) 1)
    | ((go_at_call 25;with_reducible refine (T2.out _).mono ?_);rintro r w7 ⟨rfl,hk⟩;replace K6:=Lib.hid (K6.out.below hk);replace O6:=Lib.hid (O6.out.below hk);clear hk xa0 xa1 ya0 ya1 xf0 xf1 yf0 yf1;have xa0:=K6.out.c (g:=B2) (t:=35) (cs:=#[.int .i64 x1,.int .i64 x2]) (by simp) (i:=0) rfl;have xa1:=K6.out.c (g:=B2) (t:=35) (cs:=#[.int .i64 x1,.int .i64 x2]) (by simp) (i:=1) rfl;have ya0:=K6.out.c (g:=B3) (t:=35) (cs:=#[.int .i64 y1,.int .i64 y2]) (by simp) (i:=0) rfl;have ya1:=K6.out.c (g:=B3) (t:=35) (cs:=#[.int .i64 y1,.int .i64 y2]) (by simp) (i:=1) rfl;have xf0:=K6.out.f (g:=B2) (t:=35) (cs:=#[.int .i64 x1,.int .i64 x2]) (by simp) 0;have xf1:=K6.out.f (g:=B2) (t:=35) (cs:=#[.int .i64 x1,.int .i64 x2]) (by simp) 1;have yf0:=K6.out.f (g:=B3) (t:=35) (cs:=#[.int .i64 y1,.int .i64 y2]) (by simp) 0;have yf1:=K6.out.f (g:=B3) (t:=35) (cs:=#[.int .i64 y1,.int .i64 y2]) (by simp) 1))
   all_goals
    have K7:=iK K6.out (g:=B2) (t:=35) (c0:=.int .i64 x1) (c1:=.int .i64 x2) (by simp) (by omega) (l':=(B3,35,#[.int .i64 y1,.int .i64 y2])::[(B3+1+1,3,#[.int .i64 l,.int .i64 (-l)]),(w.heap.size+1,23,#[.int .i64 c,.int .i64 d]),(w.heap.size,23,#[.int .i64 a,.int .i64 b])]) (by intro p hp;simp at hp;rcases hp with rfl|rfl|rfl|rfl<;>simp<;>omega) (by intro p hp;simp at hp ⊢;rcases hp with rfl|rfl|rfl|rfl<;>simp) (.int .i64 u1) (.int .i64 u2)
    have K5:=Lib.hid (iK K7 (g:=B3) (t:=35) (c0:=.int .i64 y1) (c1:=.int .i64 y2) (by simp) (by omega) (l':=(B2,35,#[.int .i64 u1,.int .i64 u2])::[(B3+1+1,3,#[.int .i64 l,.int .i64 (-l)]),(w.heap.size+1,23,#[.int .i64 c,.int .i64 d]),(w.heap.size,23,#[.int .i64 a,.int .i64 b])]) (by intro p hp;simp at hp;rcases hp with rfl|rfl|rfl|rfl<;>simp<;>omega) (by intro p hp;simp at hp ⊢;rcases hp with rfl|rfl|rfl|rfl<;>simp) (.int .i64 v1) (.int .i64 v2))
    have O5:=Lib.hid ((((O6.out.far (p:=⟨B2,0,none⟩) (by show B2<B3+1;omega) (.int .i64 u1)).far (p:=⟨B2,1,none⟩) (by show B2<B3+1;omega) (.int .i64 u2)).far (p:=⟨B3,0,none⟩) (by show B3<B3+1;omega) (.int .i64 v1)).far (p:=⟨B3,1,none⟩) (by show B3<B3+1;omega) (.int .i64 v2))
    exact ⟨rfl,K5.out,O5.out⟩
 rintro w8 ⟨hk,ho⟩;have K5:=Lib.hid hk;have O5:=Lib.hid ho;clear hk ho K6 O6 xa0 xa1 ya0 ya1 T1 T2 xf0 xf1 yf0 yf1;go_wp2_with fail;rw [rounds_succ];have i0:=K5.out.c (g:=B3+1+1) (t:=3) (cs:=#[.int .i64 l,.int .i64 (-l)]) (by simp) (i:=1) rfl
 have x1c:=K5.out.c (g:=B2) (t:=35) (cs:=#[.int .i64 u1,.int .i64 u2]) (by simp) (i:=1) rfl
 have y1c:=K5.out.c (g:=B3) (t:=35) (cs:=#[.int .i64 v1,.int .i64 v2]) (by simp) (i:=1) rfl
 go_wp2_with fail;go_quiet ((go_at_call 23;exact Calls.quiet_of_same (fu (SZ.out _ _ (by omega)))))
 go_wp2_with fail;have K6:=Lib.hid (K5.out.drewN nq);have O6:Hid (bJ 2 23 (B3+1) _ (.slice (some ⟨B3+1,0,none⟩) 1 1) [[a,b]]):=Lib.hid (O5.out.drewN nq);clear i0 x1c y1c K5 O5;generalize w8.drewN nq=w6 at *
 have T1:Hid (∀ w:World,Calls Try.prog 25 #[.agg #[.int .i64 u1,.int .i64 u2]] w fun e w'=>e=.returned (.agg #[.int .i64 x1,.int .i64 x2])/\Below w.heap.size w w'):=Lib.hid (fun w=>by have h:=TU.out u1 u2 w (by omega) (by omega);rw [show 10800000-u2=x1 by have:=HU.out;omega,show 10800000-u1=x2 by have:=HU.out;omega] at h;exact h)
 have T2:Hid (∀ w:World,Calls Try.prog 25 #[.agg #[.int .i64 v1,.int .i64 v2]] w fun e w'=>e=.returned (.agg #[.int .i64 y1,.int .i64 y2])/\Below w.heap.size w w'):=Lib.hid (fun w=>by have h:=TU.out v1 v2 w (by omega) (by omega);rw [show 10800000-v2=y1 by have:=HU.out;omega,show 10800000-v1=y2 by have:=HU.out;omega] at h;exact h)
 have xa0:=K6.out.c (g:=B2) (t:=35) (cs:=#[.int .i64 u1,.int .i64 u2]) (by simp) (i:=0) rfl
 have xa1:=K6.out.c (g:=B2) (t:=35) (cs:=#[.int .i64 u1,.int .i64 u2]) (by simp) (i:=1) rfl
 have ya0:=K6.out.c (g:=B3) (t:=35) (cs:=#[.int .i64 v1,.int .i64 v2]) (by simp) (i:=0) rfl
 have ya1:=K6.out.c (g:=B3) (t:=35) (cs:=#[.int .i64 v1,.int .i64 v2]) (by simp) (i:=1) rfl
 have xf0:=K6.out.f (g:=B2) (t:=35) (cs:=#[.int .i64 u1,.int .i64 u2]) (by simp) 0
 have xf1:=K6.out.f (g:=B2) (t:=35) (cs:=#[.int .i64 u1,.int .i64 u2]) (by simp) 1
 have yf0:=K6.out.f (g:=B3) (t:=35) (cs:=#[.int .i64 v1,.int .i64 v2]) (by simp) 0
 have yf1:=K6.out.f (g:=B3) (t:=35) (cs:=#[.int .i64 v1,.int .i64 v2]) (by simp) 1
 have SS:=S2.out;refine Ci (some 98) (some 99) (some 100) (some 101) (.agg #[.int .i64 u1,.int .i64 u2]) (.agg #[.int .i64 x1,.int .i64 x2]) (.agg #[.int .i64 v1,.int .i64 v2]) (.agg #[.int .i64 y1,.int .i64 y2]) (fun wx=>KS w wx [(B3,35,#[.int .i64 y1,.int .i64 y2]),(B2,35,#[.int .i64 x1,.int .i64 x2]),(B3+1+1,3,#[.int .i64 l,.int .i64 (-l)]),(w.heap.size+1,23,#[.int .i64 c,.int .i64 d]),(w.heap.size,23,#[.int .i64 a,.int .i64 b])]/\bJ 2 23 (B3+1) wx (.slice (some ⟨B3+1,0,none⟩) 1 1) [[a,b]]) ?_ ?_
 . replace K6:=Lib.hid K6.out.drew;replace O6:=Lib.hid O6.out.drew;go_region_with (first
    | ((go_at_call 25;with_reducible refine (T1.out _).mono ?_);rintro r w7 ⟨rfl,hk⟩;replace K6:=Lib.hid (K6.out.below hk);replace O6:=Lib.hid (O6.out.below hk);clear hk xa0 xa1 ya0 ya1 xf0 xf1 yf0 yf1;have xa0:=K6.out.c (g:=B2) (t:=35) (cs:=#[.int .i64 u1,.int .i64 u2]) (by simp) (i:=0) rfl;have xa1:=K6.out.c (g:=B2) (t:=35) (cs:=#[.int .i64 u1,.int .i64 u2]) (by simp) (i:=1) rfl;have ya0:=K6.out.c (g:=B3) (t:=35) (cs:=#[.int .i64 v1,.int .i64 v2]) (by simp) (i:=0) rfl;have ya1:=K6.out.c (g:=B3) (t:=35) (cs:=#[.int .i64 v1,.int .i64 v2]) (by simp) (i:=1) rfl;have xf0:=K6.out.f (g:=B2) (t:=35) (cs:=#[.int .i64 u1,.int .i64 u2]) (by simp) 0;have xf1:=K6.out.f (g:=B2) (t:=35) (cs:=#[.int .i64 u1,.int .i64 u2]) (by simp) 1;have yf0:=K6.out.f (g:=B3) (t:=35) (cs:=#[.int .i64 v1,.int .i64 v2]) (by simp) 0;have yf1:=K6.out.f (g:=B3) (t:=35) (cs:=#[.int .i64 v1,.int .i64 v2]) (by simp) 1)
    | ((go_at_call 25;with_reducible refine (T2.out _).mono ?_);rintro r w7 ⟨rfl,hk⟩;replace K6:=Lib.hid (K6.out.below hk);replace O6:=Lib.hid (O6.out.below hk);clear hk xa0 xa1 ya0 ya1 xf0 xf1 yf0 yf1;have xa0:=K6.out.c (g:=B2) (t:=35) (cs:=#[.int .i64 u1,.int .i64 u2]) (by simp) (i:=0) rfl;have xa1:=K6.out.c (g:=B2) (t:=35) (cs:=#[.int .i64 u1,.int .i64 u2]) (by simp) (i:=1) rfl;have ya0:=K6.out.c (g:=B3) (t:=35) (cs:=#[.int .i64 v1,.int .i64 v2]) (by simp) (i:=0) rfl;have ya1:=K6.out.c (g:=B3) (t:=35) (cs:=#[.int .i64 v1,.int .i64 v2]) (by simp) (i:=1) rfl;have xf0:=K6.out.f (g:=B2) (t:=35) (cs:=#[.int .i64 u1,.int .i64 u2]) (by simp) 0;have xf1:=K6.out.f (g:=B2) (t:=35) (cs:=#[.int .i64 u1,.int .i64 u2]) (by simp) 1;have yf0:=K6.out.f (g:=B3) (t:=35) (cs:=#[.int .i64 v1,.int .i64 v2]) (by simp) 0;have yf1:=K6.out.f (g:=B3) (t:=35) (cs:=#[.int .i64 v1,.int .i64 v2]) (by simp) 1))
   all_goals
    have K7:=iK K6.out (g:=B2) (t:=35) (c0:=.int .i64 u1) (c1:=.int .i64 u2) (by simp) (by omega) (l':=(B3,35,#[.int .i64 v1,.int .i64 v2])::[(B3+1+1,3,#[.int .i64 l,.int .i64 (-l)]),(w.heap.size+1,23,#[.int .i64 c,.int .i64 d]),(w.heap.size,23,#[.int .i64 a,.int .i64 b])]) (by intro p hp;simp at hp;rcases hp with rfl|rfl|rfl|rfl<;>simp<;>omega) (by intro p hp;simp at hp ⊢;rcases hp with rfl|rfl|rfl|rfl<;>simp) (.int .i64 x1) (.int .i64 x2)
    have K5:=Lib.hid (iK K7 (g:=B3) (t:=35) (c0:=.int .i64 v1) (c1:=.int .i64 v2) (by simp) (by omega) (l':=(B2,35,#[.int .i64 x1,.int .i64 x2])::[(B3+1+1,3,#[.int .i64 l,.int .i64 (-l)]),(w.heap.size+1,23,#[.int .i64 c,.int .i64 d]),(w.heap.size,23,#[.int .i64 a,.int .i64 b])]) (by intro p hp;simp at hp;rcases hp with rfl|rfl|rfl|rfl<;>simp<;>omega) (by intro p hp;simp at hp ⊢;rcases hp with rfl|rfl|rfl|rfl<;>simp) (.int .i64 y1) (.int .i64 y2))
    have O5:=Lib.hid ((((O6.out.far (p:=⟨B2,0,none⟩) (by show B2<B3+1;omega) (.int .i64 x1)).far (p:=⟨B2,1,none⟩) (by show B2<B3+1;omega) (.int .i64 x2)).far (p:=⟨B3,0,none⟩) (by show B3<B3+1;omega) (.int .i64 y1)).far (p:=⟨B3,1,none⟩) (by show B3<B3+1;omega) (.int .i64 y2))
    exact ⟨rfl,K5.out,O5.out⟩
 rintro w8 ⟨hk,ho⟩;have K5:=Lib.hid hk;have O5:=Lib.hid ho;clear hk ho K6 O6 xa0 xa1 ya0 ya1 T1 T2 xf0 xf1 yf0 yf1;go_wp2_with fail;rw [rounds_succ];have c0:=K5.out.c (g:=w.heap.size+1) (t:=23) (cs:=#[.int .i64 c,.int .i64 d]) (by simp) (i:=0) rfl
 have c1:=K5.out.c (g:=w.heap.size+1) (t:=23) (cs:=#[.int .i64 c,.int .i64 d]) (by simp) (i:=1) rfl
 have SS:=S2.out;have HW1:Hid (w.heap.size<=B3+1):=Lib.hid (by omega)
 have HL9:Hid (B3+1<=w8.heap.size):=by have:=O5.out.lt (B3+1) rfl;exact Lib.hid (by omega)
 clear hx1 hx2 hy1 hy2 hu1 hu2 hv1 hv2 hb hd SS;go_wp2_with (at_builtin;refine bI mJ rfl _ _ rfl _ (B3+1) _ [[a,b]] [[c,d]] rfl (O5.out.alloc _) _ 1 1 rfl rfl (fun j u hj=>bZ _ _ rfl _ _ rfl _ j u hj) (by intro x hx;simp at hx;subst hx;rfl) (Nat.succ_pos _) (show 1+1<=1000000 from by decide) (by have:=HL9.out;simp;omega) ?_;intro v10 w10 O10 B10 G10 E10)
 have O10':=Lib.hid O10;have B10':=Lib.hid B10;clear O10 B10 G10 E10;go_wp2_with fail;refine (kv (B3+1) v10 _ w10 O10'.out (show 2<=1000 from by decide)).mono ?_
 rintro e w11 ⟨⟨u,rfl,O11⟩,B11⟩;have KF:Hid (Below w.heap.size w w11):=(((K5.out.1.alloc K5.out.1.size _).trans (B10'.out.mono HW1.out))).trans (B11.mono HW1.out);have OF:Hid (bJ 2 23 w.heap.size w11 u (dd RS)):=Lib.hid (by rw [HRS.out];exact O11.mono HW1.out)
 clear O11 B11;go_wp2;refine bodyPost_ret (by simp [results,Try.results7,go_sem];try rfl) rfl ⟨⟨u,rfl,OF.out⟩,KF.out⟩
