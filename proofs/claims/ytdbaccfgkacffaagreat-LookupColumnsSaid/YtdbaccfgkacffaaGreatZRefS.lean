/- The contracts of the reference's Sin and Cos, and of its Departure. -/
import Derived.Test.YtdbaccfgkacffaaGreatZRefB
set_option linter.unusedVariables false
set_option linter.unusedSimpArgs false
set_option maxRecDepth 100000
set_option maxHeartbeats 4000000
namespace Go.Proofs.YtdbaccfgkacffaaGreat
open Go.RowKit Alm
theorem OD (n:Int) (w:World) :
 Calls Tryz.prog 252 #[.int .i64 n] w fun e w'=>e=.returned (.tuple #[.int .i64 (bLo n),.int .i64 (bHi n)])/\Below w.heap.size w w':=by
 have C1:=fun w=>Bz n w
 have bb:=jQ n;cases hE:dO (aJ n)
 . have e:bHi n=bLo n+1:=(Pw n hE).2.2;rw [hE] at C1;rw [e];replace C1:=Lib.hid C1;clear e hE;generalize bLo n=L at *
   go_enter Tryz.func252,Tryz.ntmps252;go_wp2_with fail;refine (C1.out _).mono ?_;rintro e w1 ⟨rfl,hb1⟩;have H1:=Lib.hid hb1;clear hb1;go_wp2;go_ret2;exact ⟨rfl,H1.out⟩
 . rw [hE] at C1;rw [Wp n hE];replace C1:=Lib.hid C1;clear hE;generalize bLo n=L at *
   go_enter Tryz.func252,Tryz.ntmps252;go_wp2_with fail;refine (C1.out _).mono ?_;rintro e w1 ⟨rfl,hb1⟩;have H1:=Lib.hid hb1;clear hb1;go_wp2;go_ret2;exact ⟨rfl,H1.out⟩
theorem WO (lo hi n:Int) (w:World) (h:Nv lo hi) (hn:-21600000<=n/\n<=21600000) :
 Calls Tryz.prog 253 #[.agg #[.int .i64 lo,.int .i64 hi],.int .i64 n] w fun e w'=>e=.returned (.bool (d9 lo hi n))/\Below w.heap.size w w':=by
 obtain ⟨a1,a2,a3⟩:=h;obtain ⟨n1,n2⟩:=hn;obtain ⟨t1,t2,t3,t4⟩:=ko (n-lo);have hm:d9 lo hi n=decide (au (n-lo)<=hi-lo):=rfl;rw [hm];clear hm;have d1:-1200000000000<=n-lo:=by omega
 have d2:n-lo<=1200000000000:=by omega
 generalize au (n-lo)=m at *
 by_cases hs:0<=(n-lo).tmod 21600000
 . have e:=t1 hs;clear t1 t2 hs;go_enter Tryz.func253,Tryz.ntmps253;go_wp2;go_ret;exact ⟨jW (by go_light;rw [Bool.eq_iff_iff];simp<;>omega),by go_grown⟩
 . have e:=t2 (by omega)
   clear t1 t2 hs;go_enter Tryz.func253,Tryz.ntmps253;go_wp2;go_ret;exact ⟨jW (by go_light;rw [Bool.eq_iff_iff];simp<;>omega),by go_grown⟩
theorem MX (lo hi:Int):d9 lo hi (-5400000)=d9 lo hi 16200000:=by
 unfold d9 au;rw [show (-5400000-lo)%21600000=(16200000-lo)%21600000 by omega]
theorem JN (lo hi:Int) (w:World) (h:Nv lo hi) :
 Calls Tryz.prog 178 #[.agg #[.int .i64 lo,.int .i64 hi]] w fun e w'=>e=.returned (.agg #[.int .i64 (bI lo hi),.int .i64 (bL lo hi)])/\Below w.heap.size w w':=by
 have C1:=Lib.hid (fun w=>OD lo w)
 have C2:=Lib.hid (fun w=>OD hi w)
 have C3:=Lib.hid (fun w=>WO lo hi 5400000 w h (by omega))
 have C4:=fun w=>WO lo hi (-5400000) w h (by omega)
 rw [MX] at C4;replace C4:=Lib.hid C4;have e1:bI lo hi=if d9 lo hi 16200000 then -1073741824 else min (bLo lo) (bLo hi):=rfl
 have e2:bL lo hi=if d9 lo hi 5400000 then 1073741824 else max (bHi lo) (bHi hi):=rfl
 rw [e1,e2];clear e1 e2 h;generalize hmn:min (bLo lo) (bLo hi)=mn at *
 generalize hmx:max (bHi lo) (bHi hi)=mx at *
 have HMN:=Lib.hid hmn;have HMX:=Lib.hid hmx;clear hmn hmx;generalize bLo lo=b1 at *
 generalize bHi lo=b2 at *
 generalize bLo hi=b3 at *
 generalize bHi hi=b4 at *
 generalize d9 lo hi 5400000=m1 at *
 generalize d9 lo hi 16200000=m2 at *
 have K0:=Lib.hid (((az w).new w.heap.size rfl 23 #[.int .i64 lo,.int .i64 hi]).new (w.heap.size+1) (by simp) 117 #[.int .i64 0,.int .i64 0])
 go_enter Tryz.func178,Tryz.ntmps178;go_wp2_with fail;refine (C1.out _).mono ?_;rintro e w1 ⟨rfl,hb1⟩;have K1:=Lib.hid (K0.out.below hb1);clear hb1 K0;have p0:=K1.out.c (g:=w.heap.size) (t:=23) (cs:=#[.int .i64 lo,.int .i64 hi]) (by simp) (i:=0) rfl
 have p1:=K1.out.c (g:=w.heap.size) (t:=23) (cs:=#[.int .i64 lo,.int .i64 hi]) (by simp) (i:=1) rfl
 go_wp2_with fail;refine (C2.out _).mono ?_;rintro e w2 ⟨rfl,hb1⟩;have K2:=Lib.hid (K1.out.below hb1);clear hb1 K1 p0 p1;have p0:=K2.out.c (g:=w.heap.size) (t:=23) (cs:=#[.int .i64 lo,.int .i64 hi]) (by simp) (i:=0) rfl
 have p1:=K2.out.c (g:=w.heap.size) (t:=23) (cs:=#[.int .i64 lo,.int .i64 hi]) (by simp) (i:=1) rfl
 clear p0 p1;have p0:∀ X:Obj,(w2.alloc X).cell? ⟨w.heap.size,0,none⟩=some (.int .i64 lo):=fun X=>(K2.out.alloc X).c (g:=w.heap.size) (t:=23) (cs:=#[.int .i64 lo,.int .i64 hi]) (by simp) (i:=0) rfl
 have p1:∀ X:Obj,(w2.alloc X).cell? ⟨w.heap.size,1,none⟩=some (.int .i64 hi):=fun X=>(K2.out.alloc X).c (g:=w.heap.size) (t:=23) (cs:=#[.int .i64 lo,.int .i64 hi]) (by simp) (i:=1) rfl
 go_wp2_with fail
 all_goals
  refine (C3.out _).mono ?_;rintro e w3 ⟨rfl,hb1⟩;have K3:=Lib.hid ((K2.out.new w2.heap.size rfl 117 _).below hb1);clear hb1 p0 p1;have o0:=(K3.out.2 _ (List.mem_cons_self ..)).cell 0;have o1:=(K3.out.2 _ (List.mem_cons_self ..)).cell 1;have f0:=(K3.out.2 _ (List.mem_cons_self ..)).frozen 0;have f1:=(K3.out.2 _ (List.mem_cons_self ..)).frozen 1;simp at o0 o1 f0 f1;have HN:Hid (w.heap.size<w2.heap.size/\w.heap.size+1<w2.heap.size):=⟨K2.out.lt (g:=w.heap.size) (t:=23) (cs:=#[.int .i64 lo,.int .i64 hi]) (by simp),K2.out.lt (g:=w.heap.size+1) (t:=117) (cs:=#[.int .i64 0,.int .i64 0]) (by simp)⟩
  have a0:=K3.out.c (g:=w.heap.size) (t:=23) (cs:=#[.int .i64 lo,.int .i64 hi]) (by simp) (i:=0) rfl
  have a1:=K3.out.c (g:=w.heap.size) (t:=23) (cs:=#[.int .i64 lo,.int .i64 hi]) (by simp) (i:=1) rfl
  have s0:∀ u:Value,(w3.setCell ⟨w2.heap.size,1,none⟩ u).cell? ⟨w.heap.size,0,none⟩=some (.int .i64 lo):=fun u=>(cell_far _ _ _ _ _ _ (by have:=HN.out.1;go_light;omega)).trans a0
  have s1:∀ u:Value,(w3.setCell ⟨w2.heap.size,1,none⟩ u).cell? ⟨w.heap.size,1,none⟩=some (.int .i64 hi):=fun u=>(cell_far _ _ _ _ _ _ (by have:=HN.out.1;go_light;omega)).trans a1
  cases m1
 all_goals
  go_wp2_with fail;refine (C4.out _).mono ?_;rintro e w4 ⟨rfl,hb1⟩
  first
   | have K4:=Lib.hid (K3.out.below hb1)
   | have K4:=Lib.hid ((K3.out.set (by have:=HN.out;go_light;omega) (by have:=HN.out;go_light;simp;omega) 1 _).below hb1)
  clear hb1 o0 o1 f0 f1 a0 a1 s0 s1 K3 K2;have o0:=(K4.out.2 _ (List.mem_cons_self ..)).cell 0;have o1:=(K4.out.2 _ (List.mem_cons_self ..)).cell 1;have f0:=(K4.out.2 _ (List.mem_cons_self ..)).frozen 0;have f1:=(K4.out.2 _ (List.mem_cons_self ..)).frozen 1;simp at o0 o1 f0 f1;have q0:=K4.out.c (g:=w.heap.size+1) (t:=117) (cs:=#[.int .i64 0,.int .i64 0]) (by simp) (i:=0) rfl
  have q1:=K4.out.c (g:=w.heap.size+1) (t:=117) (cs:=#[.int .i64 0,.int .i64 0]) (by simp) (i:=1) rfl
  have g0:=K4.out.f (g:=w.heap.size+1) (t:=117) (cs:=#[.int .i64 0,.int .i64 0]) (by simp) 0
  have g1:=K4.out.f (g:=w.heap.size+1) (t:=117) (cs:=#[.int .i64 0,.int .i64 0]) (by simp) 1
  have s0:∀ u:Value,(w4.setCell ⟨w2.heap.size,0,none⟩ u).cell? ⟨w.heap.size+1,0,none⟩=some (.int .i64 0):=fun u=>(cell_far _ _ _ _ _ _ (by have:=HN.out.2;go_light;omega)).trans q0
  have s1:∀ u:Value,(w4.setCell ⟨w2.heap.size,0,none⟩ u).cell? ⟨w.heap.size+1,1,none⟩=some (.int .i64 0):=fun u=>(cell_far _ _ _ _ _ _ (by have:=HN.out.2;go_light;omega)).trans q1
  cases m2
 all_goals
  go_wp2;refine bodyPost_ret (by simp [results,Tryz.results178,go_sem,q0,q1,s0,s1];try rfl) rfl ?_
  refine ⟨Wu ?_ ?_,by have:=K4.out.1;have:=HN.out;go_light;go_grown⟩
  . have:=HMN.out;go_light;first|rfl|(simp;done)|(simp;omega)|omega
  . have:=HMX.out;go_light;first|rfl|(simp;done)|(simp;omega)|omega
def Oh (lo hi:Int):Int:=bI (lo+5400000) (hi+5400000)
def OL (lo hi:Int):Int:=bL (lo+5400000) (hi+5400000)
theorem ZO (lo hi:Int) (w:World) (h:bf lo hi=true) :
 Calls Tryz.prog 92 #[.agg #[.int .i64 lo,.int .i64 hi]] w fun e w'=>e=.returned (.agg #[.int .i64 (Oh lo hi),.int .i64 (OL lo hi)])/\Below w.heap.size w w':=by
 have hv:=(aV lo hi).1 h;have C1:=fun w=>JN (lo+5400000) (hi+5400000) w ⟨by omega,by omega,by omega⟩
 have e1:bI (lo+5400000) (hi+5400000)=Oh lo hi:=rfl;have e2:bL (lo+5400000) (hi+5400000)=OL lo hi:=rfl;rw [e1,e2] at C1;replace C1:=Lib.hid C1;clear e1 e2 h;obtain ⟨v1,v2,v3⟩:=hv;generalize Oh lo hi=x at *
 generalize OL lo hi=y at *
 have K0:=Lib.hid (((az w).new w.heap.size rfl 23 #[.int .i64 lo,.int .i64 hi]).new (w.heap.size+1) (by simp) 117 #[.int .i64 0,.int .i64 0])
 go_enter Tryz.func92,Tryz.ntmps92;go_wp2_with fail;refine (C1.out _).mono ?_;rintro e w1 ⟨rfl,hb1⟩;have K1:=Lib.hid (K0.out.below hb1);clear hb1 K0;have q0:=K1.out.c (g:=w.heap.size+1) (t:=117) (cs:=#[.int .i64 0,.int .i64 0]) (by simp) (i:=0) rfl
 have q1:=K1.out.c (g:=w.heap.size+1) (t:=117) (cs:=#[.int .i64 0,.int .i64 0]) (by simp) (i:=1) rfl
 have g0:=K1.out.f (g:=w.heap.size+1) (t:=117) (cs:=#[.int .i64 0,.int .i64 0]) (by simp) 0
 have g1:=K1.out.f (g:=w.heap.size+1) (t:=117) (cs:=#[.int .i64 0,.int .i64 0]) (by simp) 1
 go_wp2;refine bodyPost_ret (by simp [results,Tryz.results92,go_sem,q0,q1];try rfl) rfl ⟨rfl,by have:=K1.out.1;go_light;go_grown⟩
