/- Package rhumb's numbers: comparison with 0, the double, the half, 1. -/
import Derived.Test.YtpcfajiiijndiaaGreatZRn2
import Derived.Test.YtpcfajiiijndiaaGreatZRnN
import Derived.Test.YtpcfajiiijndiaaGreatZKp
import Derived.Deep.QuietTactic
import Derived.BigQuiet
import Derived.Deep.Light
set_option linter.unusedVariables false
set_option linter.unusedSimpArgs false
set_option maxRecDepth 100000
namespace Go.Proofs.YtpcfajiiijndiaaGreat
open Go.RowKit Alm
theorem vv (w:World) (d:Nat) (hu:∀ w (a b:Int),(Op.equalIn d 117 (.int .u64 a) (.int .u64 b)).run Tryz.prog w=.ok (a==b) w) (a0 a1 a2 a3 b0 b1 b2 b3:Int):(Op.equalIn (d+1) 126 (.agg #[.int .u64 a0,.int .u64 a1,.int .u64 a2,.int .u64 a3]) (.agg #[.int .u64 b0,.int .u64 b1,.int .u64 b2,.int .u64 b3])).run Tryz.prog w=.ok (a0==b0&&(a1==b1&&(a2==b2&&a3==b3))) w:=by
 have hs:∀ w,(sizeOf 117).run Tryz.prog w=.ok 1 w:=fun _=>by kernel_rfl
 have hg:∀ w,(isAgg 117).run Tryz.prog w=.ok false w:=fun _=>by kernel_rfl
 simp only [Op.equalIn,Sem.run_bind,run_underlying Tryz.underlying126,Result.andThen_ok,hs];simp [Std.Legacy.Range.forIn_eq_forIn_range',Std.Legacy.Range.size,List.range',part,hg,hu]
 by_cases h0:a0=b0<;>by_cases h1:a1=b1<;>by_cases h2:a2=b2<;>by_cases h3:a3=b3<;>simp [h0,h1,h2,h3,hu,hg,part]
theorem zT (w:World) (a0 a1 a2 a3 b0 b1 b2 b3:Int):(binOp .neq 126 (.agg #[.int .u64 a0,.int .u64 a1,.int .u64 a2,.int .u64 a3]) (.agg #[.int .u64 b0,.int .u64 b1,.int .u64 b2,.int .u64 b3])).run Tryz.prog w=.ok (.bool (!(a0==b0&&(a1==b1&&(a2==b2&&a3==b3))))) w:=by
 rw [run_neq_struct,vv w 9999 (fun w a b=>FD w 9998 a b)];rfl
theorem ww (w:World) (A:Nat) (hA:A<W):(binOp .neq 126 (.agg #[.int .u64 (nl (A) 3),.int .u64 (nl (A) 2),.int .u64 (nl (A) 1),.int .u64 (nl (A) 0)]) (.agg #[.int .u64 0,.int .u64 0,.int .u64 0,.int .u64 0])).run Tryz.prog w=.ok (.bool (!(decide (A=0)))) w:=by
 rw [zT,show (nl A 3==0&&(nl A 2==0&&(nl A 1==0&&nl A 0==0)))=(nl A 0==0&&(nl A 1==0&&(nl A 2==0&&nl A 3==0))) from by cases nl A 0==0<;>cases nl A 1==0<;>cases nl A 2==0<;>cases nl A 3==0<;>rfl,AQ A hA]
def nv (A:Nat):Array Value:=#[.int .u64 (nl A 3),.int .u64 (nl A 2),.int .u64 (nl A 1),.int .u64 (nl A 0)]
theorem wy:nv 0=#[.int .u64 0,.int .u64 0,.int .u64 0,.int .u64 0]:=by simp [nv,nl]
theorem dB {w wr:World} {l l':List (Nat × TypeId × Array Value)} {g A:Nat} {t:TypeId} (h:KS w wr l) (hm:(g,t,nv A)∈l) (hn:w.heap.size<=g) (hd:∀ p∈l',p.1≠g) (hl:∀ p∈l',p∈l) (B:Nat) :
 KS w ((((wr.setCell ⟨g,0,none⟩ (.int .u64 (nl B 3))).setCell ⟨g,1,none⟩ (.int .u64 (nl B 2))).setCell ⟨g,2,none⟩ (.int .u64 (nl B 1))).setCell ⟨g,3,none⟩ (.int .u64 (nl B 0))) ((g,t,nv B)::l'):=by
 have h1:=h.sub (l':=(g,t,nv A)::l') (fun p hp=>by
  rcases List.mem_cons.1 hp with rfl|hp
  . exact hm
  . exact hl p hp)
 exact (((h1.set hn hd 0 _).set hn hd 1 _).set hn hd 2 _).set hn hd 3 _
theorem KS.n4 {w wr:World} {l:List (Nat × TypeId × Array Value)} {g A:Nat} {t:TypeId} (h:KS w wr l) (hm:(g,t,nv A)∈l):(wr.cell? ⟨g,0,none⟩=some (.int .u64 (nl A 3))/\wr.cell? ⟨g,1,none⟩=some (.int .u64 (nl A 2))/\wr.cell? ⟨g,2,none⟩=some (.int .u64 (nl A 1))/\wr.cell? ⟨g,3,none⟩=some (.int .u64 (nl A 0)))/\wr.frozen? ⟨g,0,none⟩=false/\wr.frozen? ⟨g,1,none⟩=false/\wr.frozen? ⟨g,2,none⟩=false/\wr.frozen? ⟨g,3,none⟩=false :=
 ⟨⟨h.c hm (i:=0) rfl,h.c hm (i:=1) rfl,h.c hm (i:=2) rfl,h.c hm (i:=3) rfl⟩,h.f hm 0,h.f hm 1,h.f hm 2,h.f hm 3⟩
theorem Ex (w:World):Calls Tryz.prog 99 #[] w fun e w'=>e=.returned (.agg #[.int .u64 (nl (QA) 3),.int .u64 (nl (QA) 2),.int .u64 (nl (QA) 1),.int .u64 (nl (QA) 0)])/\Below w.heap.size w w':=by
 have e0:nl QA 0=1:=by unfold nl QA;decide +kernel
 have e1:nl QA 1=0:=by unfold nl QA;decide +kernel
 have e2:nl QA 2=0:=by unfold nl QA;decide +kernel
 have e3:nl QA 3=0:=by unfold nl QA;decide +kernel
 rw [e0,e1,e2,e3];clear e0 e1 e2 e3;go_enter Tryz.func99,Tryz.ntmps99;go_wp2;refine bodyPost_ret (by simp [results,Tryz.results99,go_sem];try rfl) rfl ⟨rfl,by go_grown⟩
theorem jN (A:Nat) (h:A+A<W) (w:World):Calls Tryz.prog 108 #[.agg #[.int .u64 (nl (A) 3),.int .u64 (nl (A) 2),.int .u64 (nl (A) 1),.int .u64 (nl (A) 0)]] w fun e w'=>e=.returned (.agg #[.int .u64 (nl (A+A) 3),.int .u64 (nl (A+A) 2),.int .u64 (nl (A+A) 1),.int .u64 (nl (A+A) 0)])/\Below w.heap.size w w':=by
 have C:Hid (∀ w:World,_):=Lib.hid (fun w=>eX A A h w)
 have K0:=Lib.hid (((aM w).new w.heap.size rfl 126 (nv A)).new (w.heap.size+1) (by simp) 126 (nv 0))
 rw [wy] at K0;go_enter Tryz.func108,Tryz.ntmps108;go_wp2_with fail;refine (C.out _).mono ?_;rintro e w1 ⟨rfl,hb1⟩;have K1:=Lib.hid (K0.out.below hb1);clear hb1 K0 C;have f0:=K1.out.f (g:=w.heap.size+1) (t:=126) (cs:=#[.int .u64 0,.int .u64 0,.int .u64 0,.int .u64 0]) (by simp) 0
 have f1:=K1.out.f (g:=w.heap.size+1) (t:=126) (cs:=#[.int .u64 0,.int .u64 0,.int .u64 0,.int .u64 0]) (by simp) 1
 have f2:=K1.out.f (g:=w.heap.size+1) (t:=126) (cs:=#[.int .u64 0,.int .u64 0,.int .u64 0,.int .u64 0]) (by simp) 2
 have f3:=K1.out.f (g:=w.heap.size+1) (t:=126) (cs:=#[.int .u64 0,.int .u64 0,.int .u64 0,.int .u64 0]) (by simp) 3
 have q0:=K1.out.c (g:=w.heap.size+1) (t:=126) (cs:=#[.int .u64 0,.int .u64 0,.int .u64 0,.int .u64 0]) (by simp) (i:=0) rfl
 have q1:=K1.out.c (g:=w.heap.size+1) (t:=126) (cs:=#[.int .u64 0,.int .u64 0,.int .u64 0,.int .u64 0]) (by simp) (i:=1) rfl
 have q2:=K1.out.c (g:=w.heap.size+1) (t:=126) (cs:=#[.int .u64 0,.int .u64 0,.int .u64 0,.int .u64 0]) (by simp) (i:=2) rfl
 have q3:=K1.out.c (g:=w.heap.size+1) (t:=126) (cs:=#[.int .u64 0,.int .u64 0,.int .u64 0,.int .u64 0]) (by simp) (i:=3) rfl
 go_wp2;refine bodyPost_ret (by simp [results,Tryz.results108,go_sem,q0,q1,q2,q3];try rfl) rfl ⟨rfl,by have:=K1.out.1;go_light;go_grown⟩
theorem pX (A:Nat) (h:A<W) (w:World):Calls Tryz.prog 103 #[.agg #[.int .u64 (nl (A) 3),.int .u64 (nl (A) 2),.int .u64 (nl (A) 1),.int .u64 (nl (A) 0)]] w fun e w'=>e=.returned (.agg #[.int .u64 (nl (A/2) 3),.int .u64 (nl (A/2) 2),.int .u64 (nl (A/2) 1),.int .u64 (nl (A/2) 0)])/\Below w.heap.size w w':=by
 have C:Hid (∀ w:World,_):=Lib.hid (fun w=>iw A 2 h (by unfold U64;omega) (by omega) w)
 have K0:=Lib.hid (((aM w).new w.heap.size rfl 126 (nv A)).new (w.heap.size+1) (by simp) 126 (nv 0))
 rw [wy] at K0;go_enter Tryz.func103,Tryz.ntmps103;go_wp2_with fail;refine (C.out _).mono ?_;rintro e w1 ⟨rfl,hb1⟩;have K1:=Lib.hid (K0.out.below hb1);clear hb1 K0 C;have f0:=K1.out.f (g:=w.heap.size+1) (t:=126) (cs:=#[.int .u64 0,.int .u64 0,.int .u64 0,.int .u64 0]) (by simp) 0
 have f1:=K1.out.f (g:=w.heap.size+1) (t:=126) (cs:=#[.int .u64 0,.int .u64 0,.int .u64 0,.int .u64 0]) (by simp) 1
 have f2:=K1.out.f (g:=w.heap.size+1) (t:=126) (cs:=#[.int .u64 0,.int .u64 0,.int .u64 0,.int .u64 0]) (by simp) 2
 have f3:=K1.out.f (g:=w.heap.size+1) (t:=126) (cs:=#[.int .u64 0,.int .u64 0,.int .u64 0,.int .u64 0]) (by simp) 3
 have q0:=K1.out.c (g:=w.heap.size+1) (t:=126) (cs:=#[.int .u64 0,.int .u64 0,.int .u64 0,.int .u64 0]) (by simp) (i:=0) rfl
 have q1:=K1.out.c (g:=w.heap.size+1) (t:=126) (cs:=#[.int .u64 0,.int .u64 0,.int .u64 0,.int .u64 0]) (by simp) (i:=1) rfl
 have q2:=K1.out.c (g:=w.heap.size+1) (t:=126) (cs:=#[.int .u64 0,.int .u64 0,.int .u64 0,.int .u64 0]) (by simp) (i:=2) rfl
 have q3:=K1.out.c (g:=w.heap.size+1) (t:=126) (cs:=#[.int .u64 0,.int .u64 0,.int .u64 0,.int .u64 0]) (by simp) (i:=3) rfl
 go_wp2;refine bodyPost_ret (by simp [results,Tryz.results103,go_sem,q0,q1,q2,q3];try rfl) rfl ⟨rfl,by have:=K1.out.1;go_light;go_grown⟩
