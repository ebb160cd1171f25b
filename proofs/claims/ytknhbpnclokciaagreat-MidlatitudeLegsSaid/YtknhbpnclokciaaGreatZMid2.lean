/- The contracts of package midlatitude: product, Departure. -/
import Derived.Test.YtknhbpnclokciaaGreatZMid1
set_option linter.unusedVariables false
set_option linter.unusedSimpArgs false
set_option maxRecDepth 100000
namespace Go.Proofs.YtknhbpnclokciaaGreat
open Go.RowKit Alm
theorem FP (B:Nat) (flo fhi n:Int) (w:World) (hB:BK w B 82 #[.int .i64 flo,.int .i64 fhi]) (hv:fxV flo fhi=true) (hn:aX n=true) :
 Calls Tryz.prog 205 #[.int .i64 n,.pointer (some ⟨B,0,none⟩)] w fun e w'=>e=.returned (.tuple #[.int .i64 (eG flo fhi n),.int .i64 (d9 flo fhi n),.int .i64 0])/\Below w.heap.size w w':=by
 have p0:=hB.cell 0;have p1:=hB.cell 1;simp at p0 p1;have C1:=Lib.hid (fun w=>Gs flo fhi n w hv hn)
 clear hB hv hn;go_enter Tryz.func205,Tryz.ntmps205;go_wp2_with fail;refine (C1.out _).mono ?_;rintro e w1 ⟨rfl,hb1⟩;have H1:=Lib.hid hb1;clear hb1;go_wp2;go_ret3;exact ⟨rfl,H1.out⟩
def iN (flo fhi lo hi:Int):Int:=min (eG flo fhi lo) (eG flo fhi hi)
def iO (flo fhi lo hi:Int):Int:=max (d9 flo fhi lo) (d9 flo fhi hi)
def Cv (lo hi:Int):Value:=if aH lo hi then .tuple #[.agg #[.int .i64 lo,.int .i64 hi],.int .i64 0] else .tuple #[.agg #[.int .i64 0,.int .i64 0],.int .i64 5]
theorem lm (flo fhi lo hi:Int) (w:World) (hv:fxV flo fhi=true) (hl:aX lo=true) (hh:aX hi=true) :
 Calls Tryz.prog 100 #[.agg #[.int .i64 flo,.int .i64 fhi],.agg #[.int .i64 lo,.int .i64 hi]] w fun e w'=>e=.returned (Cv (iN flo fhi lo hi) (iO flo fhi lo hi))/\Below w.heap.size w w':=by
 have hmf:∀ (fn:Fn) (first cap:Array Value) (w:World),(Instr.makeFunc fn first cap).run Tryz.prog w=.ok (.func fn first cap) w:=fun _ _ _ _=>rfl
 have CB:=fun (W:World) (hW:BK W w.heap.size 82 #[.int .i64 flo,.int .i64 fhi]) (hlt:w.heap.size<W.heap.size)=>Bl w.heap.size lo hi (eG flo fhi lo) (d9 flo fhi lo) (eG flo fhi hi) (d9 flo fhi hi) W
  (Lib.hid fun w' hb=>FP w.heap.size flo fhi lo w' (hW.below hb hlt) hv hl) (Lib.hid fun w' hb=>FP w.heap.size flo fhi hi w' (hW.below hb hlt) hv hh)
 have e1:Cv (iN flo fhi lo hi) (iO flo fhi lo hi)=if aH (min (eG flo fhi lo) (eG flo fhi hi)) (max (d9 flo fhi lo) (d9 flo fhi hi)) then .tuple #[.agg #[.int .i64 (min (eG flo fhi lo) (eG flo fhi hi)),.int .i64 (max (d9 flo fhi lo) (d9 flo fhi hi))],.int .i64 0] else .tuple #[.agg #[.int .i64 0,.int .i64 0],.int .i64 5]:=rfl
 rw [e1];clear e1;have CB:=Lib.hid CB;clear hv hl hh;generalize min (eG flo fhi lo) (eG flo fhi hi)=x at *
 generalize max (d9 flo fhi lo) (d9 flo fhi hi)=y at *
 generalize aH x y=V at *
 have PA:=Lib.hid (((mq w 82 #[.int .i64 flo,.int .i64 fhi]).alloc (.cells #[.int .i64 lo,.int .i64 hi] 40)).alloc (.cells #[.int .i64 0,.int .i64 0] 40));have PR:=Lib.hid (xg ((w.alloc (.cells #[.int .i64 flo,.int .i64 fhi] 82)).alloc (.cells #[.int .i64 lo,.int .i64 hi] 40)) (w.heap.size+1+1) 40 #[.int .i64 0,.int .i64 0] (by simp))
 go_enter Tryz.func100,Tryz.ntmps100;go_wp2_with fail;refine (CB.out _ PA.out (by go_light;simp;omega)).mono ?_
 rintro e w1 ⟨rfl,hb1⟩;have H1:=Lib.hid hb1;clear hb1;have PR1:=Lib.hid (PR.out.below H1.out (by go_light;simp))
 have HB1:Hid (Below w.heap.size w w1):=((((Below.refl _ _).alloc (Nat.le_refl _) _).alloc (by go_light;simp) _).alloc (by go_light;simp<;>omega) _).trans (H1.out.mono (by go_light;simp<;>omega))
 have q0:=PR1.out.cell 0;have q1:=PR1.out.cell 1;have q2:=PR1.out.frozen 0;have q3:=PR1.out.frozen 1;simp at q0 q1;clear PA PR CB H1 PR1;cases V
 . go_wp2;refine bodyPost_ret (by simp [results,Tryz.results100,go_sem,q0,q1];try rfl) rfl ⟨rfl,by have:=HB1.out;go_light;go_grown⟩
 . go_wp2;refine bodyPost_ret (by simp [results,Tryz.results100,go_sem,q0,q1];try rfl) rfl ⟨rfl,by have:=HB1.out;go_light;go_grown⟩
def Cm (lo hi:Int):Bool:=decide (-5400000<=lo/\lo<=hi/\hi<=5400000)
theorem C9 (lo hi:Int) (w:World) :
 Calls Tryz.prog 199 #[.agg #[.int .i64 lo,.int .i64 hi]] w fun e w'=>e=.returned (.bool (Cm lo hi))/\Below w.heap.size w w':=by
 have C1:=fun w=>jb lo hi w
 have PA:=Lib.hid (mq w 40 #[.int .i64 lo,.int .i64 hi]);cases hv:aH lo hi
 . have hf:Cm lo hi=false:=by
    unfold Cm;unfold aH at hv;simp at hv ⊢;omega
   rw [hf];rw [hv] at C1;have C1:=Lib.hid C1;clear hv hf;go_enter Tryz.func199,Tryz.ntmps199;go_wp2_with fail;refine (C1.out _).mono ?_;rintro e w1 ⟨rfl,hb1⟩;have H1:=Lib.hid hb1;clear hb1;go_wp2;go_ret;exact ⟨rfl,((Below.refl _ _).alloc (Nat.le_refl _) _).trans (H1.out.mono (by go_light;simp))⟩
 . have hl:lo<=hi:=by unfold aH at hv;simp at hv;omega
   rw [hv] at C1;have C1:=Lib.hid C1;clear hv;go_enter Tryz.func199,Tryz.ntmps199;go_wp2_with fail;refine (C1.out _).mono ?_;rintro e w1 ⟨rfl,hb1⟩;have H1:=Lib.hid hb1;clear hb1;have PA1:=Lib.hid (PA.out.below H1.out (by go_light;simp))
   have p0:=PA1.out.cell 0;have p1:=PA1.out.cell 1;simp at p0 p1;go_wp2
   all_goals
    go_ret;exact ⟨dn (by go_light;unfold Cm;rw [Bool.eq_iff_iff];simp<;>omega),((Below.refl _ _).alloc (Nat.le_refl _) _).trans (H1.out.mono (by go_light;simp))⟩
