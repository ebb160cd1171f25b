/- The contracts of package midlatitude: product, Departure. -/
import Derived.Test.YtgmncdmcdgkodaaGreatZMid1
import Derived.Test.YtgmncdmcdgkodaaGreatZRefA
import Derived.Test.YtgmncdmcdgkodaaGreatZWides
set_option linter.unusedVariables false
set_option linter.unusedSimpArgs false
set_option maxRecDepth 100000
namespace Go.Proofs.YtgmncdmcdgkodaaGreat
open Go.RowKit Alm
theorem xX (B:Nat) (flo fhi n:Int) (w:World) (hB:BK w B 83 #[.int .i64 flo,.int .i64 fhi]) (hv:fxV flo fhi=true) (hn:ay n=true) :
 Calls Tryz.prog 82 #[.int .i64 n,.pointer (some ⟨B,0,none⟩)] w fun e w'=>e=.returned (.tuple #[.int .i64 (je flo fhi n),.int .i64 (ji flo fhi n),.int .i64 0])/\Below w.heap.size w w':=by
 have p0:=hB.cell 0;have p1:=hB.cell 1;simp at p0 p1;have C1:=Lib.hid (fun w=>xA flo fhi n w hv hn)
 clear hB hv hn;go_enter Tryz.func82,Tryz.ntmps82;go_wp2_with fail;refine (C1.out _).mono ?_;rintro e w1 ⟨rfl,hb1⟩;have H1:=Lib.hid hb1;clear hb1;go_wp2;go_ret3;exact ⟨rfl,H1.out⟩
def nE (flo fhi lo hi:Int):Int:=min (je flo fhi lo) (je flo fhi hi)
def oI (flo fhi lo hi:Int):Int:=max (ji flo fhi lo) (ji flo fhi hi)
def FO (lo hi:Int):Value:=if aC lo hi then .tuple #[.agg #[.int .i64 lo,.int .i64 hi],.int .i64 0] else .tuple #[.agg #[.int .i64 0,.int .i64 0],.int .i64 5]
theorem pX (flo fhi lo hi:Int) (w:World) (hv:fxV flo fhi=true) (hl:ay lo=true) (hh:ay hi=true) :
 Calls Tryz.prog 68 #[.agg #[.int .i64 flo,.int .i64 fhi],.agg #[.int .i64 lo,.int .i64 hi]] w fun e w'=>e=.returned (FO (nE flo fhi lo hi) (oI flo fhi lo hi))/\Below w.heap.size w w':=by
 have hmf:∀ (fn:Fn) (first cap:Array Value) (w:World),(Instr.makeFunc fn first cap).run Tryz.prog w=.ok (.func fn first cap) w:=fun _ _ _ _=>rfl
 have CB:=fun (W:World) (hW:BK W w.heap.size 83 #[.int .i64 flo,.int .i64 fhi]) (hlt:w.heap.size<W.heap.size)=>vz w.heap.size lo hi (je flo fhi lo) (ji flo fhi lo) (je flo fhi hi) (ji flo fhi hi) W
  (Lib.hid fun w' hb=>xX w.heap.size flo fhi lo w' (hW.below hb hlt) hv hl) (Lib.hid fun w' hb=>xX w.heap.size flo fhi hi w' (hW.below hb hlt) hv hh)
 have e1:FO (nE flo fhi lo hi) (oI flo fhi lo hi)=if aC (min (je flo fhi lo) (je flo fhi hi)) (max (ji flo fhi lo) (ji flo fhi hi)) then .tuple #[.agg #[.int .i64 (min (je flo fhi lo) (je flo fhi hi)),.int .i64 (max (ji flo fhi lo) (ji flo fhi hi))],.int .i64 0] else .tuple #[.agg #[.int .i64 0,.int .i64 0],.int .i64 5]:=rfl
 rw [e1];clear e1;have CB:=Lib.hid CB;clear hv hl hh;generalize min (je flo fhi lo) (je flo fhi hi)=x at *
 generalize max (ji flo fhi lo) (ji flo fhi hi)=y at *
 generalize aC x y=V at *
 have PA:=Lib.hid (((gB w 83 #[.int .i64 flo,.int .i64 fhi]).alloc (.cells #[.int .i64 lo,.int .i64 hi] 23)).alloc (.cells #[.int .i64 0,.int .i64 0] 23));have PR:=Lib.hid (qj ((w.alloc (.cells #[.int .i64 flo,.int .i64 fhi] 83)).alloc (.cells #[.int .i64 lo,.int .i64 hi] 23)) (w.heap.size+1+1) 23 #[.int .i64 0,.int .i64 0] (by simp))
 go_enter Tryz.func68,Tryz.ntmps68;go_wp2_with fail;refine (CB.out _ PA.out (by go_light;simp;omega)).mono ?_
 rintro e w1 ⟨rfl,hb1⟩;have H1:=Lib.hid hb1;clear hb1;have PR1:=Lib.hid (PR.out.below H1.out (by go_light;simp))
 have HB1:Hid (Below w.heap.size w w1):=((((Below.refl _ _).alloc (Nat.le_refl _) _).alloc (by go_light;simp) _).alloc (by go_light;simp<;>omega) _).trans (H1.out.mono (by go_light;simp<;>omega))
 have q0:=PR1.out.cell 0;have q1:=PR1.out.cell 1;have q2:=PR1.out.frozen 0;have q3:=PR1.out.frozen 1;simp at q0 q1;clear PA PR CB H1 PR1;cases V
 . go_wp2;refine bodyPost_ret (by simp [results,Tryz.results68,go_sem,q0,q1];try rfl) rfl ⟨rfl,by have:=HB1.out;go_light;go_grown⟩
 . go_wp2;refine bodyPost_ret (by simp [results,Tryz.results68,go_sem,q0,q1];try rfl) rfl ⟨rfl,by have:=HB1.out;go_light;go_grown⟩
def sF (lo hi:Int):Bool:=decide (-5400000<=lo/\lo<=hi/\hi<=5400000)
theorem wX (lo hi:Int) (w:World) :
 Calls Tryz.prog 53 #[.agg #[.int .i64 lo,.int .i64 hi]] w fun e w'=>e=.returned (.bool (sF lo hi))/\Below w.heap.size w w':=by
 have C1:=fun w=>bX lo hi w
 have PA:=Lib.hid (gB w 23 #[.int .i64 lo,.int .i64 hi]);cases hv:aC lo hi
 . have hf:sF lo hi=false:=by
    unfold sF;unfold aC at hv;simp at hv ⊢;omega
   rw [hf];rw [hv] at C1;have C1:=Lib.hid C1;clear hv hf;go_enter Tryz.func53,Tryz.ntmps53;go_wp2_with fail;refine (C1.out _).mono ?_;rintro e w1 ⟨rfl,hb1⟩;have H1:=Lib.hid hb1;clear hb1;go_wp2;go_ret;exact ⟨rfl,((Below.refl _ _).alloc (Nat.le_refl _) _).trans (H1.out.mono (by go_light;simp))⟩
 . have hl:lo<=hi:=by unfold aC at hv;simp at hv;omega
   rw [hv] at C1;have C1:=Lib.hid C1;clear hv;go_enter Tryz.func53,Tryz.ntmps53;go_wp2_with fail;refine (C1.out _).mono ?_;rintro e w1 ⟨rfl,hb1⟩;have H1:=Lib.hid hb1;clear hb1;have PA1:=Lib.hid (PA.out.below H1.out (by go_light;simp))
   have p0:=PA1.out.cell 0;have p1:=PA1.out.cell 1;simp at p0 p1;go_wp2
   all_goals
    go_ret;exact ⟨bV (by go_light;unfold sF;rw [Bool.eq_iff_iff];simp<;>omega),((Below.refl _ _).alloc (Nat.le_refl _) _).trans (H1.out.mono (by go_light;simp))⟩
end Go.Proofs.YtgmncdmcdgkodaaGreat
namespace Go.Proofs.YtgmncdmcdgkodaaGreat
open Go.RowKit Alm
theorem fu {lo hi:Int} (h:aC lo hi=true):ay lo=true/\ay hi=true:=by
 have:=(aG lo hi).1 h;unfold ay;simp;omega
theorem yK {lo hi:Int} (h:sF lo hi=true):aC lo hi=true:=by
 unfold sF at h;rw [aG];simp at h;omega
