/- The contracts of package midlatitude: both, product. -/
import Derived.Test.YtmldbeipmappnaaZFixed2
import Derived.Test.YtmldbeipmappnaaZRefA
import Derived.Test.YtmldbeipmappnaaZWides
import Derived.Test.YtmldbeipmappnaaZKp
set_option linter.unusedVariables false
set_option linter.unusedSimpArgs false
set_option maxRecDepth 100000
set_option maxHeartbeats 1000000
namespace Go.Proofs.Ytmldbeipmappnaa
open Go.RowKit Alm
theorem ajy {k k':IntKind} {a b c d:Int} {v:Value} (h:a=b) (h':c=d):Ending.returned (.tuple #[.agg #[.int k a,.int k' c],v])=.returned (.tuple #[.agg #[.int k b,.int k' d],v]):=by rw [h,h']
theorem ajt (n:Int) (w:World) :
 Calls Try.prog 123 #[.int .i64 n] w fun e w'=>e=.returned (.bool (jP n))/\w=w':=by
 go_enter Try.func123,Try.ntmps123;go_wp2
 all_goals
  go_ret;exact ⟨qR (by unfold jP;rw [Bool.eq_iff_iff];simp<;>omega),rfl⟩
theorem aid (lo hi:Int) (w:World) :
 Calls Try.prog 62 #[.agg #[.int .i64 lo,.int .i64 hi]] w fun e w'=>e=.returned (.bool (cu lo hi))/\Below w.heap.size w w':=by
 have C1:=Lib.hid (fun w=>ajt lo w)
 have C2:=Lib.hid (fun w=>ajt hi w)
 have e1:cu lo hi=(decide (lo<=hi)&&jP lo&&jP hi):=by unfold cu jP;rw [Bool.eq_iff_iff];simp;omega
 rw [e1];clear e1;generalize jP lo=u at *
 generalize jP hi=v at *
 by_cases h:lo<=hi
 . have hd:decide (lo<=hi)=true:=by simpa using h
   rw [hd];cases u
   . go_enter Try.func62,Try.ntmps62;go_wp2_with fail;refine (C1.out _).mono ?_;rintro e w' ⟨rfl,rfl⟩;go_wp2;go_ret;exact ⟨rfl,by go_grown⟩
   . go_enter Try.func62,Try.ntmps62;go_wp2_with fail;refine (C1.out _).mono ?_;rintro e w' ⟨rfl,rfl⟩;go_wp2_with fail;refine (C2.out _).mono ?_;rintro e w' ⟨rfl,rfl⟩;go_wp2;go_ret;exact ⟨by cases v<;>rfl,by go_grown⟩
 . have hd:decide (lo<=hi)=false:=by simpa using h
   rw [hd];go_enter Try.func62,Try.ntmps62;go_wp2;go_ret;exact ⟨rfl,by go_grown⟩
theorem aiO (B:Nat) (lo hi a b c d:Int) (w:World)
 (K1:Hid (∀ w',Below w.heap.size w w'->Calls Try.prog 157 #[.int .i64 lo,.pointer (some ⟨B,0,none⟩)] w' fun e w''=>e=.returned (.tuple #[.int .i64 a,.int .i64 b,.int .i64 0])/\Below w'.heap.size w' w''))
 (K2:Hid (∀ w',Below w.heap.size w w'->Calls Try.prog 157 #[.int .i64 hi,.pointer (some ⟨B,0,none⟩)] w' fun e w''=>e=.returned (.tuple #[.int .i64 c,.int .i64 d,.int .i64 0])/\Below w'.heap.size w' w''))
 : Calls Try.prog 111 #[.agg #[.int .i64 lo,.int .i64 hi],.func (.func 157) #[] #[.pointer (some ⟨B,0,none⟩)]] w fun e w' =>
  e=.returned (if cu (min a c) (max b d) then .tuple #[.agg #[.int .i64 (min a c),.int .i64 (max b d)],.int .i64 0] else .tuple #[.agg #[.int .i64 0,.int .i64 0],.int .i64 5])/\Below w.heap.size w w':=by
 have F1:=Lib.hid (show a<=c->d<=b->cu a b=cu (min a c) (max b d) from fun h1 h2=>by rw [Int.min_eq_left h1,Int.max_eq_left h2])
 have F2:=Lib.hid (show a<=c->b<=d->cu a d=cu (min a c) (max b d) from fun h1 h2=>by rw [Int.min_eq_left h1,Int.max_eq_right h2])
 have F3:=Lib.hid (show c<=a->d<=b->cu c b=cu (min a c) (max b d) from fun h1 h2=>by rw [Int.min_eq_right h1,Int.max_eq_left h2])
 have F4:=Lib.hid (show c<=a->b<=d->cu c d=cu (min a c) (max b d) from fun h1 h2=>by rw [Int.min_eq_right h1,Int.max_eq_right h2])
 generalize cu (min a c) (max b d)=V at *
 have PA:=Lib.hid (LQ w 26 #[.int .i64 lo,.int .i64 hi]);have PR:=Lib.hid (aei (w.alloc (.cells #[.int .i64 lo,.int .i64 hi] 26)) (w.heap.size+1) 26 #[.int .i64 0,.int .i64 0] (by simp))
 have PO:=Lib.hid (aei ((w.alloc (.cells #[.int .i64 lo,.int .i64 hi] 26)).alloc (.cells #[.int .i64 0,.int .i64 0] 26)) (w.heap.size+1+1) 26 #[.int .i64 0,.int .i64 0] (by simp))
 have i0:∀ w,(Instr.index 141 (.agg #[.int .i64 lo,.int .i64 hi]) (.int .i64 0)).run Try.prog w=.ok (.int .i64 lo) w:=fun _=>by kernel_rfl
 have i1:∀ w,(Instr.index 141 (.agg #[.int .i64 lo,.int .i64 hi]) (.int .i64 1)).run Try.prog w=.ok (.int .i64 hi) w:=fun _=>by kernel_rfl
 have HB0:Hid (Below w.heap.size w (((w.alloc (.cells #[.int .i64 lo,.int .i64 hi] 26)).alloc (.cells #[.int .i64 0,.int .i64 0] 26)).alloc (.cells #[.int .i64 0,.int .i64 0] 26))):=(((Below.refl _ _).alloc (Nat.le_refl _) _).alloc (by simp) _).alloc (by simp<;>omega) _
 go_enter Try.func111,Try.ntmps111;go_wp2;refine wp_loop_rounds 3 ?_;rw [rounds_succ];go_wp2_with fail;refine (K1.out _ HB0.out).mono ?_;rintro e w1 ⟨rfl,hb1⟩;have H1:=Lib.hid hb1;clear hb1;have S1:=Lib.hid (show w.heap.size+1+1<w1.heap.size by go_light;have:=H1.out.size;simp at this;omega)
 have PR1:=Lib.hid (((PR.out.alloc _)).below H1.out (by simp<;>omega))
 have PO1:=Lib.hid (PO.out.below H1.out (by simp<;>omega))
 have HB1:Hid (Below w.heap.size w w1):=HB0.out.trans (H1.out.mono (by simp<;>omega))
 clear PR PO H1 HB0 PA;have p0:=PO1.out.cell 0;have p1:=PO1.out.cell 1;have gp0:=PO1.out.frozen 0;have gp1:=PO1.out.frozen 1;go_wp2_with fail;rw [rounds_succ];go_wp2_with fail;have PO2:=Lib.hid ((((PO1.out.set 0 (.int .i64 a)).set 1 (.int .i64 b)).set 0 (.int .i64 a)).set 1 (.int .i64 b));have PR2:=Lib.hid ((((PR1.out.far (p:=⟨w.heap.size+1+1,0,none⟩) (by simp) (.int .i64 a)).far (p:=⟨w.heap.size+1+1,1,none⟩) (by simp) (.int .i64 b)).far (p:=⟨w.heap.size+1+1,0,none⟩) (by simp) (.int .i64 a)).far (p:=⟨w.heap.size+1+1,1,none⟩) (by simp) (.int .i64 b))
 have HB2:Hid (Below w.heap.size w ((((w1.setCell ⟨w.heap.size+1+1,0,none⟩ (.int .i64 a)).setCell ⟨w.heap.size+1+1,1,none⟩ (.int .i64 b)).setCell ⟨w.heap.size+1+1,0,none⟩ (.int .i64 a)).setCell ⟨w.heap.size+1+1,1,none⟩ (.int .i64 b))) :=
  (((HB1.out.setCell (le2 _) _).setCell (le2 _) _).setCell (le2 _) _).setCell (le2 _) _
 clear PO1 PR1 HB1;clear p0 p1 gp0 gp1;have hsz:(((((w1.setCell ⟨w.heap.size+1+1,0,none⟩ (.int .i64 a)).setCell ⟨w.heap.size+1+1,1,none⟩ (.int .i64 b)).setCell ⟨w.heap.size+1+1,0,none⟩ (.int .i64 a)).setCell ⟨w.heap.size+1+1,1,none⟩ (.int .i64 b))).heap.size=w1.heap.size:=by simp [World.setCell]
 have HSZ:=Lib.hid hsz;clear hsz;generalize ((((w1.setCell ⟨w.heap.size+1+1,0,none⟩ (.int .i64 a)).setCell ⟨w.heap.size+1+1,1,none⟩ (.int .i64 b)).setCell ⟨w.heap.size+1+1,0,none⟩ (.int .i64 a)).setCell ⟨w.heap.size+1+1,1,none⟩ (.int .i64 b))=w2 at *
 refine (K2.out _ HB2.out).mono ?_;rintro e w3 ⟨rfl,hb1⟩;have H3:=Lib.hid hb1;clear hb1;have PR3:=Lib.hid (PR2.out.below H3.out (by go_light;have:=HSZ.out;have:=S1.out;omega))
 have PO3:=Lib.hid (PO2.out.below H3.out (by go_light;have:=HSZ.out;have:=S1.out;omega))
 have HB3:Hid (Below w.heap.size w w3):=HB2.out.trans (H3.out.mono (by go_light;have:=HSZ.out;have:=S1.out;omega))
 have S3:=Lib.hid (show w.heap.size+1+1<w3.heap.size by go_light;have:=H3.out.size;have:=HSZ.out;have:=S1.out;omega)
 have p0:w3.cell? ⟨w.heap.size+1+1,0,none⟩=some (.int .i64 a):=by have h:=PO3.out.cell 0;simp at h;exact h
 have p1:w3.cell? ⟨w.heap.size+1+1,1,none⟩=some (.int .i64 b):=by have h:=PO3.out.cell 1;simp at h;exact h
 have g0:w3.frozen? ⟨w.heap.size+1+1,0,none⟩=false:=PO3.out.frozen 0;have g1:w3.frozen? ⟨w.heap.size+1+1,1,none⟩=false:=PO3.out.frozen 1;clear PR2 PO2 HB2 H3 HSZ;go_wp2_with fail
 all_goals
  rw [rounds_succ];go_wp2_with fail;refine (aid _ _ _).mono ?_;rintro e w5 ⟨rfl,hb1⟩;have H5:=Lib.hid hb1;clear hb1 p0 p1 g0 g1;have PO5:=Lib.hid (BK.below ((PO3.out.set 0 _).set 1 _) H5.out (by rw [aie,aie];exact S3.out))
  have PR5:=Lib.hid (BK.below ((PR3.out.far (p:=⟨w.heap.size+1+1,0,none⟩) (by simp) _).far (p:=⟨w.heap.size+1+1,1,none⟩) (by simp) _) H5.out (by rw [aie,aie];exact Nat.lt_of_succ_lt S3.out))
  have HB5:Hid (Below w.heap.size w w5):=((HB3.out.setCell (le2 _) _).setCell (le2 _) _).trans (H5.out.mono (by rw [aie,aie];exact HB3.out.size))
  have p0:=PO5.out.cell 0;have p1:=PO5.out.cell 1;have q0:=PR5.out.cell 0;have q1:=PR5.out.cell 1;have q2:=PR5.out.frozen 0;have q3:=PR5.out.frozen 1;simp at p0 p1 q0 q1;clear PO3 PR3 HB3 S3 H5 PO5 PR5
  first|rw [F1.out (by go_light;omega) (by go_light;omega)]|rw [F2.out (by go_light;omega) (by go_light;omega)]|rw [F3.out (by go_light;omega) (by go_light;omega)]|rw [F4.out (by go_light;omega) (by go_light;omega)]
  cases V
 all_goals
  go_wp2;refine bodyPost_ret (by simp [results,Try.results111,go_sem,q0,q1];try rfl) rfl ⟨?_,by have:=HB5.out;go_light;go_grown⟩
  go_light
  first|rfl|exact ajy (by omega) (by omega)
theorem air (B C:Nat) (lo hi a b c d:Int) (w:World)
 (K1:Hid (∀ w',Below w.heap.size w w'->Calls Try.prog 112 #[.int .i64 lo,.pointer (some ⟨B,0,none⟩),.pointer (some ⟨C,0,none⟩)] w' fun e w''=>e=.returned (.tuple #[.int .i64 a,.int .i64 b,.int .i64 0])/\Below w'.heap.size w' w''))
 (K2:Hid (∀ w',Below w.heap.size w w'->Calls Try.prog 112 #[.int .i64 hi,.pointer (some ⟨B,0,none⟩),.pointer (some ⟨C,0,none⟩)] w' fun e w''=>e=.returned (.tuple #[.int .i64 c,.int .i64 d,.int .i64 0])/\Below w'.heap.size w' w''))
 : Calls Try.prog 111 #[.agg #[.int .i64 lo,.int .i64 hi],.func (.func 112) #[] #[.pointer (some ⟨B,0,none⟩),.pointer (some ⟨C,0,none⟩)]] w fun e w' =>
  e=.returned (if cu (min a c) (max b d) then .tuple #[.agg #[.int .i64 (min a c),.int .i64 (max b d)],.int .i64 0] else .tuple #[.agg #[.int .i64 0,.int .i64 0],.int .i64 5])/\Below w.heap.size w w':=by
 have F1:=Lib.hid (show a<=c->d<=b->cu a b=cu (min a c) (max b d) from fun h1 h2=>by rw [Int.min_eq_left h1,Int.max_eq_left h2])
 have F2:=Lib.hid (show a<=c->b<=d->cu a d=cu (min a c) (max b d) from fun h1 h2=>by rw [Int.min_eq_left h1,Int.max_eq_right h2])
 have F3:=Lib.hid (show c<=a->d<=b->cu c b=cu (min a c) (max b d) from fun h1 h2=>by rw [Int.min_eq_right h1,Int.max_eq_left h2])
 have F4:=Lib.hid (show c<=a->b<=d->cu c d=cu (min a c) (max b d) from fun h1 h2=>by rw [Int.min_eq_right h1,Int.max_eq_right h2])
 generalize cu (min a c) (max b d)=V at *
 have PA:=Lib.hid (LQ w 26 #[.int .i64 lo,.int .i64 hi]);have PR:=Lib.hid (aei (w.alloc (.cells #[.int .i64 lo,.int .i64 hi] 26)) (w.heap.size+1) 26 #[.int .i64 0,.int .i64 0] (by simp))
 have PO:=Lib.hid (aei ((w.alloc (.cells #[.int .i64 lo,.int .i64 hi] 26)).alloc (.cells #[.int .i64 0,.int .i64 0] 26)) (w.heap.size+1+1) 26 #[.int .i64 0,.int .i64 0] (by simp))
 have i0:∀ w,(Instr.index 141 (.agg #[.int .i64 lo,.int .i64 hi]) (.int .i64 0)).run Try.prog w=.ok (.int .i64 lo) w:=fun _=>by kernel_rfl
 have i1:∀ w,(Instr.index 141 (.agg #[.int .i64 lo,.int .i64 hi]) (.int .i64 1)).run Try.prog w=.ok (.int .i64 hi) w:=fun _=>by kernel_rfl
 have HB0:Hid (Below w.heap.size w (((w.alloc (.cells #[.int .i64 lo,.int .i64 hi] 26)).alloc (.cells #[.int .i64 0,.int .i64 0] 26)).alloc (.cells #[.int .i64 0,.int .i64 0] 26))):=(((Below.refl _ _).alloc (Nat.le_refl _) _).alloc (by simp) _).alloc (by simp<;>omega) _
 go_enter Try.func111,Try.ntmps111;go_wp2;refine wp_loop_rounds 3 ?_;rw [rounds_succ];go_wp2_with fail;refine (K1.out _ HB0.out).mono ?_;rintro e w1 ⟨rfl,hb1⟩;have H1:=Lib.hid hb1;clear hb1;have S1:=Lib.hid (show w.heap.size+1+1<w1.heap.size by go_light;have:=H1.out.size;simp at this;omega)
 have PR1:=Lib.hid (((PR.out.alloc _)).below H1.out (by simp<;>omega))
 have PO1:=Lib.hid (PO.out.below H1.out (by simp<;>omega))
 have HB1:Hid (Below w.heap.size w w1):=HB0.out.trans (H1.out.mono (by simp<;>omega))
 clear PR PO H1 HB0 PA;have p0:=PO1.out.cell 0;have p1:=PO1.out.cell 1;have gp0:=PO1.out.frozen 0;have gp1:=PO1.out.frozen 1;go_wp2_with fail;rw [rounds_succ];go_wp2_with fail;have PO2:=Lib.hid ((((PO1.out.set 0 (.int .i64 a)).set 1 (.int .i64 b)).set 0 (.int .i64 a)).set 1 (.int .i64 b));have PR2:=Lib.hid ((((PR1.out.far (p:=⟨w.heap.size+1+1,0,none⟩) (by simp) (.int .i64 a)).far (p:=⟨w.heap.size+1+1,1,none⟩) (by simp) (.int .i64 b)).far (p:=⟨w.heap.size+1+1,0,none⟩) (by simp) (.int .i64 a)).far (p:=⟨w.heap.size+1+1,1,none⟩) (by simp) (.int .i64 b))
 have HB2:Hid (Below w.heap.size w ((((w1.setCell ⟨w.heap.size+1+1,0,none⟩ (.int .i64 a)).setCell ⟨w.heap.size+1+1,1,none⟩ (.int .i64 b)).setCell ⟨w.heap.size+1+1,0,none⟩ (.int .i64 a)).setCell ⟨w.heap.size+1+1,1,none⟩ (.int .i64 b))) :=
  (((HB1.out.setCell (le2 _) _).setCell (le2 _) _).setCell (le2 _) _).setCell (le2 _) _
 clear PO1 PR1 HB1;clear p0 p1 gp0 gp1;have hsz:(((((w1.setCell ⟨w.heap.size+1+1,0,none⟩ (.int .i64 a)).setCell ⟨w.heap.size+1+1,1,none⟩ (.int .i64 b)).setCell ⟨w.heap.size+1+1,0,none⟩ (.int .i64 a)).setCell ⟨w.heap.size+1+1,1,none⟩ (.int .i64 b))).heap.size=w1.heap.size:=by simp [World.setCell]
 have HSZ:=Lib.hid hsz;clear hsz;generalize ((((w1.setCell ⟨w.heap.size+1+1,0,none⟩ (.int .i64 a)).setCell ⟨w.heap.size+1+1,1,none⟩ (.int .i64 b)).setCell ⟨w.heap.size+1+1,0,none⟩ (.int .i64 a)).setCell ⟨w.heap.size+1+1,1,none⟩ (.int .i64 b))=w2 at *
 refine (K2.out _ HB2.out).mono ?_;rintro e w3 ⟨rfl,hb1⟩;have H3:=Lib.hid hb1;clear hb1;have PR3:=Lib.hid (PR2.out.below H3.out (by go_light;have:=HSZ.out;have:=S1.out;omega))
 have PO3:=Lib.hid (PO2.out.below H3.out (by go_light;have:=HSZ.out;have:=S1.out;omega))
 have HB3:Hid (Below w.heap.size w w3):=HB2.out.trans (H3.out.mono (by go_light;have:=HSZ.out;have:=S1.out;omega))
 have S3:=Lib.hid (show w.heap.size+1+1<w3.heap.size by go_light;have:=H3.out.size;have:=HSZ.out;have:=S1.out;omega)
 have p0:w3.cell? ⟨w.heap.size+1+1,0,none⟩=some (.int .i64 a):=by have h:=PO3.out.cell 0;simp at h;exact h
 have p1:w3.cell? ⟨w.heap.size+1+1,1,none⟩=some (.int .i64 b):=by have h:=PO3.out.cell 1;simp at h;exact h
 have g0:w3.frozen? ⟨w.heap.size+1+1,0,none⟩=false:=PO3.out.frozen 0;have g1:w3.frozen? ⟨w.heap.size+1+1,1,none⟩=false:=PO3.out.frozen 1;clear PR2 PO2 HB2 H3 HSZ;go_wp2_with fail
 all_goals
  rw [rounds_succ];go_wp2_with fail;refine (aid _ _ _).mono ?_;rintro e w5 ⟨rfl,hb1⟩;have H5:=Lib.hid hb1;clear hb1 p0 p1 g0 g1;have PO5:=Lib.hid (BK.below ((PO3.out.set 0 _).set 1 _) H5.out (by rw [aie,aie];exact S3.out))
  have PR5:=Lib.hid (BK.below ((PR3.out.far (p:=⟨w.heap.size+1+1,0,none⟩) (by simp) _).far (p:=⟨w.heap.size+1+1,1,none⟩) (by simp) _) H5.out (by rw [aie,aie];exact Nat.lt_of_succ_lt S3.out))
  have HB5:Hid (Below w.heap.size w w5):=((HB3.out.setCell (le2 _) _).setCell (le2 _) _).trans (H5.out.mono (by rw [aie,aie];exact HB3.out.size))
  have p0:=PO5.out.cell 0;have p1:=PO5.out.cell 1;have q0:=PR5.out.cell 0;have q1:=PR5.out.cell 1;have q2:=PR5.out.frozen 0;have q3:=PR5.out.frozen 1;simp at p0 p1 q0 q1;clear PO3 PR3 HB3 S3 H5 PO5 PR5
  first|rw [F1.out (by go_light;omega) (by go_light;omega)]|rw [F2.out (by go_light;omega) (by go_light;omega)]|rw [F3.out (by go_light;omega) (by go_light;omega)]|rw [F4.out (by go_light;omega) (by go_light;omega)]
  cases V
 all_goals
  go_wp2;refine bodyPost_ret (by simp [results,Try.results111,go_sem,q0,q1];try rfl) rfl ⟨?_,by have:=HB5.out;go_light;go_grown⟩
  go_light
  first|rfl|exact ajy (by omega) (by omega)
end Go.Proofs.Ytmldbeipmappnaa
namespace Go.Proofs.Ytmldbeipmappnaa
open Go.RowKit Alm
theorem aiZ (B:Nat) (flo fhi n:Int) (w:World) (hB:BK w B 87 #[.int .i64 flo,.int .i64 fhi]) (hv:fxV flo fhi=true) (hn:jP n=true) :
 Calls Try.prog 157 #[.int .i64 n,.pointer (some ⟨B,0,none⟩)] w fun e w'=>e=.returned (.tuple #[.int .i64 (dM flo fhi n),.int .i64 (dI flo fhi n),.int .i64 0])/\Below w.heap.size w w':=by
 have p0:=hB.cell 0;have p1:=hB.cell 1;simp at p0 p1;have C1:=Lib.hid (fun w=>Q5 flo fhi n w hv hn)
 clear hB hv hn;go_enter Try.func157,Try.ntmps157;go_wp2_with fail;refine (C1.out _).mono ?_;rintro e w1 ⟨rfl,hb1⟩;have H1:=Lib.hid hb1;clear hb1;go_wp2;go_ret3;exact ⟨rfl,H1.out⟩
def aic (flo fhi lo hi:Int):Int:=min (dM flo fhi lo) (dM flo fhi hi)
def aib (flo fhi lo hi:Int):Int:=max (dI flo fhi lo) (dI flo fhi hi)
def aiR (lo hi:Int):Value:=if cu lo hi then .tuple #[.agg #[.int .i64 lo,.int .i64 hi],.int .i64 0] else .tuple #[.agg #[.int .i64 0,.int .i64 0],.int .i64 5]
theorem aij (flo fhi lo hi:Int) (w:World) (hv:fxV flo fhi=true) (hl:jP lo=true) (hh:jP hi=true) :
 Calls Try.prog 104 #[.agg #[.int .i64 flo,.int .i64 fhi],.agg #[.int .i64 lo,.int .i64 hi]] w fun e w'=>e=.returned (aiR (aic flo fhi lo hi) (aib flo fhi lo hi))/\Below w.heap.size w w':=by
 have hmf:∀ (fn:Fn) (first cap:Array Value) (w:World),(Instr.makeFunc fn first cap).run Try.prog w=.ok (.func fn first cap) w:=fun _ _ _ _=>rfl
 have CB:=fun (W:World) (hW:BK W w.heap.size 87 #[.int .i64 flo,.int .i64 fhi]) (hlt:w.heap.size<W.heap.size)=>aiO w.heap.size lo hi (dM flo fhi lo) (dI flo fhi lo) (dM flo fhi hi) (dI flo fhi hi) W
  (Lib.hid fun w' hb=>aiZ w.heap.size flo fhi lo w' (hW.below hb hlt) hv hl) (Lib.hid fun w' hb=>aiZ w.heap.size flo fhi hi w' (hW.below hb hlt) hv hh)
 have e1:aiR (aic flo fhi lo hi) (aib flo fhi lo hi)=if cu (min (dM flo fhi lo) (dM flo fhi hi)) (max (dI flo fhi lo) (dI flo fhi hi)) then .tuple #[.agg #[.int .i64 (min (dM flo fhi lo) (dM flo fhi hi)),.int .i64 (max (dI flo fhi lo) (dI flo fhi hi))],.int .i64 0] else .tuple #[.agg #[.int .i64 0,.int .i64 0],.int .i64 5]:=rfl
 rw [e1];clear e1;have CB:=Lib.hid CB;clear hv hl hh;generalize min (dM flo fhi lo) (dM flo fhi hi)=x at *
 generalize max (dI flo fhi lo) (dI flo fhi hi)=y at *
 generalize cu x y=V at *
 have PA:=Lib.hid (((LQ w 87 #[.int .i64 flo,.int .i64 fhi]).alloc (.cells #[.int .i64 lo,.int .i64 hi] 26)).alloc (.cells #[.int .i64 0,.int .i64 0] 26));have PR:=Lib.hid (aei ((w.alloc (.cells #[.int .i64 flo,.int .i64 fhi] 87)).alloc (.cells #[.int .i64 lo,.int .i64 hi] 26)) (w.heap.size+1+1) 26 #[.int .i64 0,.int .i64 0] (by simp))
 go_enter Try.func104,Try.ntmps104;go_wp2_with fail;refine (CB.out _ PA.out (by go_light;simp;omega)).mono ?_
 rintro e w1 ⟨rfl,hb1⟩;have H1:=Lib.hid hb1;clear hb1;have PR1:=Lib.hid (PR.out.below H1.out (by go_light;simp))
 have HB1:Hid (Below w.heap.size w w1):=((((Below.refl _ _).alloc (Nat.le_refl _) _).alloc (by go_light;simp) _).alloc (by go_light;simp<;>omega) _).trans (H1.out.mono (by go_light;simp<;>omega))
 have q0:=PR1.out.cell 0;have q1:=PR1.out.cell 1;have q2:=PR1.out.frozen 0;have q3:=PR1.out.frozen 1;simp at q0 q1;clear PA PR CB H1 PR1;cases V
 . go_wp2;refine bodyPost_ret (by simp [results,Try.results104,go_sem,q0,q1];try rfl) rfl ⟨rfl,by have:=HB1.out;go_light;go_grown⟩
 . go_wp2;refine bodyPost_ret (by simp [results,Try.results104,go_sem,q0,q1];try rfl) rfl ⟨rfl,by have:=HB1.out;go_light;go_grown⟩
def aik (lo hi:Int):Bool:=decide (-5400000<=lo/\lo<=hi/\hi<=5400000)
theorem aif (lo hi:Int) (w:World) :
 Calls Try.prog 110 #[.agg #[.int .i64 lo,.int .i64 hi]] w fun e w'=>e=.returned (.bool (aik lo hi))/\Below w.heap.size w w':=by
 have C1:=fun w=>aid lo hi w
 have PA:=Lib.hid (LQ w 26 #[.int .i64 lo,.int .i64 hi]);cases hv:cu lo hi
 . have hf:aik lo hi=false:=by
    unfold aik;unfold cu at hv;simp at hv ⊢;omega
   rw [hf];rw [hv] at C1;have C1:=Lib.hid C1;clear hv hf;go_enter Try.func110,Try.ntmps110;go_wp2_with fail;refine (C1.out _).mono ?_;rintro e w1 ⟨rfl,hb1⟩;have H1:=Lib.hid hb1;clear hb1;go_wp2;go_ret;exact ⟨rfl,((Below.refl _ _).alloc (Nat.le_refl _) _).trans (H1.out.mono (by go_light;simp))⟩
 . have hl:lo<=hi:=by unfold cu at hv;simp at hv;omega
   rw [hv] at C1;have C1:=Lib.hid C1;clear hv;go_enter Try.func110,Try.ntmps110;go_wp2_with fail;refine (C1.out _).mono ?_;rintro e w1 ⟨rfl,hb1⟩;have H1:=Lib.hid hb1;clear hb1;have PA1:=Lib.hid (PA.out.below H1.out (by go_light;simp))
   have p0:=PA1.out.cell 0;have p1:=PA1.out.cell 1;simp at p0 p1;go_wp2
   all_goals
    go_ret;exact ⟨qR (by go_light;unfold aik;rw [Bool.eq_iff_iff];simp<;>omega),((Below.refl _ _).alloc (Nat.le_refl _) _).trans (H1.out.mono (by go_light;simp))⟩
end Go.Proofs.Ytmldbeipmappnaa
namespace Go.Proofs.Ytmldbeipmappnaa
open Go.RowKit Alm
theorem aia {lo hi:Int} (h:cu lo hi=true):jP lo=true/\jP hi=true:=by
 have:=(cK lo hi).1 h;unfold jP;simp;omega
theorem aip {lo hi:Int} (h:aik lo hi=true):cu lo hi=true:=by
 unfold aik at h;rw [cK];simp at h;omega
end Go.Proofs.Ytmldbeipmappnaa
namespace Go.Proofs.Ytmldbeipmappnaa
open Go.RowKit Alm
def aiu (cl ch dl dh:Int):Bool:=cu cl ch&&(cu dl dh&&decide (0<=dl))
theorem aiL (cl ch dl dh:Int) (w:World) :
 Calls Try.prog 101 #[.agg #[.int .i64 cl,.int .i64 ch,.int .i64 dl,.int .i64 dh]] w fun e w'=>e=.returned (.bool (aiu cl ch dl dh))/\Below w.heap.size w w':=by
 have C1:=Lib.hid (fun w=>aid cl ch w)
 have C2:=Lib.hid (fun w=>aid dl dh w)
 have e1:aiu cl ch dl dh=(cu cl ch&&(cu dl dh&&decide (0<=dl))):=rfl;rw [e1];clear e1;generalize cu cl ch=U at *
 generalize cu dl dh=V at *
 have PA:=Lib.hid (LQ w 28 #[.int .i64 cl,.int .i64 ch,.int .i64 dl,.int .i64 dh]);go_enter Try.func101,Try.ntmps101;go_wp2_with fail;refine (C1.out _).mono ?_;rintro e w1 ⟨rfl,hb1⟩;have H1:=Lib.hid hb1;clear hb1;have PA1:=Lib.hid (PA.out.below H1.out (by go_light;simp))
 have HB1:Hid (Below w.heap.size w w1):=((Below.refl _ _).alloc (Nat.le_refl _) _).trans (H1.out.mono (by go_light;simp))
 have p2:=PA1.out.cell 2;have p3:=PA1.out.cell 3;simp at p2 p3;clear PA;cases U
 . go_wp2;go_ret;exact ⟨rfl,HB1.out⟩
 . go_wp2_with fail;refine (C2.out _).mono ?_;rintro e w2 ⟨rfl,hb1⟩;have H2:=Lib.hid hb1;clear hb1 p2 p3;have PA2:=Lib.hid (PA1.out.below H2.out (by go_light;have:=H1.out.size;simp at this;omega))
   have HB2:Hid (Below w.heap.size w w2):=HB1.out.trans (H2.out.mono HB1.out.size);have p2:=PA2.out.cell 2;simp at p2;cases V
   . go_wp2;go_ret;exact ⟨rfl,HB2.out⟩
   . go_wp2;go_ret;exact ⟨rfl,HB2.out⟩
theorem aix (cl ch dl dh a b c d x y z t:Int) (w:World)
 (CV:Hid (∀ w:World,Calls Try.prog 101 #[.agg #[.int .i64 cl,.int .i64 ch,.int .i64 dl,.int .i64 dh]] w fun e w'=>e=.returned (.bool true)/\Below w.heap.size w w'))
 (CC:Hid (∀ w:World,Calls Try.prog 102 #[.agg #[.int .i64 cl,.int .i64 ch]] w fun e w'=>e=.returned (.tuple #[.agg #[.int .i64 a,.int .i64 b],.int .i64 0])/\Below w.heap.size w w'))
 (CS:Hid (∀ w:World,Calls Try.prog 103 #[.agg #[.int .i64 cl,.int .i64 ch]] w fun e w'=>e=.returned (.tuple #[.agg #[.int .i64 c,.int .i64 d],.int .i64 0])/\Below w.heap.size w w'))
 (P1:Hid (∀ w:World,Calls Try.prog 104 #[.agg #[.int .i64 a,.int .i64 b],.agg #[.int .i64 dl,.int .i64 dh]] w fun e w'=>e=.returned (.tuple #[.agg #[.int .i64 x,.int .i64 y],.int .i64 0])/\Below w.heap.size w w'))
 (P2:Hid (∀ w:World,Calls Try.prog 104 #[.agg #[.int .i64 c,.int .i64 d],.agg #[.int .i64 dl,.int .i64 dh]] w fun e w'=>e=.returned (.tuple #[.agg #[.int .i64 z,.int .i64 t],.int .i64 0])/\Below w.heap.size w w')) :
 Calls Try.prog 42 #[.agg #[.int .i64 cl,.int .i64 ch,.int .i64 dl,.int .i64 dh]] w fun e w'=>e=.returned (.tuple #[.agg #[.int .i64 x,.int .i64 y],.agg #[.int .i64 z,.int .i64 t],.int .i64 0])/\Below w.heap.size w w':=by
 have i0:∀ w,(Instr.index 112 (.agg #[.func (.func 102) #[] #[],.func (.func 103) #[] #[]]) (.int .i64 0)).run Try.prog w=.ok (.func (.func 102) #[] #[]) w:=fun _=>by kernel_rfl
 have i1:∀ w,(Instr.index 112 (.agg #[.func (.func 102) #[] #[],.func (.func 103) #[] #[]]) (.int .i64 1)).run Try.prog w=.ok (.func (.func 103) #[] #[]) w:=fun _=>by kernel_rfl
 have K0:=Lib.hid ((((fu w).new w.heap.size rfl 28 #[.int .i64 cl,.int .i64 ch,.int .i64 dl,.int .i64 dh]).new (w.heap.size+1) (by simp) 26 #[.int .i64 0,.int .i64 0]).new (w.heap.size+1+1) (by simp) 26 #[.int .i64 0,.int .i64 0])
 go_enter Try.func42,Try.ntmps42;go_wp2_with fail;refine (CV.out _).mono ?_;rintro e w1 ⟨rfl,hb1⟩;have s1:=Lib.hid (show w.heap.size+1+1<w1.heap.size from (K0.out.below hb1).lt (g:=w.heap.size+1+1) (t:=26) (cs:=#[.int .i64 0,.int .i64 0]) (by simp))
 have K1:=Lib.hid ((K0.out.below hb1).new w1.heap.size rfl 110 #[.int .i64 0,.int .i64 0,.int .i64 0,.int .i64 0]);clear hb1 K0;have c0:=K1.out.c (g:=w.heap.size) (t:=28) (cs:=#[.int .i64 cl,.int .i64 ch,.int .i64 dl,.int .i64 dh]) (by simp) (i:=0) rfl
 have c1:=K1.out.c (g:=w.heap.size) (t:=28) (cs:=#[.int .i64 cl,.int .i64 ch,.int .i64 dl,.int .i64 dh]) (by simp) (i:=1) rfl
 go_wp2_with fail;refine wp_loop_rounds 3 ?_;rw [rounds_succ];go_wp2_with fail;refine (CC.out _).mono ?_;rintro e w2 ⟨rfl,hb1⟩;have K2:=Lib.hid ((K1.out.below hb1).new w2.heap.size rfl 87 #[.int .i64 a,.int .i64 b]);clear hb1 K1 c0 c1;have c2:=K2.out.c (g:=w.heap.size) (t:=28) (cs:=#[.int .i64 cl,.int .i64 ch,.int .i64 dl,.int .i64 dh]) (by simp) (i:=2) rfl
 have c3:=K2.out.c (g:=w.heap.size) (t:=28) (cs:=#[.int .i64 cl,.int .i64 ch,.int .i64 dl,.int .i64 dh]) (by simp) (i:=3) rfl
 go_wp2_with fail;refine (P1.out _).mono ?_;rintro e w3 ⟨rfl,hb1⟩;have K3:=Lib.hid ((K2.out.below hb1).sub (l':=[(w1.heap.size,110,#[.int .i64 0,.int .i64 0,.int .i64 0,.int .i64 0]),(w.heap.size+1+1,26,#[.int .i64 0,.int .i64 0]),(w.heap.size+1,26,#[.int .i64 0,.int .i64 0]),(w.heap.size,28,#[.int .i64 cl,.int .i64 ch,.int .i64 dl,.int .i64 dh])]) (by simp));clear hb1 K2 c2 c3
 have K4:=Lib.hid ((K3.out.set (by have:=s1.out;go_light;omega) (by have:=s1.out;go_light;simp;omega) 0 (.int .i64 x)).set (by have:=s1.out;go_light;omega) (by have:=s1.out;go_light;simp;omega) 1 (.int .i64 y))
 have c0:=K3.out.c (g:=w1.heap.size) (t:=110) (cs:=#[.int .i64 0,.int .i64 0,.int .i64 0,.int .i64 0]) (by simp) (i:=0) rfl
 have c1:=K3.out.c (g:=w1.heap.size) (t:=110) (cs:=#[.int .i64 0,.int .i64 0,.int .i64 0,.int .i64 0]) (by simp) (i:=1) rfl
 have f0:=K3.out.f (g:=w1.heap.size) (t:=110) (cs:=#[.int .i64 0,.int .i64 0,.int .i64 0,.int .i64 0]) (by simp) 0
 have f1:=K3.out.f (g:=w1.heap.size) (t:=110) (cs:=#[.int .i64 0,.int .i64 0,.int .i64 0,.int .i64 0]) (by simp) 1
 simp at K4;go_wp2_with fail;rw [rounds_succ];clear K3 c0 c1 f0 f1;generalize ((w3.setCell ⟨w1.heap.size,0,none⟩ (.int .i64 x)).setCell ⟨w1.heap.size,1,none⟩ (.int .i64 y))=w4 at *
 have c0:=K4.out.c (g:=w.heap.size) (t:=28) (cs:=#[.int .i64 cl,.int .i64 ch,.int .i64 dl,.int .i64 dh]) (by simp) (i:=0) rfl
 have c1:=K4.out.c (g:=w.heap.size) (t:=28) (cs:=#[.int .i64 cl,.int .i64 ch,.int .i64 dl,.int .i64 dh]) (by simp) (i:=1) rfl
 go_wp2_with fail;refine (CS.out _).mono ?_;rintro e w5 ⟨rfl,hb1⟩;have K5:=Lib.hid ((K4.out.below hb1).new w5.heap.size rfl 87 #[.int .i64 c,.int .i64 d]);clear hb1 K4 c0 c1;have c2:=K5.out.c (g:=w.heap.size) (t:=28) (cs:=#[.int .i64 cl,.int .i64 ch,.int .i64 dl,.int .i64 dh]) (by simp) (i:=2) rfl
 have c3:=K5.out.c (g:=w.heap.size) (t:=28) (cs:=#[.int .i64 cl,.int .i64 ch,.int .i64 dl,.int .i64 dh]) (by simp) (i:=3) rfl
 go_wp2_with fail;refine (P2.out _).mono ?_;rintro e w6 ⟨rfl,hb1⟩;have K6:=Lib.hid ((K5.out.below hb1).sub (l':=[(w1.heap.size,110,#[.int .i64 x,.int .i64 y,.int .i64 0,.int .i64 0]),(w.heap.size+1+1,26,#[.int .i64 0,.int .i64 0]),(w.heap.size+1,26,#[.int .i64 0,.int .i64 0]),(w.heap.size,28,#[.int .i64 cl,.int .i64 ch,.int .i64 dl,.int .i64 dh])]) (by simp));clear hb1 K5 c2 c3
 have K7:=Lib.hid ((K6.out.set (by have:=s1.out;go_light;omega) (by have:=s1.out;go_light;simp;omega) 2 (.int .i64 z)).set (by have:=s1.out;go_light;omega) (by have:=s1.out;go_light;simp;omega) 3 (.int .i64 t))
 have c2:=K6.out.c (g:=w1.heap.size) (t:=110) (cs:=#[.int .i64 x,.int .i64 y,.int .i64 0,.int .i64 0]) (by simp) (i:=2) rfl
 have c3:=K6.out.c (g:=w1.heap.size) (t:=110) (cs:=#[.int .i64 x,.int .i64 y,.int .i64 0,.int .i64 0]) (by simp) (i:=3) rfl
 have f2:=K6.out.f (g:=w1.heap.size) (t:=110) (cs:=#[.int .i64 x,.int .i64 y,.int .i64 0,.int .i64 0]) (by simp) 2
 have f3:=K6.out.f (g:=w1.heap.size) (t:=110) (cs:=#[.int .i64 x,.int .i64 y,.int .i64 0,.int .i64 0]) (by simp) 3
 simp at K7;go_wp2_with fail;rw [rounds_succ];clear K6 c2 c3 f2 f3;generalize ((w6.setCell ⟨w1.heap.size,2,none⟩ (.int .i64 z)).setCell ⟨w1.heap.size,3,none⟩ (.int .i64 t))=w7 at *
 have c0:=K7.out.c (g:=w1.heap.size) (t:=110) (cs:=#[.int .i64 x,.int .i64 y,.int .i64 z,.int .i64 t]) (by simp) (i:=0) rfl
 have c1:=K7.out.c (g:=w1.heap.size) (t:=110) (cs:=#[.int .i64 x,.int .i64 y,.int .i64 z,.int .i64 t]) (by simp) (i:=1) rfl
 have c2:=K7.out.c (g:=w1.heap.size) (t:=110) (cs:=#[.int .i64 x,.int .i64 y,.int .i64 z,.int .i64 t]) (by simp) (i:=2) rfl
 have c3:=K7.out.c (g:=w1.heap.size) (t:=110) (cs:=#[.int .i64 x,.int .i64 y,.int .i64 z,.int .i64 t]) (by simp) (i:=3) rfl
 have u0:=K7.out.c (g:=w.heap.size+1+1) (t:=26) (cs:=#[.int .i64 0,.int .i64 0]) (by simp) (i:=0) rfl
 have u1:=K7.out.c (g:=w.heap.size+1+1) (t:=26) (cs:=#[.int .i64 0,.int .i64 0]) (by simp) (i:=1) rfl
 have v0:=K7.out.c (g:=w.heap.size+1) (t:=26) (cs:=#[.int .i64 0,.int .i64 0]) (by simp) (i:=0) rfl
 have v1:=K7.out.c (g:=w.heap.size+1) (t:=26) (cs:=#[.int .i64 0,.int .i64 0]) (by simp) (i:=1) rfl
 have fu0:=K7.out.f (g:=w.heap.size+1+1) (t:=26) (cs:=#[.int .i64 0,.int .i64 0]) (by simp) 0
 have fu1:=K7.out.f (g:=w.heap.size+1+1) (t:=26) (cs:=#[.int .i64 0,.int .i64 0]) (by simp) 1
 have fv0:=K7.out.f (g:=w.heap.size+1) (t:=26) (cs:=#[.int .i64 0,.int .i64 0]) (by simp) 0
 have fv1:=K7.out.f (g:=w.heap.size+1) (t:=26) (cs:=#[.int .i64 0,.int .i64 0]) (by simp) 1
 go_wp2;go_region
 all_goals
  go_wp2;refine bodyPost_ret (by simp [results,Try.results42,go_sem,u0,u1,v0,v1];try rfl) rfl ⟨rfl,by have:=K7.out.1;go_light;go_grown⟩
theorem ajL (cl ch dl dh:Int) (w:World) (hl:aiu cl ch dl dh=true) (h1:cu (aic (ah3 cl ch) (ah4 cl ch) dl dh) (aib (ah3 cl ch) (ah4 cl ch) dl dh)=true) (h2:cu (aic (bU cl ch) (bW cl ch) dl dh) (aib (bU cl ch) (bW cl ch) dl dh)=true) :
 Calls Try.prog 42 #[.agg #[.int .i64 cl,.int .i64 ch,.int .i64 dl,.int .i64 dh]] w fun e w' =>
  e=.returned (.tuple #[.agg #[.int .i64 (aic (ah3 cl ch) (ah4 cl ch) dl dh),.int .i64 (aib (ah3 cl ch) (ah4 cl ch) dl dh)],.agg #[.int .i64 (aic (bU cl ch) (bW cl ch) dl dh),.int .i64 (aib (bU cl ch) (bW cl ch) dl dh)],.int .i64 0])/\Below w.heap.size w w':=by
 have hp:cu cl ch=true/\cu dl dh=true:=by
  unfold aiu at hl;simp only [Bool.and_eq_true] at hl;exact ⟨hl.1,hl.2.1⟩
 have CV:=fun w=>aiL cl ch dl dh w
 rw [hl] at CV;have P1:=fun w=>aij (ah3 cl ch) (ah4 cl ch) dl dh w (UL _ _) (aia hp.2).1 (aia hp.2).2
 have P2:=fun w=>aij (bU cl ch) (bW cl ch) dl dh w (UL _ _) (aia hp.2).1 (aia hp.2).2
 unfold aiR at P1 P2;rw [h1,if_pos rfl] at P1;rw [h2,if_pos rfl] at P2;exact aix cl ch dl dh _ _ _ _ _ _ _ _ w (Lib.hid CV) (Lib.hid fun w=>acg cl ch w hp.1) (Lib.hid fun w=>acp cl ch w hp.1) (Lib.hid P1) (Lib.hid P2)
