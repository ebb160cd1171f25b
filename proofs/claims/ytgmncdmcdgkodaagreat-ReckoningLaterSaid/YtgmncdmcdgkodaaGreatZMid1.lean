/- The contracts of package midlatitude: both, product. -/
import Derived.Test.YtgmncdmcdgkodaaGreatZFixed2
set_option linter.unusedVariables false
set_option linter.unusedSimpArgs false
set_option maxRecDepth 100000
set_option maxHeartbeats 1000000
namespace Go.Proofs.YtgmncdmcdgkodaaGreat
open Go.RowKit Alm
theorem AL {k k':IntKind} {a b c d:Int} {v:Value} (h:a=b) (h':c=d):Ending.returned (.tuple #[.agg #[.int k a,.int k' c],v])=.returned (.tuple #[.agg #[.int k b,.int k' d],v]):=by rw [h,h']
theorem rW (n:Int) (w:World) :
 Calls Tryz.prog 48 #[.int .i64 n] w fun e w'=>e=.returned (.bool (ay n))/\w=w':=by
 go_enter Tryz.func48,Tryz.ntmps48;go_wp2
 all_goals
  go_ret;exact ⟨bV (by unfold ay;rw [Bool.eq_iff_iff];simp<;>omega),rfl⟩
theorem bX (lo hi:Int) (w:World) :
 Calls Tryz.prog 30 #[.agg #[.int .i64 lo,.int .i64 hi]] w fun e w'=>e=.returned (.bool (aC lo hi))/\Below w.heap.size w w':=by
 have C1:=Lib.hid (fun w=>rW lo w)
 have C2:=Lib.hid (fun w=>rW hi w)
 have e1:aC lo hi=(decide (lo<=hi)&&ay lo&&ay hi):=by unfold aC ay;rw [Bool.eq_iff_iff];simp;omega
 rw [e1];clear e1;generalize ay lo=u at *
 generalize ay hi=v at *
 by_cases h:lo<=hi
 . have hd:decide (lo<=hi)=true:=by simpa using h
   rw [hd];cases u
   . go_enter Tryz.func30,Tryz.ntmps30;go_wp2_with fail;refine (C1.out _).mono ?_;rintro e w' ⟨rfl,rfl⟩;go_wp2;go_ret;exact ⟨rfl,by go_grown⟩
   . go_enter Tryz.func30,Tryz.ntmps30;go_wp2_with fail;refine (C1.out _).mono ?_;rintro e w' ⟨rfl,rfl⟩;go_wp2_with fail;refine (C2.out _).mono ?_;rintro e w' ⟨rfl,rfl⟩;go_wp2;go_ret;exact ⟨by cases v<;>rfl,by go_grown⟩
 . have hd:decide (lo<=hi)=false:=by simpa using h
   rw [hd];go_enter Tryz.func30,Tryz.ntmps30;go_wp2;go_ret;exact ⟨rfl,by go_grown⟩
theorem vz (B:Nat) (lo hi a b c d:Int) (w:World)
 (K1:Hid (∀ w',Below w.heap.size w w'->Calls Tryz.prog 82 #[.int .i64 lo,.pointer (some ⟨B,0,none⟩)] w' fun e w''=>e=.returned (.tuple #[.int .i64 a,.int .i64 b,.int .i64 0])/\Below w'.heap.size w' w''))
 (K2:Hid (∀ w',Below w.heap.size w w'->Calls Tryz.prog 82 #[.int .i64 hi,.pointer (some ⟨B,0,none⟩)] w' fun e w''=>e=.returned (.tuple #[.int .i64 c,.int .i64 d,.int .i64 0])/\Below w'.heap.size w' w''))
 : Calls Tryz.prog 55 #[.agg #[.int .i64 lo,.int .i64 hi],.func (.func 82) #[] #[.pointer (some ⟨B,0,none⟩)]] w fun e w' =>
  e=.returned (if aC (min a c) (max b d) then .tuple #[.agg #[.int .i64 (min a c),.int .i64 (max b d)],.int .i64 0] else .tuple #[.agg #[.int .i64 0,.int .i64 0],.int .i64 5])/\Below w.heap.size w w':=by
 have F1:=Lib.hid (show a<=c->d<=b->aC a b=aC (min a c) (max b d) from fun h1 h2=>by rw [Int.min_eq_left h1,Int.max_eq_left h2])
 have F2:=Lib.hid (show a<=c->b<=d->aC a d=aC (min a c) (max b d) from fun h1 h2=>by rw [Int.min_eq_left h1,Int.max_eq_right h2])
 have F3:=Lib.hid (show c<=a->d<=b->aC c b=aC (min a c) (max b d) from fun h1 h2=>by rw [Int.min_eq_right h1,Int.max_eq_left h2])
 have F4:=Lib.hid (show c<=a->b<=d->aC c d=aC (min a c) (max b d) from fun h1 h2=>by rw [Int.min_eq_right h1,Int.max_eq_right h2])
 generalize aC (min a c) (max b d)=V at *
 have PA:=Lib.hid (gB w 23 #[.int .i64 lo,.int .i64 hi]);have PR:=Lib.hid (qj (w.alloc (.cells #[.int .i64 lo,.int .i64 hi] 23)) (w.heap.size+1) 23 #[.int .i64 0,.int .i64 0] (by simp))
 have PO:=Lib.hid (qj ((w.alloc (.cells #[.int .i64 lo,.int .i64 hi] 23)).alloc (.cells #[.int .i64 0,.int .i64 0] 23)) (w.heap.size+1+1) 23 #[.int .i64 0,.int .i64 0] (by simp))
 have i0:∀ w,(Instr.index 98 (.agg #[.int .i64 lo,.int .i64 hi]) (.int .i64 0)).run Tryz.prog w=.ok (.int .i64 lo) w:=fun _=>by kernel_rfl
 have i1:∀ w,(Instr.index 98 (.agg #[.int .i64 lo,.int .i64 hi]) (.int .i64 1)).run Tryz.prog w=.ok (.int .i64 hi) w:=fun _=>by kernel_rfl
 have HB0:Hid (Below w.heap.size w (((w.alloc (.cells #[.int .i64 lo,.int .i64 hi] 23)).alloc (.cells #[.int .i64 0,.int .i64 0] 23)).alloc (.cells #[.int .i64 0,.int .i64 0] 23))):=(((Below.refl _ _).alloc (Nat.le_refl _) _).alloc (by simp) _).alloc (by simp<;>omega) _
 go_enter Tryz.func55,Tryz.ntmps55;go_wp2;refine wp_loop_rounds 3 ?_;rw [rounds_succ];go_wp2_with fail;refine (K1.out _ HB0.out).mono ?_;rintro e w1 ⟨rfl,hb1⟩;have H1:=Lib.hid hb1;clear hb1;have S1:=Lib.hid (show w.heap.size+1+1<w1.heap.size by go_light;have:=H1.out.size;simp at this;omega)
 have PR1:=Lib.hid (((PR.out.alloc _)).below H1.out (by simp<;>omega))
 have PO1:=Lib.hid (PO.out.below H1.out (by simp<;>omega))
 have HB1:Hid (Below w.heap.size w w1):=HB0.out.trans (H1.out.mono (by simp<;>omega))
 clear PR PO H1 HB0 PA;have p0:=PO1.out.cell 0;have p1:=PO1.out.cell 1;have gp0:=PO1.out.frozen 0;have gp1:=PO1.out.frozen 1;go_wp2_with fail;rw [rounds_succ];go_wp2_with fail;have PO2:=Lib.hid ((((PO1.out.set 0 (.int .i64 a)).set 1 (.int .i64 b)).set 0 (.int .i64 a)).set 1 (.int .i64 b));have PR2:=Lib.hid ((((PR1.out.far (p:=⟨w.heap.size+1+1,0,none⟩) (by simp) (.int .i64 a)).far (p:=⟨w.heap.size+1+1,1,none⟩) (by simp) (.int .i64 b)).far (p:=⟨w.heap.size+1+1,0,none⟩) (by simp) (.int .i64 a)).far (p:=⟨w.heap.size+1+1,1,none⟩) (by simp) (.int .i64 b))
 have HB2:Hid (Below w.heap.size w ((((w1.setCell ⟨w.heap.size+1+1,0,none⟩ (.int .i64 a)).setCell ⟨w.heap.size+1+1,1,none⟩ (.int .i64 b)).setCell ⟨w.heap.size+1+1,0,none⟩ (.int .i64 a)).setCell ⟨w.heap.size+1+1,1,none⟩ (.int .i64 b))) :=
  (((HB1.out.setCell (le2 _) _).setCell (le2 _) _).setCell (le2 _) _).setCell (le2 _) _
 clear PO1 PR1 HB1;clear p0 p1 gp0 gp1;have hsz:(((((w1.setCell ⟨w.heap.size+1+1,0,none⟩ (.int .i64 a)).setCell ⟨w.heap.size+1+1,1,none⟩ (.int .i64 b)).setCell ⟨w.heap.size+1+1,0,none⟩ (.int .i64 a)).setCell ⟨w.heap.size+1+1,1,none⟩ (.int .i64 b))).heap.size=w1.heap.size:=by simp [World.setCell]
 have HSZ:=Lib.hid hsz;clear hsz;generalize ((((w1.setCell ⟨w.heap.size+1+1,0,none⟩ (.int .i64 a)).setCell ⟨w.heap.size+1+1,1,none⟩ (.int .i64 b)).setCell ⟨w.heap.size+1+1,0,none⟩ (.int .i64 a)).setCell ⟨w.heap.size+1+1,1,none⟩ (.int .i64 b))=w2 at *
 refine (K2.out _ HB2.out).mono ?_;rintro e w3 ⟨rfl,hb1⟩;have H3:=Lib.hid hb1;clear hb1;have PR3:=Lib.hid (PR2.out.below H3.out (by go_light;have:=HSZ.out;have:=S1.out;omega))
 have PO3:=Lib.hid (PO2.out.below H3.out (by go_light;have:=HSZ.out;have:=S1.out;omega))
 have HB3:Hid (Below w.heap.size w w3):=HB2.out.trans (H3.out.mono (by go_light;have:=HSZ.out;have:=S1.out;omega))
 have S3:=Lib.hid (show w.heap.size+1+1<w3.heap.size by go_light;have:=H3.out.size;have:=HSZ.out;have:=S1.out;omega)
 have p0:w3.cell? ⟨w.heap.size+1+1,0,none⟩=some (.int .i64 a):=by have h:=PO3.out.cell 0;simp at h;exact h
 have p1:w3.cell? ⟨w.heap.size+1+1,1,none⟩=some (.int .i64 b):=by have h:=PO3.out.cell 1;simp at h;exact h
 have g0:w3.frozen? ⟨w.heap.size+1+1,0,none⟩=false:=PO3.out.frozen 0;have g1:w3.frozen? ⟨w.heap.size+1+1,1,none⟩=false:=PO3.out.frozen 1;clear PR2 PO2 HB2 H3 HSZ;go_wp2_with fail
 all_goals
  rw [rounds_succ];go_wp2_with fail;refine (bX _ _ _).mono ?_;rintro e w5 ⟨rfl,hb1⟩;have H5:=Lib.hid hb1;clear hb1 p0 p1 g0 g1;have PO5:=Lib.hid (BK.below ((PO3.out.set 0 _).set 1 _) H5.out (by rw [bU,bU];exact S3.out))
  have PR5:=Lib.hid (BK.below ((PR3.out.far (p:=⟨w.heap.size+1+1,0,none⟩) (by simp) _).far (p:=⟨w.heap.size+1+1,1,none⟩) (by simp) _) H5.out (by rw [bU,bU];exact Nat.lt_of_succ_lt S3.out))
  have HB5:Hid (Below w.heap.size w w5):=((HB3.out.setCell (le2 _) _).setCell (le2 _) _).trans (H5.out.mono (by rw [bU,bU];exact HB3.out.size))
  have p0:=PO5.out.cell 0;have p1:=PO5.out.cell 1;have q0:=PR5.out.cell 0;have q1:=PR5.out.cell 1;have q2:=PR5.out.frozen 0;have q3:=PR5.out.frozen 1;simp at p0 p1 q0 q1;clear PO3 PR3 HB3 S3 H5 PO5 PR5
  first|rw [F1.out (by go_light;omega) (by go_light;omega)]|rw [F2.out (by go_light;omega) (by go_light;omega)]|rw [F3.out (by go_light;omega) (by go_light;omega)]|rw [F4.out (by go_light;omega) (by go_light;omega)]
  cases V
 all_goals
  go_wp2;refine bodyPost_ret (by simp [results,Tryz.results55,go_sem,q0,q1];try rfl) rfl ⟨?_,by have:=HB5.out;go_light;go_grown⟩
  go_light
  first|rfl|exact AL (by omega) (by omega)
theorem tT (B C:Nat) (lo hi a b c d:Int) (w:World)
 (K1:Hid (∀ w',Below w.heap.size w w'->Calls Tryz.prog 56 #[.int .i64 lo,.pointer (some ⟨B,0,none⟩),.pointer (some ⟨C,0,none⟩)] w' fun e w''=>e=.returned (.tuple #[.int .i64 a,.int .i64 b,.int .i64 0])/\Below w'.heap.size w' w''))
 (K2:Hid (∀ w',Below w.heap.size w w'->Calls Tryz.prog 56 #[.int .i64 hi,.pointer (some ⟨B,0,none⟩),.pointer (some ⟨C,0,none⟩)] w' fun e w''=>e=.returned (.tuple #[.int .i64 c,.int .i64 d,.int .i64 0])/\Below w'.heap.size w' w''))
 : Calls Tryz.prog 55 #[.agg #[.int .i64 lo,.int .i64 hi],.func (.func 56) #[] #[.pointer (some ⟨B,0,none⟩),.pointer (some ⟨C,0,none⟩)]] w fun e w' =>
  e=.returned (if aC (min a c) (max b d) then .tuple #[.agg #[.int .i64 (min a c),.int .i64 (max b d)],.int .i64 0] else .tuple #[.agg #[.int .i64 0,.int .i64 0],.int .i64 5])/\Below w.heap.size w w':=by
 have F1:=Lib.hid (show a<=c->d<=b->aC a b=aC (min a c) (max b d) from fun h1 h2=>by rw [Int.min_eq_left h1,Int.max_eq_left h2])
 have F2:=Lib.hid (show a<=c->b<=d->aC a d=aC (min a c) (max b d) from fun h1 h2=>by rw [Int.min_eq_left h1,Int.max_eq_right h2])
 have F3:=Lib.hid (show c<=a->d<=b->aC c b=aC (min a c) (max b d) from fun h1 h2=>by rw [Int.min_eq_right h1,Int.max_eq_left h2])
 have F4:=Lib.hid (show c<=a->b<=d->aC c d=aC (min a c) (max b d) from fun h1 h2=>by rw [Int.min_eq_right h1,Int.max_eq_right h2])
 generalize aC (min a c) (max b d)=V at *
 have PA:=Lib.hid (gB w 23 #[.int .i64 lo,.int .i64 hi]);have PR:=Lib.hid (qj (w.alloc (.cells #[.int .i64 lo,.int .i64 hi] 23)) (w.heap.size+1) 23 #[.int .i64 0,.int .i64 0] (by simp))
 have PO:=Lib.hid (qj ((w.alloc (.cells #[.int .i64 lo,.int .i64 hi] 23)).alloc (.cells #[.int .i64 0,.int .i64 0] 23)) (w.heap.size+1+1) 23 #[.int .i64 0,.int .i64 0] (by simp))
 have i0:∀ w,(Instr.index 98 (.agg #[.int .i64 lo,.int .i64 hi]) (.int .i64 0)).run Tryz.prog w=.ok (.int .i64 lo) w:=fun _=>by kernel_rfl
 have i1:∀ w,(Instr.index 98 (.agg #[.int .i64 lo,.int .i64 hi]) (.int .i64 1)).run Tryz.prog w=.ok (.int .i64 hi) w:=fun _=>by kernel_rfl
 have HB0:Hid (Below w.heap.size w (((w.alloc (.cells #[.int .i64 lo,.int .i64 hi] 23)).alloc (.cells #[.int .i64 0,.int .i64 0] 23)).alloc (.cells #[.int .i64 0,.int .i64 0] 23))):=(((Below.refl _ _).alloc (Nat.le_refl _) _).alloc (by simp) _).alloc (by simp<;>omega) _
 go_enter Tryz.func55,Tryz.ntmps55;go_wp2;refine wp_loop_rounds 3 ?_;rw [rounds_succ];go_wp2_with fail;refine (K1.out _ HB0.out).mono ?_;rintro e w1 ⟨rfl,hb1⟩;have H1:=Lib.hid hb1;clear hb1;have S1:=Lib.hid (show w.heap.size+1+1<w1.heap.size by go_light;have:=H1.out.size;simp at this;omega)
 have PR1:=Lib.hid (((PR.out.alloc _)).below H1.out (by simp<;>omega))
 have PO1:=Lib.hid (PO.out.below H1.out (by simp<;>omega))
 have HB1:Hid (Below w.heap.size w w1):=HB0.out.trans (H1.out.mono (by simp<;>omega))
 clear PR PO H1 HB0 PA;have p0:=PO1.out.cell 0;have p1:=PO1.out.cell 1;have gp0:=PO1.out.frozen 0;have gp1:=PO1.out.frozen 1;go_wp2_with fail;rw [rounds_succ];go_wp2_with fail;have PO2:=Lib.hid ((((PO1.out.set 0 (.int .i64 a)).set 1 (.int .i64 b)).set 0 (.int .i64 a)).set 1 (.int .i64 b));have PR2:=Lib.hid ((((PR1.out.far (p:=⟨w.heap.size+1+1,0,none⟩) (by simp) (.int .i64 a)).far (p:=⟨w.heap.size+1+1,1,none⟩) (by simp) (.int .i64 b)).far (p:=⟨w.heap.size+1+1,0,none⟩) (by simp) (.int .i64 a)).far (p:=⟨w.heap.size+1+1,1,none⟩) (by simp) (.int .i64 b))
 have HB2:Hid (Below w.heap.size w ((((w1.setCell ⟨w.heap.size+1+1,0,none⟩ (.int .i64 a)).setCell ⟨w.heap.size+1+1,1,none⟩ (.int .i64 b)).setCell ⟨w.heap.size+1+1,0,none⟩ (.int .i64 a)).setCell ⟨w.heap.size+1+1,1,none⟩ (.int .i64 b))) :=
  (((HB1.out.setCell (le2 _) _).setCell (le2 _) _).setCell (le2 _) _).setCell (le2 _) _
 clear PO1 PR1 HB1;clear p0 p1 gp0 gp1;have hsz:(((((w1.setCell ⟨w.heap.size+1+1,0,none⟩ (.int .i64 a)).setCell ⟨w.heap.size+1+1,1,none⟩ (.int .i64 b)).setCell ⟨w.heap.size+1+1,0,none⟩ (.int .i64 a)).setCell ⟨w.heap.size+1+1,1,none⟩ (.int .i64 b))).heap.size=w1.heap.size:=by simp [World.setCell]
 have HSZ:=Lib.hid hsz;clear hsz;generalize ((((w1.setCell ⟨w.heap.size+1+1,0,none⟩ (.int .i64 a)).setCell ⟨w.heap.size+1+1,1,none⟩ (.int .i64 b)).setCell ⟨w.heap.size+1+1,0,none⟩ (.int .i64 a)).setCell ⟨w.heap.size+1+1,1,none⟩ (.int .i64 b))=w2 at *
 refine (K2.out _ HB2.out).mono ?_;rintro e w3 ⟨rfl,hb1⟩;have H3:=Lib.hid hb1;clear hb1;have PR3:=Lib.hid (PR2.out.below H3.out (by go_light;have:=HSZ.out;have:=S1.out;omega))
 have PO3:=Lib.hid (PO2.out.below H3.out (by go_light;have:=HSZ.out;have:=S1.out;omega))
 have HB3:Hid (Below w.heap.size w w3):=HB2.out.trans (H3.out.mono (by go_light;have:=HSZ.out;have:=S1.out;omega))
 have S3:=Lib.hid (show w.heap.size+1+1<w3.heap.size by go_light;have:=H3.out.size;have:=HSZ.out;have:=S1.out;omega)
 have p0:w3.cell? ⟨w.heap.size+1+1,0,none⟩=some (.int .i64 a):=by have h:=PO3.out.cell 0;simp at h;exact h
 have p1:w3.cell? ⟨w.heap.size+1+1,1,none⟩=some (.int .i64 b):=by have h:=PO3.out.cell 1;simp at h;exact h
 have g0:w3.frozen? ⟨w.heap.size+1+1,0,none⟩=false:=PO3.out.frozen 0;have g1:w3.frozen? ⟨w.heap.size+1+1,1,none⟩=false:=PO3.out.frozen 1;clear PR2 PO2 HB2 H3 HSZ;go_wp2_with fail
 all_goals
  rw [rounds_succ];go_wp2_with fail;refine (bX _ _ _).mono ?_;rintro e w5 ⟨rfl,hb1⟩;have H5:=Lib.hid hb1;clear hb1 p0 p1 g0 g1;have PO5:=Lib.hid (BK.below ((PO3.out.set 0 _).set 1 _) H5.out (by rw [bU,bU];exact S3.out))
  have PR5:=Lib.hid (BK.below ((PR3.out.far (p:=⟨w.heap.size+1+1,0,none⟩) (by simp) _).far (p:=⟨w.heap.size+1+1,1,none⟩) (by simp) _) H5.out (by rw [bU,bU];exact Nat.lt_of_succ_lt S3.out))
  have HB5:Hid (Below w.heap.size w w5):=((HB3.out.setCell (le2 _) _).setCell (le2 _) _).trans (H5.out.mono (by rw [bU,bU];exact HB3.out.size))
  have p0:=PO5.out.cell 0;have p1:=PO5.out.cell 1;have q0:=PR5.out.cell 0;have q1:=PR5.out.cell 1;have q2:=PR5.out.frozen 0;have q3:=PR5.out.frozen 1;simp at p0 p1 q0 q1;clear PO3 PR3 HB3 S3 H5 PO5 PR5
  first|rw [F1.out (by go_light;omega) (by go_light;omega)]|rw [F2.out (by go_light;omega) (by go_light;omega)]|rw [F3.out (by go_light;omega) (by go_light;omega)]|rw [F4.out (by go_light;omega) (by go_light;omega)]
  cases V
 all_goals
  go_wp2;refine bodyPost_ret (by simp [results,Tryz.results55,go_sem,q0,q1];try rfl) rfl ⟨?_,by have:=HB5.out;go_light;go_grown⟩
  go_light
  first|rfl|exact AL (by omega) (by omega)
