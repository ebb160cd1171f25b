/- The contracts of package midlatitude: legs. -/
import Derived.Test.YtgmncdmcdgkodaaGreatZMid2
import Derived.Test.YtgmncdmcdgkodaaGreatZKp
set_option linter.unusedVariables false
set_option linter.unusedSimpArgs false
set_option maxRecDepth 100000
set_option maxHeartbeats 1000000
namespace Go.Proofs.YtgmncdmcdgkodaaGreat
open Go.RowKit Alm
def pz (cl ch dl dh:Int):Bool:=aC cl ch&&(aC dl dh&&decide (0<=dl))
theorem tK (cl ch dl dh:Int) (w:World) :
 Calls Tryz.prog 49 #[.agg #[.int .i64 cl,.int .i64 ch,.int .i64 dl,.int .i64 dh]] w fun e w'=>e=.returned (.bool (pz cl ch dl dh))/\Below w.heap.size w w':=by
 have C1:=Lib.hid (fun w=>bX cl ch w)
 have C2:=Lib.hid (fun w=>bX dl dh w)
 have e1:pz cl ch dl dh=(aC cl ch&&(aC dl dh&&decide (0<=dl))):=rfl;rw [e1];clear e1;generalize aC cl ch=U at *
 generalize aC dl dh=V at *
 have PA:=Lib.hid (gB w 35 #[.int .i64 cl,.int .i64 ch,.int .i64 dl,.int .i64 dh]);go_enter Tryz.func49,Tryz.ntmps49;go_wp2_with fail;refine (C1.out _).mono ?_;rintro e w1 ⟨rfl,hb1⟩;have H1:=Lib.hid hb1;clear hb1;have PA1:=Lib.hid (PA.out.below H1.out (by go_light;simp))
 have HB1:Hid (Below w.heap.size w w1):=((Below.refl _ _).alloc (Nat.le_refl _) _).trans (H1.out.mono (by go_light;simp))
 have p2:=PA1.out.cell 2;have p3:=PA1.out.cell 3;simp at p2 p3;clear PA;cases U
 . go_wp2;go_ret;exact ⟨rfl,HB1.out⟩
 . go_wp2_with fail;refine (C2.out _).mono ?_;rintro e w2 ⟨rfl,hb1⟩;have H2:=Lib.hid hb1;clear hb1 p2 p3;have PA2:=Lib.hid (PA1.out.below H2.out (by go_light;have:=H1.out.size;simp at this;omega))
   have HB2:Hid (Below w.heap.size w w2):=HB1.out.trans (H2.out.mono HB1.out.size);have p2:=PA2.out.cell 2;simp at p2;cases V
   . go_wp2;go_ret;exact ⟨rfl,HB2.out⟩
   . go_wp2;go_ret;exact ⟨rfl,HB2.out⟩
theorem ww (cl ch dl dh a b c d x y z t:Int) (w:World)
 (CV:Hid (∀ w:World,Calls Tryz.prog 49 #[.agg #[.int .i64 cl,.int .i64 ch,.int .i64 dl,.int .i64 dh]] w fun e w'=>e=.returned (.bool true)/\Below w.heap.size w w'))
 (CC:Hid (∀ w:World,Calls Tryz.prog 54 #[.agg #[.int .i64 cl,.int .i64 ch]] w fun e w'=>e=.returned (.tuple #[.agg #[.int .i64 a,.int .i64 b],.int .i64 0])/\Below w.heap.size w w'))
 (CS:Hid (∀ w:World,Calls Tryz.prog 60 #[.agg #[.int .i64 cl,.int .i64 ch]] w fun e w'=>e=.returned (.tuple #[.agg #[.int .i64 c,.int .i64 d],.int .i64 0])/\Below w.heap.size w w'))
 (P1:Hid (∀ w:World,Calls Tryz.prog 68 #[.agg #[.int .i64 a,.int .i64 b],.agg #[.int .i64 dl,.int .i64 dh]] w fun e w'=>e=.returned (.tuple #[.agg #[.int .i64 x,.int .i64 y],.int .i64 0])/\Below w.heap.size w w'))
 (P2:Hid (∀ w:World,Calls Tryz.prog 68 #[.agg #[.int .i64 c,.int .i64 d],.agg #[.int .i64 dl,.int .i64 dh]] w fun e w'=>e=.returned (.tuple #[.agg #[.int .i64 z,.int .i64 t],.int .i64 0])/\Below w.heap.size w w')) :
 Calls Tryz.prog 50 #[.agg #[.int .i64 cl,.int .i64 ch,.int .i64 dl,.int .i64 dh]] w fun e w'=>e=.returned (.tuple #[.agg #[.int .i64 x,.int .i64 y],.agg #[.int .i64 z,.int .i64 t],.int .i64 0])/\Below w.heap.size w w':=by
 have i0:∀ w,(Instr.index 95 (.agg #[.func (.func 54) #[] #[],.func (.func 60) #[] #[]]) (.int .i64 0)).run Tryz.prog w=.ok (.func (.func 54) #[] #[]) w:=fun _=>by kernel_rfl
 have i1:∀ w,(Instr.index 95 (.agg #[.func (.func 54) #[] #[],.func (.func 60) #[] #[]]) (.int .i64 1)).run Tryz.prog w=.ok (.func (.func 60) #[] #[]) w:=fun _=>by kernel_rfl
 have K0:=Lib.hid ((((au w).new w.heap.size rfl 35 #[.int .i64 cl,.int .i64 ch,.int .i64 dl,.int .i64 dh]).new (w.heap.size+1) (by simp) 23 #[.int .i64 0,.int .i64 0]).new (w.heap.size+1+1) (by simp) 23 #[.int .i64 0,.int .i64 0])
 go_enter Tryz.func50,Tryz.ntmps50;go_wp2_with fail;refine (CV.out _).mono ?_;rintro e w1 ⟨rfl,hb1⟩;have s1:=Lib.hid (show w.heap.size+1+1<w1.heap.size from (K0.out.below hb1).lt (g:=w.heap.size+1+1) (t:=23) (cs:=#[.int .i64 0,.int .i64 0]) (by simp))
 have K1:=Lib.hid ((K0.out.below hb1).new w1.heap.size rfl 94 #[.int .i64 0,.int .i64 0,.int .i64 0,.int .i64 0]);clear hb1 K0;have c0:=K1.out.c (g:=w.heap.size) (t:=35) (cs:=#[.int .i64 cl,.int .i64 ch,.int .i64 dl,.int .i64 dh]) (by simp) (i:=0) rfl
 have c1:=K1.out.c (g:=w.heap.size) (t:=35) (cs:=#[.int .i64 cl,.int .i64 ch,.int .i64 dl,.int .i64 dh]) (by simp) (i:=1) rfl
 go_wp2_with fail;refine wp_loop_rounds 3 ?_;rw [rounds_succ];go_wp2_with fail;refine (CC.out _).mono ?_;rintro e w2 ⟨rfl,hb1⟩;have K2:=Lib.hid ((K1.out.below hb1).new w2.heap.size rfl 83 #[.int .i64 a,.int .i64 b]);clear hb1 K1 c0 c1;have c2:=K2.out.c (g:=w.heap.size) (t:=35) (cs:=#[.int .i64 cl,.int .i64 ch,.int .i64 dl,.int .i64 dh]) (by simp) (i:=2) rfl
 have c3:=K2.out.c (g:=w.heap.size) (t:=35) (cs:=#[.int .i64 cl,.int .i64 ch,.int .i64 dl,.int .i64 dh]) (by simp) (i:=3) rfl
 go_wp2_with fail;refine (P1.out _).mono ?_;rintro e w3 ⟨rfl,hb1⟩;have K3:=Lib.hid ((K2.out.below hb1).sub (l':=[(w1.heap.size,94,#[.int .i64 0,.int .i64 0,.int .i64 0,.int .i64 0]),(w.heap.size+1+1,23,#[.int .i64 0,.int .i64 0]),(w.heap.size+1,23,#[.int .i64 0,.int .i64 0]),(w.heap.size,35,#[.int .i64 cl,.int .i64 ch,.int .i64 dl,.int .i64 dh])]) (by simp));clear hb1 K2 c2 c3
 have K4:=Lib.hid ((K3.out.set (by have:=s1.out;go_light;omega) (by have:=s1.out;go_light;simp;omega) 0 (.int .i64 x)).set (by have:=s1.out;go_light;omega) (by have:=s1.out;go_light;simp;omega) 1 (.int .i64 y))
 have c0:=K3.out.c (g:=w1.heap.size) (t:=94) (cs:=#[.int .i64 0,.int .i64 0,.int .i64 0,.int .i64 0]) (by simp) (i:=0) rfl
 have c1:=K3.out.c (g:=w1.heap.size) (t:=94) (cs:=#[.int .i64 0,.int .i64 0,.int .i64 0,.int .i64 0]) (by simp) (i:=1) rfl
 have f0:=K3.out.f (g:=w1.heap.size) (t:=94) (cs:=#[.int .i64 0,.int .i64 0,.int .i64 0,.int .i64 0]) (by simp) 0
 have f1:=K3.out.f (g:=w1.heap.size) (t:=94) (cs:=#[.int .i64 0,.int .i64 0,.int .i64 0,.int .i64 0]) (by simp) 1
 simp at K4;go_wp2_with fail;rw [rounds_succ];clear K3 c0 c1 f0 f1;generalize ((w3.setCell ⟨w1.heap.size,0,none⟩ (.int .i64 x)).setCell ⟨w1.heap.size,1,none⟩ (.int .i64 y))=w4 at *
 have c0:=K4.out.c (g:=w.heap.size) (t:=35) (cs:=#[.int .i64 cl,.int .i64 ch,.int .i64 dl,.int .i64 dh]) (by simp) (i:=0) rfl
 have c1:=K4.out.c (g:=w.heap.size) (t:=35) (cs:=#[.int .i64 cl,.int .i64 ch,.int .i64 dl,.int .i64 dh]) (by simp) (i:=1) rfl
 go_wp2_with fail;refine (CS.out _).mono ?_;rintro e w5 ⟨rfl,hb1⟩;have K5:=Lib.hid ((K4.out.below hb1).new w5.heap.size rfl 83 #[.int .i64 c,.int .i64 d]);clear hb1 K4 c0 c1;have c2:=K5.out.c (g:=w.heap.size) (t:=35) (cs:=#[.int .i64 cl,.int .i64 ch,.int .i64 dl,.int .i64 dh]) (by simp) (i:=2) rfl
 have c3:=K5.out.c (g:=w.heap.size) (t:=35) (cs:=#[.int .i64 cl,.int .i64 ch,.int .i64 dl,.int .i64 dh]) (by simp) (i:=3) rfl
 go_wp2_with fail;refine (P2.out _).mono ?_;rintro e w6 ⟨rfl,hb1⟩;have K6:=Lib.hid ((K5.out.below hb1).sub (l':=[(w1.heap.size,94,#[.int .i64 x,.int .i64 y,.int .i64 0,.int .i64 0]),(w.heap.size+1+1,23,#[.int .i64 0,.int .i64 0]),(w.heap.size+1,23,#[.int .i64 0,.int .i64 0]),(w.heap.size,35,#[.int .i64 cl,.int .i64 ch,.int .i64 dl,.int .i64 dh])]) (by simp));clear hb1 K5 c2 c3
 have K7:=Lib.hid ((K6.out.set (by have:=s1.out;go_light;omega) (by have:=s1.out;go_light;simp;omega) 2 (.int .i64 z)).set (by have:=s1.out;go_light;omega) (by have:=s1.out;go_light;simp;omega) 3 (.int .i64 t))
 have c2:=K6.out.c (g:=w1.heap.size) (t:=94) (cs:=#[.int .i64 x,.int .i64 y,.int .i64 0,.int .i64 0]) (by simp) (i:=2) rfl
 have c3:=K6.out.c (g:=w1.heap.size) (t:=94) (cs:=#[.int .i64 x,.int .i64 y,.int .i64 0,.int .i64 0]) (by simp) (i:=3) rfl
 have f2:=K6.out.f (g:=w1.heap.size) (t:=94) (cs:=#[.int .i64 x,.int .i64 y,.int .i64 0,.int .i64 0]) (by simp) 2
 have f3:=K6.out.f (g:=w1.heap.size) (t:=94) (cs:=#[.int .i64 x,.int .i64 y,.int .i64 0,.int .i64 0]) (by simp) 3
 simp at K7;go_wp2_with fail;rw [rounds_succ];clear K6 c2 c3 f2 f3;generalize ((w6.setCell ⟨w1.heap.size,2,none⟩ (.int .i64 z)).setCell ⟨w1.heap.size,3,none⟩ (.int .i64 t))=w7 at *
 have c0:=K7.out.c (g:=w1.heap.size) (t:=94) (cs:=#[.int .i64 x,.int .i64 y,.int .i64 z,.int .i64 t]) (by simp) (i:=0) rfl
 have c1:=K7.out.c (g:=w1.heap.size) (t:=94) (cs:=#[.int .i64 x,.int .i64 y,.int .i64 z,.int .i64 t]) (by simp) (i:=1) rfl
 have c2:=K7.out.c (g:=w1.heap.size) (t:=94) (cs:=#[.int .i64 x,.int .i64 y,.int .i64 z,.int .i64 t]) (by simp) (i:=2) rfl
 have c3:=K7.out.c (g:=w1.heap.size) (t:=94) (cs:=#[.int .i64 x,.int .i64 y,.int .i64 z,.int .i64 t]) (by simp) (i:=3) rfl
 have u0:=K7.out.c (g:=w.heap.size+1+1) (t:=23) (cs:=#[.int .i64 0,.int .i64 0]) (by simp) (i:=0) rfl
 have u1:=K7.out.c (g:=w.heap.size+1+1) (t:=23) (cs:=#[.int .i64 0,.int .i64 0]) (by simp) (i:=1) rfl
 have v0:=K7.out.c (g:=w.heap.size+1) (t:=23) (cs:=#[.int .i64 0,.int .i64 0]) (by simp) (i:=0) rfl
 have v1:=K7.out.c (g:=w.heap.size+1) (t:=23) (cs:=#[.int .i64 0,.int .i64 0]) (by simp) (i:=1) rfl
 have fu0:=K7.out.f (g:=w.heap.size+1+1) (t:=23) (cs:=#[.int .i64 0,.int .i64 0]) (by simp) 0
 have fu1:=K7.out.f (g:=w.heap.size+1+1) (t:=23) (cs:=#[.int .i64 0,.int .i64 0]) (by simp) 1
 have fv0:=K7.out.f (g:=w.heap.size+1) (t:=23) (cs:=#[.int .i64 0,.int .i64 0]) (by simp) 0
 have fv1:=K7.out.f (g:=w.heap.size+1) (t:=23) (cs:=#[.int .i64 0,.int .i64 0]) (by simp) 1
 go_wp2;go_region
 all_goals
  go_wp2;refine bodyPost_ret (by simp [results,Tryz.results50,go_sem,u0,u1,v0,v1];try rfl) rfl ⟨rfl,by have:=K7.out.1;go_light;go_grown⟩
theorem xQ (cl ch dl dh:Int) (w:World) (hl:pz cl ch dl dh=true) (h1:aC (nE (bn cl ch) (aY cl ch) dl dh) (oI (bn cl ch) (aY cl ch) dl dh)=true) (h2:aC (nE (fK cl ch) (fM cl ch) dl dh) (oI (fK cl ch) (fM cl ch) dl dh)=true) :
 Calls Tryz.prog 50 #[.agg #[.int .i64 cl,.int .i64 ch,.int .i64 dl,.int .i64 dh]] w fun e w' =>
  e=.returned (.tuple #[.agg #[.int .i64 (nE (bn cl ch) (aY cl ch) dl dh),.int .i64 (oI (bn cl ch) (aY cl ch) dl dh)],.agg #[.int .i64 (nE (fK cl ch) (fM cl ch) dl dh),.int .i64 (oI (fK cl ch) (fM cl ch) dl dh)],.int .i64 0])/\Below w.heap.size w w':=by
 have hp:aC cl ch=true/\aC dl dh=true:=by
  unfold pz at hl;simp only [Bool.and_eq_true] at hl;exact ⟨hl.1,hl.2.1⟩
 have CV:=fun w=>tK cl ch dl dh w
 rw [hl] at CV;have P1:=fun w=>pX (bn cl ch) (aY cl ch) dl dh w (Fb _ _) (fu hp.2).1 (fu hp.2).2
 have P2:=fun w=>pX (fK cl ch) (fM cl ch) dl dh w (Fb _ _) (fu hp.2).1 (fu hp.2).2
 unfold FO at P1 P2;rw [h1,if_pos rfl] at P1;rw [h2,if_pos rfl] at P2;exact ww cl ch dl dh _ _ _ _ _ _ _ _ w (Lib.hid CV) (Lib.hid fun w=>BM cl ch w hp.1) (Lib.hid fun w=>EK cl ch w hp.1) (Lib.hid P1) (Lib.hid P2)
