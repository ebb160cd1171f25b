/- The contract of Departure. -/
import Derived.Test.YtmldbeipmappnaaZMid1
set_option linter.unusedVariables false
set_option linter.unusedSimpArgs false
set_option maxRecDepth 100000
namespace Go.Proofs.Ytmldbeipmappnaa
open Go.RowKit Alm
theorem aiG (lo hi alo ahi:Int) (w:World) (hl:aik lo hi=true) (ha:cu alo ahi=true) :
 Calls Try.prog 47 #[.agg #[.int .i64 lo,.int .i64 hi],.agg #[.int .i64 alo,.int .i64 ahi]] w fun e w'=>e=.returned (aiR (aic (ah3 lo hi) (ah4 lo hi) alo ahi) (aib (ah3 lo hi) (ah4 lo hi) alo ahi))/\Below w.heap.size w w':=by
 have C1:=fun w=>aif lo hi w
 rw [hl] at C1;have C2:=fun w=>aid alo ahi w
 rw [ha] at C2;have C3:=Lib.hid (fun w=>acg lo hi w (aip hl))
 have C4:=Lib.hid (fun w=>aij (ah3 lo hi) (ah4 lo hi) alo ahi w (UL _ _) (aia ha).1 (aia ha).2)
 have C1:=Lib.hid C1;have C2:=Lib.hid C2;change Hid (∀ w:World,Calls Try.prog 102 #[.agg #[.int .i64 lo,.int .i64 hi]] w fun e w'=>e=.returned (.tuple #[.agg #[.int .i64 (ah3 lo hi),.int .i64 (ah4 lo hi)],.int .i64 0])/\Below w.heap.size w w') at C3
 clear hl ha;have e1:∀ x y,aiR x y=if cu x y then .tuple #[.agg #[.int .i64 x,.int .i64 y],.int .i64 0] else .tuple #[.agg #[.int .i64 0,.int .i64 0],.int .i64 5]:=fun _ _=>rfl
 rw [e1] at C4 ⊢;clear e1;generalize aic (ah3 lo hi) (ah4 lo hi) alo ahi=x at *
 generalize aib (ah3 lo hi) (ah4 lo hi) alo ahi=y at *
 generalize cu x y=V at *
 generalize ah3 lo hi=u at *
 generalize ah4 lo hi=v at *
 have PA:=Lib.hid ((((LQ w 26 #[.int .i64 lo,.int .i64 hi]).alloc (.cells #[.int .i64 alo,.int .i64 ahi] 26)).alloc (.cells #[.int .i64 0,.int .i64 0] 26)));have PB:=Lib.hid ((aei (w.alloc (.cells #[.int .i64 lo,.int .i64 hi] 26)) (w.heap.size+1) 26 #[.int .i64 alo,.int .i64 ahi] (by simp)).alloc (.cells #[.int .i64 0,.int .i64 0] 26))
 have PR:=Lib.hid (aei ((w.alloc (.cells #[.int .i64 lo,.int .i64 hi] 26)).alloc (.cells #[.int .i64 alo,.int .i64 ahi] 26)) (w.heap.size+1+1) 26 #[.int .i64 0,.int .i64 0] (by simp))
 have HB0:Hid (Below w.heap.size w (((w.alloc (.cells #[.int .i64 lo,.int .i64 hi] 26)).alloc (.cells #[.int .i64 alo,.int .i64 ahi] 26)).alloc (.cells #[.int .i64 0,.int .i64 0] 26))):=(((Below.refl _ _).alloc (Nat.le_refl _) _).alloc (by simp) _).alloc (by simp<;>omega) _
 have S0:=Lib.hid (show (((w.alloc (.cells #[.int .i64 lo,.int .i64 hi] 26)).alloc (.cells #[.int .i64 alo,.int .i64 ahi] 26)).alloc (.cells #[.int .i64 0,.int .i64 0] 26)).heap.size=w.heap.size+1+1+1 by simp)
 go_enter Try.func47,Try.ntmps47;go_wp2_with fail;generalize (((w.alloc (.cells #[.int .i64 lo,.int .i64 hi] 26)).alloc (.cells #[.int .i64 alo,.int .i64 ahi] 26)).alloc (.cells #[.int .i64 0,.int .i64 0] 26))=w0 at *
 refine (C1.out _).mono ?_;rintro e w1 ⟨rfl,hb1⟩;have H1:=Lib.hid hb1;clear hb1;have S1:=Lib.hid (show w.heap.size+1+1<w1.heap.size by go_light;have:=H1.out.size;have:=S0.out;omega)
 have PA1:=Lib.hid (PA.out.below H1.out (by go_light;have:=S0.out;omega))
 have PB1:=Lib.hid (PB.out.below H1.out (by go_light;have:=S0.out;omega))
 have PR1:=Lib.hid (PR.out.below H1.out (by go_light;have:=S0.out;omega))
 have HB1:Hid (Below w.heap.size w w1):=HB0.out.trans (H1.out.mono (by go_light;have:=S0.out;omega))
 clear PA PB PR HB0 S0 H1;have p0:=PB1.out.cell 0;have p1:=PB1.out.cell 1;simp at p0 p1;go_wp2_with fail;refine (C2.out _).mono ?_;rintro e w2 ⟨rfl,hb1⟩;have H2:=Lib.hid hb1;clear hb1 p0 p1;have S2:=Lib.hid (show w.heap.size+1+1<w2.heap.size by go_light;have:=H2.out.size;have:=S1.out;omega)
 have PA2:=Lib.hid (PA1.out.below H2.out (by go_light;have:=S1.out;omega))
 have PB2:=Lib.hid (PB1.out.below H2.out (by go_light;have:=S1.out;omega))
 have PR2:=Lib.hid (PR1.out.below H2.out (by go_light;have:=S1.out;omega))
 have HB2:Hid (Below w.heap.size w w2):=HB1.out.trans (H2.out.mono (by go_light;have:=S1.out;omega))
 clear PA1 PB1 PR1 HB1 S1 H2;have p0:=PA2.out.cell 0;have p1:=PA2.out.cell 1;simp at p0 p1;go_wp2_with fail;refine (C3.out _).mono ?_;rintro e w3 ⟨rfl,hb1⟩;have H3:=Lib.hid hb1;clear hb1 p0 p1;have S3:=Lib.hid (show w.heap.size+1+1<w3.heap.size by go_light;have:=H3.out.size;have:=S2.out;omega)
 have PB3:=Lib.hid ((PB2.out.below H3.out (by go_light;have:=S2.out;omega)).alloc (.cells #[.int .i64 u,.int .i64 v] 87))
 have PR3:=Lib.hid ((PR2.out.below H3.out (by go_light;have:=S2.out;omega)).alloc (.cells #[.int .i64 u,.int .i64 v] 87))
 have HB3:Hid (Below w.heap.size w (w3.alloc (.cells #[.int .i64 u,.int .i64 v] 87))):=(HB2.out.trans (H3.out.mono (by go_light;have:=S2.out;omega))).alloc (by go_light;have:=S3.out;omega) _
 clear PA2 PB2 PR2 HB2 S2 H3;have p0:=PB3.out.cell 0;have p1:=PB3.out.cell 1;simp at p0 p1;go_wp2_with fail;refine (C4.out _).mono ?_;rintro e w4 ⟨rfl,hb1⟩;have H4:=Lib.hid hb1;clear hb1 p0 p1;have PR4:=Lib.hid (PR3.out.below H4.out (by go_light;have:=S3.out;simp;omega))
 have HB4:Hid (Below w.heap.size w w4):=HB3.out.trans (H4.out.mono (by go_light;have:=S3.out;simp;omega))
 have q0:=PR4.out.cell 0;have q1:=PR4.out.cell 1;have q2:=PR4.out.frozen 0;have q3:=PR4.out.frozen 1;simp at q0 q1;clear PB3 PR3 HB3 H4 S3 PR4;cases V
 . go_wp2;refine bodyPost_ret (by simp [results,Try.results47,go_sem,q0,q1];try rfl) rfl ⟨rfl,by have:=HB4.out;go_light;go_grown⟩
 . go_wp2;refine bodyPost_ret (by simp [results,Try.results47,go_sem,q0,q1];try rfl) rfl ⟨rfl,by have:=HB4.out;go_light;go_grown⟩
