/- The contract of the reference's Product of layer 44. -/
import Derived.Test.YtmldbeipmappnaaZRef1
import Derived.Test.YtmldbeipmappnaaZMid1
import Derived.Test.YtmldbeipmappnaaZSpE
set_option linter.unusedVariables false
set_option linter.unusedSimpArgs false
set_option maxRecDepth 100000
set_option maxHeartbeats 1000000
namespace Go.Proofs.Ytmldbeipmappnaa
open Go.RowKit Alm
end Go.Proofs.Ytmldbeipmappnaa
namespace Go.Proofs.Ytmldbeipmappnaa
open Go.RowKit Alm Sx
theorem ai7 (cl ch dl dh:Int) (w:World)
 (CV:Hid (∀ w:World,Calls Try.prog 101 #[.agg #[.int .i64 cl,.int .i64 ch,.int .i64 dl,.int .i64 dh]] w fun e w'=>e=.returned (.bool false)/\Below w.heap.size w w')) :
 Calls Try.prog 42 #[.agg #[.int .i64 cl,.int .i64 ch,.int .i64 dl,.int .i64 dh]] w fun e w'=>e=.returned (.tuple #[.agg #[.int .i64 0,.int .i64 0],.agg #[.int .i64 0,.int .i64 0],.int .i64 1])/\Below w.heap.size w w':=by
 have K0:=Lib.hid ((((fu w).new w.heap.size rfl 28 #[.int .i64 cl,.int .i64 ch,.int .i64 dl,.int .i64 dh]).new (w.heap.size+1) (by simp) 26 #[.int .i64 0,.int .i64 0]).new (w.heap.size+1+1) (by simp) 26 #[.int .i64 0,.int .i64 0])
 go_enter Try.func42,Try.ntmps42;go_wp2_with fail;refine (CV.out _).mono ?_;rintro e w1 ⟨rfl,hb1⟩;have K1:=Lib.hid (K0.out.below hb1);clear hb1 K0;go_upto_region 2 with (fail)
 have u0:=K1.out.c (g:=w.heap.size+1+1) (t:=26) (cs:=#[.int .i64 0,.int .i64 0]) (by simp) (i:=0) rfl
 have u1:=K1.out.c (g:=w.heap.size+1+1) (t:=26) (cs:=#[.int .i64 0,.int .i64 0]) (by simp) (i:=1) rfl
 have v0:=K1.out.c (g:=w.heap.size+1) (t:=26) (cs:=#[.int .i64 0,.int .i64 0]) (by simp) (i:=0) rfl
 have v1:=K1.out.c (g:=w.heap.size+1) (t:=26) (cs:=#[.int .i64 0,.int .i64 0]) (by simp) (i:=1) rfl
 have fu0:=K1.out.f (g:=w.heap.size+1+1) (t:=26) (cs:=#[.int .i64 0,.int .i64 0]) (by simp) 0
 have fu1:=K1.out.f (g:=w.heap.size+1+1) (t:=26) (cs:=#[.int .i64 0,.int .i64 0]) (by simp) 1
 have fv0:=K1.out.f (g:=w.heap.size+1) (t:=26) (cs:=#[.int .i64 0,.int .i64 0]) (by simp) 0
 have fv1:=K1.out.f (g:=w.heap.size+1) (t:=26) (cs:=#[.int .i64 0,.int .i64 0]) (by simp) 1
 go_region
 all_goals
  go_wp2;refine bodyPost_ret (by simp [results,Try.results42,go_sem,u0,u1,v0,v1];try rfl) rfl ⟨rfl,by have:=K1.out.1;go_light;go_grown⟩
theorem ajj (cl ch dl dh a b:Int) (w:World)
 (CV:Hid (∀ w:World,Calls Try.prog 101 #[.agg #[.int .i64 cl,.int .i64 ch,.int .i64 dl,.int .i64 dh]] w fun e w'=>e=.returned (.bool true)/\Below w.heap.size w w'))
 (CC:Hid (∀ w:World,Calls Try.prog 102 #[.agg #[.int .i64 cl,.int .i64 ch]] w fun e w'=>e=.returned (.tuple #[.agg #[.int .i64 a,.int .i64 b],.int .i64 0])/\Below w.heap.size w w'))
 (P1:Hid (∀ w:World,Calls Try.prog 104 #[.agg #[.int .i64 a,.int .i64 b],.agg #[.int .i64 dl,.int .i64 dh]] w fun e w'=>e=.returned (.tuple #[.agg #[.int .i64 0,.int .i64 0],.int .i64 5])/\Below w.heap.size w w')) :
 Calls Try.prog 42 #[.agg #[.int .i64 cl,.int .i64 ch,.int .i64 dl,.int .i64 dh]] w fun e w'=>e=.returned (.tuple #[.agg #[.int .i64 0,.int .i64 0],.agg #[.int .i64 0,.int .i64 0],.int .i64 5])/\Below w.heap.size w w':=by
 have i0:∀ w,(Instr.index 112 (.agg #[.func (.func 102) #[] #[],.func (.func 103) #[] #[]]) (.int .i64 0)).run Try.prog w=.ok (.func (.func 102) #[] #[]) w:=fun _=>by kernel_rfl
 have i1:∀ w,(Instr.index 112 (.agg #[.func (.func 102) #[] #[],.func (.func 103) #[] #[]]) (.int .i64 1)).run Try.prog w=.ok (.func (.func 103) #[] #[]) w:=fun _=>by kernel_rfl
 have K0:=Lib.hid ((((fu w).new w.heap.size rfl 28 #[.int .i64 cl,.int .i64 ch,.int .i64 dl,.int .i64 dh]).new (w.heap.size+1) (by simp) 26 #[.int .i64 0,.int .i64 0]).new (w.heap.size+1+1) (by simp) 26 #[.int .i64 0,.int .i64 0])
 go_enter Try.func42,Try.ntmps42;go_wp2_with fail;refine (CV.out _).mono ?_;rintro e w1 ⟨rfl,hb1⟩;have s1:=Lib.hid (show w.heap.size+1+1<w1.heap.size from (K0.out.below hb1).lt (g:=w.heap.size+1+1) (t:=26) (cs:=#[.int .i64 0,.int .i64 0]) (by simp))
 have K1:=Lib.hid ((K0.out.below hb1).new w1.heap.size rfl 110 #[.int .i64 0,.int .i64 0,.int .i64 0,.int .i64 0]);clear hb1 K0;have c0:=K1.out.c (g:=w.heap.size) (t:=28) (cs:=#[.int .i64 cl,.int .i64 ch,.int .i64 dl,.int .i64 dh]) (by simp) (i:=0) rfl
 have c1:=K1.out.c (g:=w.heap.size) (t:=28) (cs:=#[.int .i64 cl,.int .i64 ch,.int .i64 dl,.int .i64 dh]) (by simp) (i:=1) rfl
 go_wp2_with fail;refine wp_loop_rounds 3 ?_;rw [rounds_succ];go_wp2_with fail;refine (CC.out _).mono ?_;rintro e w2 ⟨rfl,hb1⟩;have K2:=Lib.hid ((K1.out.below hb1).new w2.heap.size rfl 87 #[.int .i64 a,.int .i64 b]);clear hb1 K1 c0 c1;have c2:=K2.out.c (g:=w.heap.size) (t:=28) (cs:=#[.int .i64 cl,.int .i64 ch,.int .i64 dl,.int .i64 dh]) (by simp) (i:=2) rfl
 have c3:=K2.out.c (g:=w.heap.size) (t:=28) (cs:=#[.int .i64 cl,.int .i64 ch,.int .i64 dl,.int .i64 dh]) (by simp) (i:=3) rfl
 go_wp2_with fail;refine (P1.out _).mono ?_;rintro e w3 ⟨rfl,hb1⟩;have K3:=Lib.hid ((K2.out.below hb1).sub (l':=[(w1.heap.size,110,#[.int .i64 0,.int .i64 0,.int .i64 0,.int .i64 0]),(w.heap.size+1+1,26,#[.int .i64 0,.int .i64 0]),(w.heap.size+1,26,#[.int .i64 0,.int .i64 0]),(w.heap.size,28,#[.int .i64 cl,.int .i64 ch,.int .i64 dl,.int .i64 dh])]) (by simp));clear hb1 K2 c2 c3
 have K4:=Lib.hid ((K3.out.set (by have:=s1.out;go_light;omega) (by have:=s1.out;go_light;simp;omega) 0 (.int .i64 0)).set (by have:=s1.out;go_light;omega) (by have:=s1.out;go_light;simp;omega) 1 (.int .i64 0))
 have c0:=K3.out.c (g:=w1.heap.size) (t:=110) (cs:=#[.int .i64 0,.int .i64 0,.int .i64 0,.int .i64 0]) (by simp) (i:=0) rfl
 have c1:=K3.out.c (g:=w1.heap.size) (t:=110) (cs:=#[.int .i64 0,.int .i64 0,.int .i64 0,.int .i64 0]) (by simp) (i:=1) rfl
 have f0:=K3.out.f (g:=w1.heap.size) (t:=110) (cs:=#[.int .i64 0,.int .i64 0,.int .i64 0,.int .i64 0]) (by simp) 0
 have f1:=K3.out.f (g:=w1.heap.size) (t:=110) (cs:=#[.int .i64 0,.int .i64 0,.int .i64 0,.int .i64 0]) (by simp) 1
 simp at K4;go_upto_region 12 with (fail)
 clear K3 c0 c1 f0 f1;generalize ((w3.setCell ⟨w1.heap.size,0,none⟩ (.int .i64 0)).setCell ⟨w1.heap.size,1,none⟩ (.int .i64 0))=w4 at *
 have u0:=K4.out.c (g:=w.heap.size+1+1) (t:=26) (cs:=#[.int .i64 0,.int .i64 0]) (by simp) (i:=0) rfl
 have u1:=K4.out.c (g:=w.heap.size+1+1) (t:=26) (cs:=#[.int .i64 0,.int .i64 0]) (by simp) (i:=1) rfl
 have v0:=K4.out.c (g:=w.heap.size+1) (t:=26) (cs:=#[.int .i64 0,.int .i64 0]) (by simp) (i:=0) rfl
 have v1:=K4.out.c (g:=w.heap.size+1) (t:=26) (cs:=#[.int .i64 0,.int .i64 0]) (by simp) (i:=1) rfl
 have fu0:=K4.out.f (g:=w.heap.size+1+1) (t:=26) (cs:=#[.int .i64 0,.int .i64 0]) (by simp) 0
 have fu1:=K4.out.f (g:=w.heap.size+1+1) (t:=26) (cs:=#[.int .i64 0,.int .i64 0]) (by simp) 1
 have fv0:=K4.out.f (g:=w.heap.size+1) (t:=26) (cs:=#[.int .i64 0,.int .i64 0]) (by simp) 0
 have fv1:=K4.out.f (g:=w.heap.size+1) (t:=26) (cs:=#[.int .i64 0,.int .i64 0]) (by simp) 1
 go_region
 all_goals
  go_wp2;refine bodyPost_ret (by simp [results,Try.results42,go_sem,u0,u1,v0,v1];try rfl) rfl ⟨rfl,by have:=K4.out.1;go_light;go_grown⟩
theorem aje (cl ch dl dh a b c d x y:Int) (w:World)
 (CV:Hid (∀ w:World,Calls Try.prog 101 #[.agg #[.int .i64 cl,.int .i64 ch,.int .i64 dl,.int .i64 dh]] w fun e w'=>e=.returned (.bool true)/\Below w.heap.size w w'))
 (CC:Hid (∀ w:World,Calls Try.prog 102 #[.agg #[.int .i64 cl,.int .i64 ch]] w fun e w'=>e=.returned (.tuple #[.agg #[.int .i64 a,.int .i64 b],.int .i64 0])/\Below w.heap.size w w'))
 (CS:Hid (∀ w:World,Calls Try.prog 103 #[.agg #[.int .i64 cl,.int .i64 ch]] w fun e w'=>e=.returned (.tuple #[.agg #[.int .i64 c,.int .i64 d],.int .i64 0])/\Below w.heap.size w w'))
 (P1:Hid (∀ w:World,Calls Try.prog 104 #[.agg #[.int .i64 a,.int .i64 b],.agg #[.int .i64 dl,.int .i64 dh]] w fun e w'=>e=.returned (.tuple #[.agg #[.int .i64 x,.int .i64 y],.int .i64 0])/\Below w.heap.size w w'))
 (P2:Hid (∀ w:World,Calls Try.prog 104 #[.agg #[.int .i64 c,.int .i64 d],.agg #[.int .i64 dl,.int .i64 dh]] w fun e w'=>e=.returned (.tuple #[.agg #[.int .i64 0,.int .i64 0],.int .i64 5])/\Below w.heap.size w w')) :
 Calls Try.prog 42 #[.agg #[.int .i64 cl,.int .i64 ch,.int .i64 dl,.int .i64 dh]] w fun e w'=>e=.returned (.tuple #[.agg #[.int .i64 0,.int .i64 0],.agg #[.int .i64 0,.int .i64 0],.int .i64 5])/\Below w.heap.size w w':=by
 have i0:∀ w,(Instr.index 112 (.agg #[.func (.func 102) #[] #[],.func (.func 103) #[] #[]]) (.int .i64 0)).run Try.prog w=.ok (.func (.func 102) #[] #[]) w:=fun _=>by kernel_rfl
 have i1:∀ w,(Instr.index 112 (.agg #[.func (.func 102) #[] #[],.func (.func 103) #[] #[]]) (.int .i64 1)).run Try.prog w=.ok (.func (.func 103) #[] #[]) w:=fun _=>by kernel_rfl
 have K0:=Lib.hid ((((fu w).new w.heap.size rfl 28 #[.int .i64 cl,.int .i64 ch,.int .i64 dl,.int .i64 dh]).new (w.heap.size+1) (by simp) 26 #[.int .i64 0,.int .i64 0]).new (w.heap.size+1+1) (by simp) 26 #[.int .i64 0,.int .i64 0])
 go_enter Try.func42,Try.ntmps42;go_wp2_with fail;refine (CV.out _).mono ?_;rintro e w1 ⟨rfl,hb1⟩;have s1:=Lib.hid (show w.heap.size+1+1<w1.heap.size from (K0.out.below hb1).lt (g:=w.heap.size+1+1) (t:=26) (cs:=#[.int .i64 0,.int .i64 0]) (by simp))
 have K1:=Lib.hid ((K0.out.below hb1).new w1.heap.size rfl 110 #[.int .i64 0,.int .i64 0,.int .i64 0,.int .i64 0]);clear hb1 K0;have c0:=K1.out.c (g:=w.heap.size) (t:=28) (cs:=#[.int .i64 cl,.int .i64 ch,.int .i64 dl,.int .i64 dh]) (by simp) (i:=0) rfl
 have c1:=K1.out.c (g:=w.heap.size) (t:=28) (cs:=#[.int .i64 cl,.int .i64 ch,.int .i64 dl,.int .i64 dh]) (by simp) (i:=1) rfl
 go_wp2_with fail;refine wp_loop_rounds 3 ?_;rw [rounds_succ];go_wp2_with fail;refine (CC.out _).mono ?_;rintro e w2 ⟨rfl,hb1⟩;have K2:=Lib.hid ((K1.out.below hb1).new w2.heap.size rfl 87 #[.int .i64 a,.int .i64 b]);clear hb1 K1 c0 c1;have c2:=K2.out.c (g:=w.heap.size) (t:=28) (cs:=#[.int .i64 cl,.int .i64 ch,.int .i64 dl,.int .i64 dh]) (by simp) (i:=2) rfl
 have c3:=K2.out.c (g:=w.heap.size) (t:=28) (cs:=#[.int .i64 cl,.int .i64 ch,.int .i64 dl,.int .i64 dh]) (by simp) (i:=3) rfl
 go_wp2_with fail;refine (P1.out _).mono ?_;rintro e w3 ⟨rfl,hb1⟩;have K3:=Lib.hid ((K2.out.below hb1).sub (l':=[(w1.heap.size,110,#[.int .i64 0,.int .i64 0,.int .i64 0,.int .i64 0]),(w.heap.size+1+1,26,#[.int .i64 0,.int .i64 0]),(w.heap.size+1,26,#[.int .i64 0,.int .i64 0]),(w.heap.size,28,#[.int .i64 cl,.int .i64 ch,.int .i64 dl,.int .i64 dh])]) (by simp));clear hb1 K2 c2 c3
 have K4:=Lib.hid ((K3.out.set (by have:=s1.out;go_light;omega) (by have:=s1.out;go_light;simp;omega) 0 (.int .i64 x)).set (by have:=s1.out;go_light;omega) (by have:=s1.out;go_light;simp;omega) 1 (.int .i64 y))
 have c0:=K3.out.c (g:=w1.heap.size) (t:=110) (cs:=#[.int .i64 0,.int .i64 0,.int .i64 0,.int .i64 0]) (by simp) (i:=0) rfl
 have c1:=K3.out.c (g:=w1.heap.size) (t:=110) (cs:=#[.int .i64 0,.int .i64 0,.int .i64 0,.int .i64 0]) (by simp) (i:=1) rfl
 have f0:=K3.out.f (g:=w1.heap.size) (t:=110) (cs:=#[.int .i64 0,.int .i64 0,.int .i64 0,.int .i64 0]) (by simp) 0
 have f1:=K3.out.f (g:=w1.heap.size) (t:=110) (cs:=#[.int .i64 0,.int .i64 0,.int .i64 0,.int .i64 0]) (by simp) 1
 simp at K4;go_wp2_with fail;rw [rounds_succ];clear K3 c0 c1 f0 f1;generalize ((w3.setCell ⟨w1.heap.size,0,none⟩ (.int .i64 x)).setCell ⟨w1.heap.size,1,none⟩ (.int .i64 y))=w4 at *
 have c0:=K4.out.c (g:=w.heap.size) (t:=28) (cs:=#[.int .i64 cl,.int .i64 ch,.int .i64 dl,.int .i64 dh]) (by simp) (i:=0) rfl
 have c1:=K4.out.c (g:=w.heap.size) (t:=28) (cs:=#[.int .i64 cl,.int .i64 ch,.int .i64 dl,.int .i64 dh]) (by simp) (i:=1) rfl
 go_wp2_with fail;refine (CS.out _).mono ?_;rintro e w5 ⟨rfl,hb1⟩;have K5:=Lib.hid ((K4.out.below hb1).new w5.heap.size rfl 87 #[.int .i64 c,.int .i64 d]);clear hb1 K4 c0 c1;have c2:=K5.out.c (g:=w.heap.size) (t:=28) (cs:=#[.int .i64 cl,.int .i64 ch,.int .i64 dl,.int .i64 dh]) (by simp) (i:=2) rfl
 have c3:=K5.out.c (g:=w.heap.size) (t:=28) (cs:=#[.int .i64 cl,.int .i64 ch,.int .i64 dl,.int .i64 dh]) (by simp) (i:=3) rfl
 go_wp2_with fail;refine (P2.out _).mono ?_;rintro e w6 ⟨rfl,hb1⟩;have K6:=Lib.hid ((K5.out.below hb1).sub (l':=[(w1.heap.size,110,#[.int .i64 x,.int .i64 y,.int .i64 0,.int .i64 0]),(w.heap.size+1+1,26,#[.int .i64 0,.int .i64 0]),(w.heap.size+1,26,#[.int .i64 0,.int .i64 0]),(w.heap.size,28,#[.int .i64 cl,.int .i64 ch,.int .i64 dl,.int .i64 dh])]) (by simp));clear hb1 K5 c2 c3
 have K7:=Lib.hid ((K6.out.set (by have:=s1.out;go_light;omega) (by have:=s1.out;go_light;simp;omega) 2 (.int .i64 0)).set (by have:=s1.out;go_light;omega) (by have:=s1.out;go_light;simp;omega) 3 (.int .i64 0))
 have c2:=K6.out.c (g:=w1.heap.size) (t:=110) (cs:=#[.int .i64 x,.int .i64 y,.int .i64 0,.int .i64 0]) (by simp) (i:=2) rfl
 have c3:=K6.out.c (g:=w1.heap.size) (t:=110) (cs:=#[.int .i64 x,.int .i64 y,.int .i64 0,.int .i64 0]) (by simp) (i:=3) rfl
 have f2:=K6.out.f (g:=w1.heap.size) (t:=110) (cs:=#[.int .i64 x,.int .i64 y,.int .i64 0,.int .i64 0]) (by simp) 2
 have f3:=K6.out.f (g:=w1.heap.size) (t:=110) (cs:=#[.int .i64 x,.int .i64 y,.int .i64 0,.int .i64 0]) (by simp) 3
 simp at K7;go_upto_region 12 with (fail)
 clear K6 c2 c3 f2 f3;generalize ((w6.setCell ⟨w1.heap.size,2,none⟩ (.int .i64 0)).setCell ⟨w1.heap.size,3,none⟩ (.int .i64 0))=w7 at *
 have u0:=K7.out.c (g:=w.heap.size+1+1) (t:=26) (cs:=#[.int .i64 0,.int .i64 0]) (by simp) (i:=0) rfl
 have u1:=K7.out.c (g:=w.heap.size+1+1) (t:=26) (cs:=#[.int .i64 0,.int .i64 0]) (by simp) (i:=1) rfl
 have v0:=K7.out.c (g:=w.heap.size+1) (t:=26) (cs:=#[.int .i64 0,.int .i64 0]) (by simp) (i:=0) rfl
 have v1:=K7.out.c (g:=w.heap.size+1) (t:=26) (cs:=#[.int .i64 0,.int .i64 0]) (by simp) (i:=1) rfl
 have fu0:=K7.out.f (g:=w.heap.size+1+1) (t:=26) (cs:=#[.int .i64 0,.int .i64 0]) (by simp) 0
 have fu1:=K7.out.f (g:=w.heap.size+1+1) (t:=26) (cs:=#[.int .i64 0,.int .i64 0]) (by simp) 1
 have fv0:=K7.out.f (g:=w.heap.size+1) (t:=26) (cs:=#[.int .i64 0,.int .i64 0]) (by simp) 0
 have fv1:=K7.out.f (g:=w.heap.size+1) (t:=26) (cs:=#[.int .i64 0,.int .i64 0]) (by simp) 1
 go_region
 all_goals
  go_wp2;refine bodyPost_ret (by simp [results,Try.results42,go_sem,u0,u1,v0,v1];try rfl) rfl ⟨rfl,by have:=K7.out.1;go_light;go_grown⟩
def aj1 (cl ch dl dh:Int):List Int:=if cu (aic (ah3 cl ch) (ah4 cl ch) dl dh) (aib (ah3 cl ch) (ah4 cl ch) dl dh)=true/\cu (aic (bU cl ch) (bW cl ch) dl dh) (aib (bU cl ch) (bW cl ch) dl dh)=true then [aic (ah3 cl ch) (ah4 cl ch) dl dh,aib (ah3 cl ch) (ah4 cl ch) dl dh,aic (bU cl ch) (bW cl ch) dl dh,aib (bU cl ch) (bW cl ch) dl dh,0] else [0,0,0,0,5]
def aii (cl ch dl dh:Int):List Int:=if aiu cl ch dl dh=true then aj1 cl ch dl dh else [0,0,0,0,1]
def alb (l:List Int):Value:=.tuple #[.agg #[.int .i64 (l.getD 0 0),.int .i64 (l.getD 1 0)],.agg #[.int .i64 (l.getD 2 0),.int .i64 (l.getD 3 0)],.int .i64 (l.getD 4 0)]
theorem ai9 (cl ch dl dh:Int) (w:World):Calls Try.prog 42 #[.agg #[.int .i64 cl,.int .i64 ch,.int .i64 dl,.int .i64 dh]] w fun e w'=>e=.returned (alb (aii cl ch dl dh))/\Below w.heap.size w w':=by
 have CV:=fun w=>aiL cl ch dl dh w
 unfold aii
 by_cases hl:aiu cl ch dl dh=true
 . rw [if_pos hl];rw [hl] at CV
   have hp:cu cl ch=true/\cu dl dh=true:=by
    unfold aiu at hl;simp only [Bool.and_eq_true] at hl;exact ⟨hl.1,hl.2.1⟩
   have P1:=fun w=>aij (ah3 cl ch) (ah4 cl ch) dl dh w (UL _ _) (aia hp.2).1 (aia hp.2).2
   have P2:=fun w=>aij (bU cl ch) (bW cl ch) dl dh w (UL _ _) (aia hp.2).1 (aia hp.2).2
   unfold aiR at P1 P2;unfold aj1
   by_cases h1:cu (aic (ah3 cl ch) (ah4 cl ch) dl dh) (aib (ah3 cl ch) (ah4 cl ch) dl dh)=true
   . rw [if_pos h1] at P1
     by_cases h2:cu (aic (bU cl ch) (bW cl ch) dl dh) (aib (bU cl ch) (bW cl ch) dl dh)=true
     . rw [if_pos ⟨h1,h2⟩];rw [if_pos h2] at P2;exact aix cl ch dl dh _ _ _ _ _ _ _ _ w (Lib.hid CV) (Lib.hid fun w=>acg cl ch w hp.1) (Lib.hid fun w=>acp cl ch w hp.1) (Lib.hid P1) (Lib.hid P2)
     . rw [if_neg (fun q=>h2 q.2)]
       rw [if_neg h2] at P2;exact aje cl ch dl dh _ _ _ _ _ _ w (Lib.hid CV) (Lib.hid fun w=>acg cl ch w hp.1) (Lib.hid fun w=>acp cl ch w hp.1) (Lib.hid P1) (Lib.hid P2)
   . rw [if_neg (fun q=>h1 q.1)]
     rw [if_neg h1] at P1;exact ajj cl ch dl dh _ _ w (Lib.hid CV) (Lib.hid fun w=>acg cl ch w hp.1) (Lib.hid P1)
 . rw [if_neg hl];rw [show aiu cl ch dl dh=false by simpa using hl] at CV
   exact ai7 cl ch dl dh w (Lib.hid CV)
