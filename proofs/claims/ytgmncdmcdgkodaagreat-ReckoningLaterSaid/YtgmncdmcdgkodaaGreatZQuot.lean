/- The contract of fixed.Quotient for the quotients of 1 by a positive interval. -/
import Derived.Test.YtgmncdmcdgkodaaGreatZMid4
set_option linter.unusedVariables false
set_option linter.unusedSimpArgs false
set_option maxRecDepth 100000
set_option maxHeartbeats 4000000
namespace Go.Proofs.YtgmncdmcdgkodaaGreat
open Go.RowKit Alm
theorem jI (P b1 b2:Int) (h1:0<b1) (h2:b1<=b2) (hP:0<=P):0<=P/b2/\P/b2<=P/b1/\(-P)/b1<=(-P)/b2/\(-P)/b2<=0:=by
 have e1:=Int.ediv_nonneg hP (show 0<=b2 by omega)
 refine ⟨e1,?_,?_,?_⟩
 . apply Int.le_ediv_of_mul_le h1;have a:=Int.mul_ediv_add_emod P b2;have b:=Int.emod_nonneg P (show b2≠0 by omega)
   have c:P/b2*b1<=P/b2*b2:=Int.mul_le_mul_of_nonneg_left h2 e1;have d:P/b2*b2=b2*(P/b2):=Int.mul_comm _ _;omega
 . apply Int.le_ediv_of_mul_le (by omega)
   have a:=Int.mul_ediv_add_emod (-P) b1;have b:=Int.emod_nonneg (-P) (show b1≠0 by omega)
   have hn:(-P)/b1<=0:=by
    have:(-P)/b1<1:=Int.ediv_lt_of_lt_mul h1 (by omega)
    omega
   have c:-((-P)/b1)*b1<=-((-P)/b1)*b2:=Int.mul_le_mul_of_nonneg_left h2 (by omega)
   have d:b1*((-P)/b1)=(-P)/b1*b1:=Int.mul_comm _ _;have e:-((-P)/b1)*b1=-((-P)/b1*b1):=Int.neg_mul _ _;have f:-((-P)/b1)*b2=-((-P)/b1*b2):=Int.neg_mul _ _;omega
 . have:(-P)/b2<1:=Int.ediv_lt_of_lt_mul (by omega) (by omega)
   omega
theorem zl (n b1 b2:Int) (h1:0<b1) (h2:b1<=b2) (h:In64 (qFl 1073741824 n b1)/\In64 (qCe 1073741824 n b1)):In64 (qFl 1073741824 n b2)/\In64 (qCe 1073741824 n b2):=by
 unfold In64 qFl qCe at *
 by_cases hP:0<=1073741824*n
 . have m:=jI _ b1 b2 h1 h2 hP;omega
 . have m:=jI (-(1073741824*n)) b1 b2 h1 h2 (by omega)
   rw [Int.neg_neg] at m;omega
def nZ (b1 b2 n:Int):Int:=min (qFl 1073741824 n b1) (qFl 1073741824 n b2)
def mH (b1 b2 n:Int):Int:=max (qCe 1073741824 n b1) (qCe 1073741824 n b2)
def mr (b1 b2 n:Int):Bool:=ay (nZ b1 b2 n)&&ay (mH b1 b2 n)
def qtR (b1 b2 n:Int):Value:=if mr b1 b2 n then .tuple #[.int .i64 (nZ b1 b2 n),.int .i64 (mH b1 b2 n),.int .i64 0] else .tuple #[.int .i64 0,.int .i64 0,.int .i64 5]
theorem Al (b1 b2 n x y:Int) (w:World)
 (C0:Hid (∀ w:World,Calls Tryz.prog 73 #[.agg #[.int .i64 1073741824,.int .i64 1073741824],.agg #[.int .i64 b1,.int .i64 b2]] w fun e w'=>e=.returned (.bool true)/\Below w.heap.size w w'))
 (C1:Hid (∀ w:World,Calls Tryz.prog 74 #[.int .i64 n] w fun e w'=>e=.returned (.bool true)/\w=w'))
 (C2:Hid (∀ w:World,Calls Tryz.prog 75 #[.agg #[.int .i64 b1,.int .i64 b2]] w fun e w'=>e=.returned (.bool false)/\Below w.heap.size w w'))
 (C3:Hid (∀ w:World,Calls Tryz.prog 76 #[.int .i64 1073741824,.int .i64 n,.int .i64 b1] w fun e w'=>(∃ a b:Int,e=.returned (.tuple #[.int .i64 a,.int .i64 b,.int .i64 5]))/\Below w.heap.size w w')) :
 Calls Tryz.prog 57 #[.agg #[.int .i64 1073741824,.int .i64 1073741824],.agg #[.int .i64 b1,.int .i64 b2],.int .i64 n] w fun e w'=>e=.returned (.tuple #[.int .i64 0,.int .i64 0,.int .i64 5])/\Below w.heap.size w w':=by
 have K0:=Lib.hid (((au w).new w.heap.size rfl 83 #[.int .i64 1073741824,.int .i64 1073741824]).new (w.heap.size+1) (by simp) 83 #[.int .i64 b1,.int .i64 b2])
 go_enter Tryz.func57,Tryz.ntmps57;go_wp2_with fail;refine (C0.out _).mono ?_;rintro e w1 ⟨rfl,hb1⟩;have K1:=Lib.hid (K0.out.below hb1);clear hb1 K0;go_wp2_with fail;refine (C1.out _).mono ?_;rintro e w' ⟨rfl,rfl⟩;have c0:=K1.out.c (g:=w.heap.size+1) (t:=83) (cs:=#[.int .i64 b1,.int .i64 b2]) (by simp) (i:=0) rfl
 have c1:=K1.out.c (g:=w.heap.size+1) (t:=83) (cs:=#[.int .i64 b1,.int .i64 b2]) (by simp) (i:=1) rfl
 have d0:=K1.out.c (g:=w.heap.size) (t:=83) (cs:=#[.int .i64 1073741824,.int .i64 1073741824]) (by simp) (i:=0) rfl
 have d1:=K1.out.c (g:=w.heap.size) (t:=83) (cs:=#[.int .i64 1073741824,.int .i64 1073741824]) (by simp) (i:=1) rfl
 go_wp2_with fail;refine (C2.out _).mono ?_;rintro e w2 ⟨rfl,hb1⟩;have K2:=Lib.hid (K1.out.below hb1);clear hb1 K1 c0 c1 d0 d1;have c0:=K2.out.c (g:=w.heap.size+1) (t:=83) (cs:=#[.int .i64 b1,.int .i64 b2]) (by simp) (i:=0) rfl
 have c1:=K2.out.c (g:=w.heap.size+1) (t:=83) (cs:=#[.int .i64 b1,.int .i64 b2]) (by simp) (i:=1) rfl
 have d0:=K2.out.c (g:=w.heap.size) (t:=83) (cs:=#[.int .i64 1073741824,.int .i64 1073741824]) (by simp) (i:=0) rfl
 have d1:=K2.out.c (g:=w.heap.size) (t:=83) (cs:=#[.int .i64 1073741824,.int .i64 1073741824]) (by simp) (i:=1) rfl
 go_wp2;have K3:=Lib.hid (K2.out.new w2.heap.size rfl 98 #[.int .i64 1073741824,.int .i64 b1,.int .i64 1073741824,.int .i64 b2,.int .i64 1073741824,.int .i64 b1,.int .i64 1073741824,.int .i64 b2]);clear c0 c1 d0 d1;refine wp_loop_rounds 5 ?_;rw [rounds_succ];go_wp2_with fail;refine (C3.out _).mono ?_;rintro e w3 ⟨⟨u,v,rfl⟩,hb1⟩;have K4:=Lib.hid ((K3.out.alloc _).below hb1);clear hb1 K3;go_wp2;go_ret3;exact ⟨rfl,K4.out.1⟩
theorem Dy (b1 b2 n a b c d:Int) (U V:Bool) (w:World) (hU:ay (min a c)=U) (hV:ay (max b d)=V)
 (C0:Hid (∀ w:World,Calls Tryz.prog 73 #[.agg #[.int .i64 1073741824,.int .i64 1073741824],.agg #[.int .i64 b1,.int .i64 b2]] w fun e w'=>e=.returned (.bool true)/\Below w.heap.size w w'))
 (C1:Hid (∀ w:World,Calls Tryz.prog 74 #[.int .i64 n] w fun e w'=>e=.returned (.bool true)/\w=w'))
 (C2:Hid (∀ w:World,Calls Tryz.prog 75 #[.agg #[.int .i64 b1,.int .i64 b2]] w fun e w'=>e=.returned (.bool false)/\Below w.heap.size w w'))
 (C3:Hid (∀ w:World,Calls Tryz.prog 76 #[.int .i64 1073741824,.int .i64 n,.int .i64 b1] w fun e w'=>e=.returned (.tuple #[.int .i64 a,.int .i64 b,.int .i64 0])/\Below w.heap.size w w'))
 (C3':Hid (∀ w:World,Calls Tryz.prog 76 #[.int .i64 1073741824,.int .i64 n,.int .i64 b2] w fun e w'=>e=.returned (.tuple #[.int .i64 c,.int .i64 d,.int .i64 0])/\Below w.heap.size w w'))
 (h:(c<a/\d<b)∨(c<a/\d=b)∨(a=c/\d<b)∨(a=c/\d=b)∨(a<c/\b<d)∨(a<c/\b=d)∨(a=c/\b<d)) :
 Calls Tryz.prog 57 #[.agg #[.int .i64 1073741824,.int .i64 1073741824],.agg #[.int .i64 b1,.int .i64 b2],.int .i64 n] w fun e w'=>e=.returned (if (U&&V) then .tuple #[.int .i64 (min a c),.int .i64 (max b d),.int .i64 0] else .tuple #[.int .i64 0,.int .i64 0,.int .i64 5])/\Below w.heap.size w w':=by
 rcases h with ⟨h1,h2⟩|⟨h1,rfl⟩|⟨rfl,h2⟩|⟨rfl,rfl⟩|⟨h1,h2⟩|⟨h1,rfl⟩|⟨rfl,h2⟩
 all_goals
  first|rw [show min a c=c by omega] at hU ⊢|rw [show min a c=a by omega] at hU ⊢|rw [show min a a=a by omega] at hU ⊢
  first|rw [show max b d=b by omega] at hV ⊢|rw [show max b d=d by omega] at hV ⊢|rw [show max d d=d by omega] at hV ⊢|rw [show max b b=b by omega] at hV ⊢
  have FU:=Lib.hid hU;have FV:=Lib.hid hV;clear hU hV;have K0:=Lib.hid (((au w).new w.heap.size rfl 83 #[.int .i64 1073741824,.int .i64 1073741824]).new (w.heap.size+1) (by simp) 83 #[.int .i64 b1,.int .i64 b2])
  go_enter Tryz.func57,Tryz.ntmps57;go_wp2_with fail;refine (C0.out _).mono ?_;rintro e w1 ⟨rfl,hb1⟩;have K1:=Lib.hid (K0.out.below hb1);clear hb1 K0;go_wp2_with fail;refine (C1.out _).mono ?_;rintro e w' ⟨rfl,rfl⟩;have c0:=K1.out.c (g:=w.heap.size+1) (t:=83) (cs:=#[.int .i64 b1,.int .i64 b2]) (by simp) (i:=0) rfl
  have c1:=K1.out.c (g:=w.heap.size+1) (t:=83) (cs:=#[.int .i64 b1,.int .i64 b2]) (by simp) (i:=1) rfl
  have d0:=K1.out.c (g:=w.heap.size) (t:=83) (cs:=#[.int .i64 1073741824,.int .i64 1073741824]) (by simp) (i:=0) rfl
  have d1:=K1.out.c (g:=w.heap.size) (t:=83) (cs:=#[.int .i64 1073741824,.int .i64 1073741824]) (by simp) (i:=1) rfl
  go_wp2_with fail;refine (C2.out _).mono ?_;rintro e w2 ⟨rfl,hb1⟩;have K2:=Lib.hid (K1.out.below hb1);clear hb1 K1 c0 c1 d0 d1;have c0:=K2.out.c (g:=w.heap.size+1) (t:=83) (cs:=#[.int .i64 b1,.int .i64 b2]) (by simp) (i:=0) rfl
  have c1:=K2.out.c (g:=w.heap.size+1) (t:=83) (cs:=#[.int .i64 b1,.int .i64 b2]) (by simp) (i:=1) rfl
  have d0:=K2.out.c (g:=w.heap.size) (t:=83) (cs:=#[.int .i64 1073741824,.int .i64 1073741824]) (by simp) (i:=0) rfl
  have d1:=K2.out.c (g:=w.heap.size) (t:=83) (cs:=#[.int .i64 1073741824,.int .i64 1073741824]) (by simp) (i:=1) rfl
  go_wp2;have K3:=Lib.hid (K2.out.new w2.heap.size rfl 98 #[.int .i64 1073741824,.int .i64 b1,.int .i64 1073741824,.int .i64 b2,.int .i64 1073741824,.int .i64 b1,.int .i64 1073741824,.int .i64 b2]);clear c0 c1 d0 d1;refine wp_loop_rounds 5 ?_;rw [rounds_succ];go_wp2_with fail;refine (C3.out _).mono ?_;rintro e w3 ⟨rfl,hb1⟩;have K4:=Lib.hid ((K3.out.alloc _).below hb1);clear hb1 K3;have c2:=K4.out.c (g:=w2.heap.size) (t:=98) (cs:=#[.int .i64 1073741824,.int .i64 b1,.int .i64 1073741824,.int .i64 b2,.int .i64 1073741824,.int .i64 b1,.int .i64 1073741824,.int .i64 b2]) (by simp) (i:=2) rfl
  have c3:=K4.out.c (g:=w2.heap.size) (t:=98) (cs:=#[.int .i64 1073741824,.int .i64 b1,.int .i64 1073741824,.int .i64 b2,.int .i64 1073741824,.int .i64 b1,.int .i64 1073741824,.int .i64 b2]) (by simp) (i:=3) rfl
  go_wp2_with fail;rw [rounds_succ];go_wp2_with fail;refine (C3'.out _).mono ?_;rintro e w4 ⟨rfl,hb1⟩;have K5:=Lib.hid ((K4.out.alloc _).below hb1);clear hb1 K4;clear c2 c3;have c4:=K5.out.c (g:=w2.heap.size) (t:=98) (cs:=#[.int .i64 1073741824,.int .i64 b1,.int .i64 1073741824,.int .i64 b2,.int .i64 1073741824,.int .i64 b1,.int .i64 1073741824,.int .i64 b2]) (by simp) (i:=4) rfl
  have c5:=K5.out.c (g:=w2.heap.size) (t:=98) (cs:=#[.int .i64 1073741824,.int .i64 b1,.int .i64 1073741824,.int .i64 b2,.int .i64 1073741824,.int .i64 b1,.int .i64 1073741824,.int .i64 b2]) (by simp) (i:=5) rfl
  go_wp2_with fail;rw [rounds_succ];go_wp2_with fail;refine (C3.out _).mono ?_;rintro e w5 ⟨rfl,hb1⟩;have K6:=Lib.hid ((K5.out.alloc _).below hb1);clear hb1 K5;clear c4 c5;have c6:=K6.out.c (g:=w2.heap.size) (t:=98) (cs:=#[.int .i64 1073741824,.int .i64 b1,.int .i64 1073741824,.int .i64 b2,.int .i64 1073741824,.int .i64 b1,.int .i64 1073741824,.int .i64 b2]) (by simp) (i:=6) rfl
  have c7:=K6.out.c (g:=w2.heap.size) (t:=98) (cs:=#[.int .i64 1073741824,.int .i64 b1,.int .i64 1073741824,.int .i64 b2,.int .i64 1073741824,.int .i64 b1,.int .i64 1073741824,.int .i64 b2]) (by simp) (i:=7) rfl
  go_wp2_with fail;rw [rounds_succ];go_wp2_with fail;refine (C3'.out _).mono ?_;rintro e w6 ⟨rfl,hb1⟩;have K7:=Lib.hid ((K6.out.alloc _).below hb1);clear hb1 K6;go_wp2_with fail;rw [rounds_succ];go_wp2_with fail;refine (jW _ _).mono ?_;rintro e w' ⟨rfl,rfl⟩;rw [FU.out];cases U
  . go_wp2;go_ret3;exact ⟨rfl,K7.out.1⟩
  . go_wp2_with fail;refine (jW _ _).mono ?_;rintro e w' ⟨rfl,rfl⟩;rw [FV.out];cases V
    . go_wp2;go_ret3;exact ⟨rfl,K7.out.1⟩
    . go_wp2;go_ret3;exact ⟨rfl,K7.out.1⟩
theorem GY (b1 b2 n:Int) (w:World) (h1:0<b1) (h2:b1<=b2) (h3:b2<=2147483648) (hn:ay n=true) :
 Calls Tryz.prog 57 #[.agg #[.int .i64 1073741824,.int .i64 1073741824],.agg #[.int .i64 b1,.int .i64 b2],.int .i64 n] w fun e w'=>e=.returned (qtR b1 b2 n)/\Below w.heap.size w w':=by
 have hnb:-1099511627776<=n/\n<=1099511627776:=by unfold ay at hn;simpa using hn
 have C0:=fun w=>CX 1073741824 1073741824 b1 b2 w
 have e0:(fxV 1073741824 1073741824&&fxV b1 b2)=true:=by unfold fxV;simp;omega
 rw [e0] at C0;have C1:=fun w=>jW n w
 rw [hn] at C1;have C2:=fun w=>Du b1 b2 w
 have e2:xu b1 b2=false:=by unfold xu;simp;omega
 rw [e2] at C2;have hP:(1073741824:Int).natAbs*n.natAbs<=1073741824*1099511627776:=Nat.mul_le_mul (by omega) (by omega)
 by_cases hi:In64 (qFl 1073741824 n b1)/\In64 (qCe 1073741824 n b1)
 . have hi2:=zl n b1 b2 h1 h2 hi;have C3:=fun w=>fT 1073741824 n b1 w ⟨by omega,by omega⟩ ⟨by omega,by omega⟩ (by omega) h1 (by omega) hi.1 hi.2
   have C4:=fun w=>fT 1073741824 n b2 w ⟨by omega,by omega⟩ ⟨by omega,by omega⟩ (by omega) (by omega) (by omega) hi2.1 hi2.2
   have ho:(qFl 1073741824 n b2<=qFl 1073741824 n b1/\qCe 1073741824 n b2<=qCe 1073741824 n b1)∨(qFl 1073741824 n b1<=qFl 1073741824 n b2/\qCe 1073741824 n b1<=qCe 1073741824 n b2):=by
    unfold qFl qCe
    by_cases hP:0<=1073741824*n
    . have m:=jI _ b1 b2 h1 h2 hP
      left;omega
    . have m:=jI (-(1073741824*n)) b1 b2 h1 h2 (by omega)
      rw [Int.neg_neg] at m
      right;omega
   have q:=Dy b1 b2 n _ _ _ _ _ _ w rfl rfl (Lib.hid C0) (Lib.hid C1) (Lib.hid C2) (Lib.hid C3) (Lib.hid C4) (by omega)
   exact q
 . have C3:=fun w=>vP 1073741824 n b1 w ⟨by omega,by omega⟩ ⟨by omega,by omega⟩ (by omega) h1 (by omega) hi
   have hno:mr b1 b2 n=false:=by
    unfold mr;rw [Bool.and_eq_false_iff];unfold In64 at hi;have hle:qFl 1073741824 n b1<=qCe 1073741824 n b1:=(wM 1073741824 n b1 1180591620717411303424 (by omega) (by omega)).2.2.2.2.1
    by_cases hx:-9223372036854775808<=qFl 1073741824 n b1/\qFl 1073741824 n b1<=9223372036854775807
    . right;unfold ay mH;rw [decide_eq_false_iff_not];omega
    . by_cases hz:qFl 1073741824 n b1<0
      . left;unfold ay nZ;rw [decide_eq_false_iff_not];omega
      . right;unfold ay mH;rw [decide_eq_false_iff_not];omega
   unfold qtR;rw [hno];exact Al b1 b2 n 0 0 w (Lib.hid C0) (Lib.hid C1) (Lib.hid C2) (Lib.hid C3)
