/- The contract of fixed.Quotient for the quotients of 1 by a positive interval. -/
import Derived.Test.YtmldbeipmappnaaZMid1
set_option linter.unusedVariables false
set_option linter.unusedSimpArgs false
set_option maxRecDepth 100000
set_option maxHeartbeats 4000000
namespace Go.Proofs.Ytmldbeipmappnaa
open Go.RowKit Alm
theorem aio (P b1 b2:Int) (h1:0<b1) (h2:b1<=b2) (hP:0<=P):0<=P/b2/\P/b2<=P/b1/\(-P)/b1<=(-P)/b2/\(-P)/b2<=0:=by
 have e1:=Int.ediv_nonneg hP (show 0<=b2 by omega)
 refine ⟨e1,?_,?_,?_⟩
 . apply Int.le_ediv_of_mul_le h1;have a:=Int.mul_ediv_add_emod P b2;have b:=Int.emod_nonneg P (show b2≠0 by omega)
   have c:P/b2*b1<=P/b2*b2:=Int.mul_le_mul_of_nonneg_left h2 e1;have d:P/b2*b2=b2*(P/b2):=Int.mul_comm _ _;omega
 . apply Int.le_ediv_of_mul_le (by omega)
   have a:=Int.mul_ediv_add_emod (-P) b1;have b:=Int.emod_nonneg (-P) (show b1≠0 by omega)
   have hn:(-P)/b1<=0:=by
    have:(-P)/b1<1:=Int.ediv_lt_of_lt_mul h1 (by omega)
    omega
   have c:-((-P)/b1)*b1<=-((-P)/b1)*b2:=Int.mul_le_mul_of_nonneg_left h2 (by omega)
   have d:b1*((-P)/b1)=(-P)/b1*b1:=Int.mul_comm _ _;have e:-((-P)/b1)*b1=-((-P)/b1*b1):=Int.neg_mul _ _;have f:-((-P)/b1)*b2=-((-P)/b1*b2):=Int.neg_mul _ _;omega
 . have:(-P)/b2<1:=Int.ediv_lt_of_lt_mul (by omega) (by omega)
   omega
theorem ai6 (n b1 b2:Int) (h1:0<b1) (h2:b1<=b2) (h:In64 (qFl 1073741824 n b1)/\In64 (qCe 1073741824 n b1)):In64 (qFl 1073741824 n b2)/\In64 (qCe 1073741824 n b2):=by
 unfold In64 qFl qCe at *
 by_cases hP:0<=1073741824*n
 . have m:=aio _ b1 b2 h1 h2 hP;omega
 . have m:=aio (-(1073741824*n)) b1 b2 h1 h2 (by omega)
   rw [Int.neg_neg] at m;omega
def aiq (b1 b2 n:Int):Int:=min (qFl 1073741824 n b1) (qFl 1073741824 n b2)
def ain (b1 b2 n:Int):Int:=max (qCe 1073741824 n b1) (qCe 1073741824 n b2)
def ail (b1 b2 n:Int):Bool:=jP (aiq b1 b2 n)&&jP (ain b1 b2 n)
def qtR (b1 b2 n:Int):Value:=if ail b1 b2 n then .tuple #[.int .i64 (aiq b1 b2 n),.int .i64 (ain b1 b2 n),.int .i64 0] else .tuple #[.int .i64 0,.int .i64 0,.int .i64 5]
theorem ajf (b1 b2 n x y:Int) (w:World)
 (C0:Hid (∀ w:World,Calls Try.prog 142 #[.agg #[.int .i64 1073741824,.int .i64 1073741824],.agg #[.int .i64 b1,.int .i64 b2]] w fun e w'=>e=.returned (.bool true)/\Below w.heap.size w w'))
 (C1:Hid (∀ w:World,Calls Try.prog 143 #[.int .i64 n] w fun e w'=>e=.returned (.bool true)/\w=w'))
 (C2:Hid (∀ w:World,Calls Try.prog 144 #[.agg #[.int .i64 b1,.int .i64 b2]] w fun e w'=>e=.returned (.bool false)/\Below w.heap.size w w'))
 (C3:Hid (∀ w:World,Calls Try.prog 145 #[.int .i64 1073741824,.int .i64 n,.int .i64 b1] w fun e w'=>(∃ a b:Int,e=.returned (.tuple #[.int .i64 a,.int .i64 b,.int .i64 5]))/\Below w.heap.size w w')) :
 Calls Try.prog 94 #[.agg #[.int .i64 1073741824,.int .i64 1073741824],.agg #[.int .i64 b1,.int .i64 b2],.int .i64 n] w fun e w'=>e=.returned (.tuple #[.int .i64 0,.int .i64 0,.int .i64 5])/\Below w.heap.size w w':=by
 have K0:=Lib.hid (((fu w).new w.heap.size rfl 87 #[.int .i64 1073741824,.int .i64 1073741824]).new (w.heap.size+1) (by simp) 87 #[.int .i64 b1,.int .i64 b2])
 go_enter Try.func94,Try.ntmps94;go_wp2_with fail;refine (C0.out _).mono ?_;rintro e w1 ⟨rfl,hb1⟩;have K1:=Lib.hid (K0.out.below hb1);clear hb1 K0;go_wp2_with fail;refine (C1.out _).mono ?_;rintro e w' ⟨rfl,rfl⟩;have c0:=K1.out.c (g:=w.heap.size+1) (t:=87) (cs:=#[.int .i64 b1,.int .i64 b2]) (by simp) (i:=0) rfl
 have c1:=K1.out.c (g:=w.heap.size+1) (t:=87) (cs:=#[.int .i64 b1,.int .i64 b2]) (by simp) (i:=1) rfl
 have d0:=K1.out.c (g:=w.heap.size) (t:=87) (cs:=#[.int .i64 1073741824,.int .i64 1073741824]) (by simp) (i:=0) rfl
 have d1:=K1.out.c (g:=w.heap.size) (t:=87) (cs:=#[.int .i64 1073741824,.int .i64 1073741824]) (by simp) (i:=1) rfl
 go_wp2_with fail;refine (C2.out _).mono ?_;rintro e w2 ⟨rfl,hb1⟩;have K2:=Lib.hid (K1.out.below hb1);clear hb1 K1 c0 c1 d0 d1;have c0:=K2.out.c (g:=w.heap.size+1) (t:=87) (cs:=#[.int .i64 b1,.int .i64 b2]) (by simp) (i:=0) rfl
 have c1:=K2.out.c (g:=w.heap.size+1) (t:=87) (cs:=#[.int .i64 b1,.int .i64 b2]) (by simp) (i:=1) rfl
 have d0:=K2.out.c (g:=w.heap.size) (t:=87) (cs:=#[.int .i64 1073741824,.int .i64 1073741824]) (by simp) (i:=0) rfl
 have d1:=K2.out.c (g:=w.heap.size) (t:=87) (cs:=#[.int .i64 1073741824,.int .i64 1073741824]) (by simp) (i:=1) rfl
 go_wp2;have K3:=Lib.hid (K2.out.new w2.heap.size rfl 141 #[.int .i64 1073741824,.int .i64 b1,.int .i64 1073741824,.int .i64 b2,.int .i64 1073741824,.int .i64 b1,.int .i64 1073741824,.int .i64 b2]);clear c0 c1 d0 d1;refine wp_loop_rounds 5 ?_;rw [rounds_succ];go_wp2_with fail;refine (C3.out _).mono ?_;rintro e w3 ⟨⟨u,v,rfl⟩,hb1⟩;have K4:=Lib.hid ((K3.out.alloc _).below hb1);clear hb1 K3;go_wp2;go_ret3;exact ⟨rfl,K4.out.1⟩
theorem ajJ (b1 b2 n a b c d:Int) (U V:Bool) (w:World) (hU:jP (min a c)=U) (hV:jP (max b d)=V)
 (C0:Hid (∀ w:World,Calls Try.prog 142 #[.agg #[.int .i64 1073741824,.int .i64 1073741824],.agg #[.int .i64 b1,.int .i64 b2]] w fun e w'=>e=.returned (.bool true)/\Below w.heap.size w w'))
 (C1:Hid (∀ w:World,Calls Try.prog 143 #[.int .i64 n] w fun e w'=>e=.returned (.bool true)/\w=w'))
 (C2:Hid (∀ w:World,Calls Try.prog 144 #[.agg #[.int .i64 b1,.int .i64 b2]] w fun e w'=>e=.returned (.bool false)/\Below w.heap.size w w'))
 (C3:Hid (∀ w:World,Calls Try.prog 145 #[.int .i64 1073741824,.int .i64 n,.int .i64 b1] w fun e w'=>e=.returned (.tuple #[.int .i64 a,.int .i64 b,.int .i64 0])/\Below w.heap.size w w'))
 (C3':Hid (∀ w:World,Calls Try.prog 145 #[.int .i64 1073741824,.int .i64 n,.int .i64 b2] w fun e w'=>e=.returned (.tuple #[.int .i64 c,.int .i64 d,.int .i64 0])/\Below w.heap.size w w'))
 (h:(c<a/\d<b)∨(c<a/\d=b)∨(a=c/\d<b)∨(a=c/\d=b)∨(a<c/\b<d)∨(a<c/\b=d)∨(a=c/\b<d)) :
 Calls Try.prog 94 #[.agg #[.int .i64 1073741824,.int .i64 1073741824],.agg #[.int .i64 b1,.int .i64 b2],.int .i64 n] w fun e w'=>e=.returned (if (U&&V) then .tuple #[.int .i64 (min a c),.int .i64 (max b d),.int .i64 0] else .tuple #[.int .i64 0,.int .i64 0,.int .i64 5])/\Below w.heap.size w w':=by
 rcases h with ⟨h1,h2⟩|⟨h1,rfl⟩|⟨rfl,h2⟩|⟨rfl,rfl⟩|⟨h1,h2⟩|⟨h1,rfl⟩|⟨rfl,h2⟩
 all_goals
  first|rw [show min a c=c by omega] at hU ⊢|rw [show min a c=a by omega] at hU ⊢|rw [show min a a=a by omega] at hU ⊢
  first|rw [show max b d=b by omega] at hV ⊢|rw [show max b d=d by omega] at hV ⊢|rw [show max d d=d by omega] at hV ⊢|rw [show max b b=b by omega] at hV ⊢
  have FU:=Lib.hid hU;have FV:=Lib.hid hV;clear hU hV;have K0:=Lib.hid (((fu w).new w.heap.size rfl 87 #[.int .i64 1073741824,.int .i64 1073741824]).new (w.heap.size+1) (by simp) 87 #[.int .i64 b1,.int .i64 b2])
  go_enter Try.func94,Try.ntmps94;go_wp2_with fail;refine (C0.out _).mono ?_;rintro e w1 ⟨rfl,hb1⟩;have K1:=Lib.hid (K0.out.below hb1);clear hb1 K0;go_wp2_with fail;refine (C1.out _).mono ?_;rintro e w' ⟨rfl,rfl⟩;have c0:=K1.out.c (g:=w.heap.size+1) (t:=87) (cs:=#[.int .i64 b1,.int .i64 b2]) (by simp) (i:=0) rfl
  have c1:=K1.out.c (g:=w.heap.size+1) (t:=87) (cs:=#[.int .i64 b1,.int .i64 b2]) (by simp) (i:=1) rfl
  have d0:=K1.out.c (g:=w.heap.size) (t:=87) (cs:=#[.int .i64 1073741824,.int .i64 1073741824]) (by simp) (i:=0) rfl
  have d1:=K1.out.c (g:=w.heap.size) (t:=87) (cs:=#[.int .i64 1073741824,.int .i64 1073741824]) (by simp) (i:=1) rfl
  go_wp2_with fail;refine (C2.out _).mono ?_;rintro e w2 ⟨rfl,hb1⟩;have K2:=Lib.hid (K1.out.below hb1);clear hb1 K1 c0 c1 d0 d1;have c0:=K2.out.c (g:=w.heap.size+1) (t:=87) (cs:=#[.int .i64 b1,.int .i64 b2]) (by simp) (i:=0) rfl
  have c1:=K2.out.c (g:=w.heap.size+1) (t:=87) (cs:=#[.int .i64 b1,.int .i64 b2]) (by simp) (i:=1) rfl
  have d0:=K2.out.c (g:=w.heap.size) (t:=87) (cs:=#[.int .i64 1073741824,.int .i64 1073741824]) (by simp) (i:=0) rfl
  have d1:=K2.out.c (g:=w.heap.size) (t:=87) (cs:=#[.int .i64 1073741824,.int .i64 1073741824]) (by simp) (i:=1) rfl
  go_wp2;have K3:=Lib.hid (K2.out.new w2.heap.size rfl 141 #[.int .i64 1073741824,.int .i64 b1,.int .i64 1073741824,.int .i64 b2,.int .i64 1073741824,.int .i64 b1,.int .i64 1073741824,.int .i64 b2]);clear c0 c1 d0 d1;refine wp_loop_rounds 5 ?_;rw [rounds_succ];go_wp2_with fail;refine (C3.out _).mono ?_;rintro e w3 ⟨rfl,hb1⟩;have K4:=Lib.hid ((K3.out.alloc _).below hb1);clear hb1 K3;have c2:=K4.out.c (g:=w2.heap.size) (t:=141) (cs:=#[.int .i64 1073741824,.int .i64 b1,.int .i64 1073741824,.int .i64 b2,.int .i64 1073741824,.int .i64 b1,.int .i64 1073741824,.int .i64 b2]) (by simp) (i:=2) rfl
  have c3:=K4.out.c (g:=w2.heap.size) (t:=141) (cs:=#[.int .i64 1073741824,.int .i64 b1,.int .i64 1073741824,.int .i64 b2,.int .i64 1073741824,.int .i64 b1,.int .i64 1073741824,.int .i64 b2]) (by simp) (i:=3) rfl
  go_wp2_with fail;rw [rounds_succ];go_wp2_with fail;refine (C3'.out _).mono ?_;rintro e w4 ⟨rfl,hb1⟩;have K5:=Lib.hid ((K4.out.alloc _).below hb1);clear hb1 K4;clear c2 c3;have c4:=K5.out.c (g:=w2.heap.size) (t:=141) (cs:=#[.int .i64 1073741824,.int .i64 b1,.int .i64 1073741824,.int .i64 b2,.int .i64 1073741824,.int .i64 b1,.int .i64 1073741824,.int .i64 b2]) (by simp) (i:=4) rfl
  have c5:=K5.out.c (g:=w2.heap.size) (t:=141) (cs:=#[.int .i64 1073741824,.int .i64 b1,.int .i64 1073741824,.int .i64 b2,.int .i64 1073741824,.int .i64 b1,.int .i64 1073741824,.int .i64 b2]) (by simp) (i:=5) rfl
  go_wp2_with fail;rw [rounds_succ];go_wp2_with fail;refine (C3.out _).mono ?_;rintro e w5 ⟨rfl,hb1⟩;have K6:=Lib.hid ((K5.out.alloc _).below hb1);clear hb1 K5;clear c4 c5;have c6:=K6.out.c (g:=w2.heap.size) (t:=141) (cs:=#[.int .i64 1073741824,.int .i64 b1,.int .i64 1073741824,.int .i64 b2,.int .i64 1073741824,.int .i64 b1,.int .i64 1073741824,.int .i64 b2]) (by simp) (i:=6) rfl
  have c7:=K6.out.c (g:=w2.heap.size) (t:=141) (cs:=#[.int .i64 1073741824,.int .i64 b1,.int .i64 1073741824,.int .i64 b2,.int .i64 1073741824,.int .i64 b1,.int .i64 1073741824,.int .i64 b2]) (by simp) (i:=7) rfl
  go_wp2_with fail;rw [rounds_succ];go_wp2_with fail;refine (C3'.out _).mono ?_;rintro e w6 ⟨rfl,hb1⟩;have K7:=Lib.hid ((K6.out.alloc _).below hb1);clear hb1 K6;go_wp2_with fail;rw [rounds_succ];go_wp2_with fail;refine (NK _ _).mono ?_;rintro e w' ⟨rfl,rfl⟩;rw [FU.out];cases U
  . go_wp2;go_ret3;exact ⟨rfl,K7.out.1⟩
  . go_wp2_with fail;refine (NK _ _).mono ?_;rintro e w' ⟨rfl,rfl⟩;rw [FV.out];cases V
    . go_wp2;go_ret3;exact ⟨rfl,K7.out.1⟩
    . go_wp2;go_ret3;exact ⟨rfl,K7.out.1⟩
theorem ajY (b1 b2 n:Int) (w:World) (h1:0<b1) (h2:b1<=b2) (h3:b2<=2147483648) (hn:jP n=true) :
 Calls Try.prog 94 #[.agg #[.int .i64 1073741824,.int .i64 1073741824],.agg #[.int .i64 b1,.int .i64 b2],.int .i64 n] w fun e w'=>e=.returned (qtR b1 b2 n)/\Below w.heap.size w w':=by
 have hnb:-1099511627776<=n/\n<=1099511627776:=by unfold jP at hn;simpa using hn
 have C0:=fun w=>Bz 1073741824 1073741824 b1 b2 w
 have e0:(fxV 1073741824 1073741824&&fxV b1 b2)=true:=by unfold fxV;simp;omega
 rw [e0] at C0;have C1:=fun w=>NK n w
 rw [hn] at C1;have C2:=fun w=>aiW b1 b2 w
 have e2:aiy b1 b2=false:=by unfold aiy;simp;omega
 rw [e2] at C2;have hP:(1073741824:Int).natAbs*n.natAbs<=1073741824*1099511627776:=Nat.mul_le_mul (by omega) (by omega)
 by_cases hi:In64 (qFl 1073741824 n b1)/\In64 (qCe 1073741824 n b1)
 . have hi2:=ai6 n b1 b2 h1 h2 hi;have C3:=fun w=>sI 1073741824 n b1 w ⟨by omega,by omega⟩ ⟨by omega,by omega⟩ (by omega) h1 (by omega) hi.1 hi.2
   have C4:=fun w=>sI 1073741824 n b2 w ⟨by omega,by omega⟩ ⟨by omega,by omega⟩ (by omega) (by omega) (by omega) hi2.1 hi2.2
   have ho:(qFl 1073741824 n b2<=qFl 1073741824 n b1/\qCe 1073741824 n b2<=qCe 1073741824 n b1)∨(qFl 1073741824 n b1<=qFl 1073741824 n b2/\qCe 1073741824 n b1<=qCe 1073741824 n b2):=by
    unfold qFl qCe
    by_cases hP:0<=1073741824*n
    . have m:=aio _ b1 b2 h1 h2 hP
      left;omega
    . have m:=aio (-(1073741824*n)) b1 b2 h1 h2 (by omega)
      rw [Int.neg_neg] at m
      right;omega
   have q:=ajJ b1 b2 n _ _ _ _ _ _ w rfl rfl (Lib.hid C0) (Lib.hid C1) (Lib.hid C2) (Lib.hid C3) (Lib.hid C4) (by omega)
   exact q
 . have C3:=fun w=>aiS 1073741824 n b1 w ⟨by omega,by omega⟩ ⟨by omega,by omega⟩ (by omega) h1 (by omega) hi
   have hno:ail b1 b2 n=false:=by
    unfold ail;rw [Bool.and_eq_false_iff];unfold In64 at hi;have hle:qFl 1073741824 n b1<=qCe 1073741824 n b1:=(MO 1073741824 n b1 1180591620717411303424 (by omega) (by omega)).2.2.2.2.1
    by_cases hx:-9223372036854775808<=qFl 1073741824 n b1/\qFl 1073741824 n b1<=9223372036854775807
    . right;unfold jP ain;rw [decide_eq_false_iff_not];omega
    . by_cases hz:qFl 1073741824 n b1<0
      . left;unfold jP aiq;rw [decide_eq_false_iff_not];omega
      . right;unfold jP ain;rw [decide_eq_false_iff_not];omega
   unfold qtR;rw [hno];exact ajf b1 b2 n 0 0 w (Lib.hid C0) (Lib.hid C1) (Lib.hid C2) (Lib.hid C3)
end Go.Proofs.Ytmldbeipmappnaa
namespace Go.Proofs.Ytmldbeipmappnaa
open Go.RowKit Alm
theorem ajH (B C:Nat) (lo hi x y:Int) (w:World)
 (K1:Hid (∀ w',Below w.heap.size w w'->Calls Try.prog 112 #[.int .i64 lo,.pointer (some ⟨B,0,none⟩),.pointer (some ⟨C,0,none⟩)] w' fun e w''=>e=.returned (.tuple #[.int .i64 x,.int .i64 y,.int .i64 5])/\Below w'.heap.size w' w''))
 : Calls Try.prog 111 #[.agg #[.int .i64 lo,.int .i64 hi],.func (.func 112) #[] #[.pointer (some ⟨B,0,none⟩),.pointer (some ⟨C,0,none⟩)]] w fun e w'=>e=.returned (.tuple #[.agg #[.int .i64 0,.int .i64 0],.int .i64 5])/\Below w.heap.size w w':=by
 have i0:∀ w,(Instr.index 141 (.agg #[.int .i64 lo,.int .i64 hi]) (.int .i64 0)).run Try.prog w=.ok (.int .i64 lo) w:=fun _=>by kernel_rfl
 have i1:∀ w,(Instr.index 141 (.agg #[.int .i64 lo,.int .i64 hi]) (.int .i64 1)).run Try.prog w=.ok (.int .i64 hi) w:=fun _=>by kernel_rfl
 have K0:=Lib.hid ((((fu w).new w.heap.size rfl 26 #[.int .i64 lo,.int .i64 hi]).new (w.heap.size+1) (by simp) 26 #[.int .i64 0,.int .i64 0]).new (w.heap.size+1+1) (by simp) 26 #[.int .i64 0,.int .i64 0])
 go_enter Try.func111,Try.ntmps111;go_wp2;refine wp_loop_rounds 3 ?_;rw [rounds_succ];go_wp2_with fail;refine (K1.out _ K0.out.1).mono ?_;rintro e w1 ⟨rfl,hb1⟩;have KA:=Lib.hid (K0.out.below hb1);clear hb1 K0;have q0:=KA.out.c (g:=w.heap.size+1) (t:=26) (cs:=#[.int .i64 0,.int .i64 0]) (by simp) (i:=0) rfl
 have q1:=KA.out.c (g:=w.heap.size+1) (t:=26) (cs:=#[.int .i64 0,.int .i64 0]) (by simp) (i:=1) rfl
 have g0:=KA.out.f (g:=w.heap.size+1) (t:=26) (cs:=#[.int .i64 0,.int .i64 0]) (by simp) 0
 have g1:=KA.out.f (g:=w.heap.size+1) (t:=26) (cs:=#[.int .i64 0,.int .i64 0]) (by simp) 1
 go_wp2;refine bodyPost_ret (by simp [results,Try.results111,go_sem,q0,q1];try rfl) rfl ⟨rfl,by have:=KA.out.1;go_light;go_grown⟩
theorem ajI (B C:Nat) (lo hi a b x y:Int) (w:World)
 (K1:Hid (∀ w',Below w.heap.size w w'->Calls Try.prog 112 #[.int .i64 lo,.pointer (some ⟨B,0,none⟩),.pointer (some ⟨C,0,none⟩)] w' fun e w''=>e=.returned (.tuple #[.int .i64 a,.int .i64 b,.int .i64 0])/\Below w'.heap.size w' w''))
 (K2:Hid (∀ w',Below w.heap.size w w'->Calls Try.prog 112 #[.int .i64 hi,.pointer (some ⟨B,0,none⟩),.pointer (some ⟨C,0,none⟩)] w' fun e w''=>e=.returned (.tuple #[.int .i64 x,.int .i64 y,.int .i64 5])/\Below w'.heap.size w' w''))
 : Calls Try.prog 111 #[.agg #[.int .i64 lo,.int .i64 hi],.func (.func 112) #[] #[.pointer (some ⟨B,0,none⟩),.pointer (some ⟨C,0,none⟩)]] w fun e w'=>e=.returned (.tuple #[.agg #[.int .i64 0,.int .i64 0],.int .i64 5])/\Below w.heap.size w w':=by
 have i0:∀ w,(Instr.index 141 (.agg #[.int .i64 lo,.int .i64 hi]) (.int .i64 0)).run Try.prog w=.ok (.int .i64 lo) w:=fun _=>by kernel_rfl
 have i1:∀ w,(Instr.index 141 (.agg #[.int .i64 lo,.int .i64 hi]) (.int .i64 1)).run Try.prog w=.ok (.int .i64 hi) w:=fun _=>by kernel_rfl
 have K0:=Lib.hid ((((fu w).new w.heap.size rfl 26 #[.int .i64 lo,.int .i64 hi]).new (w.heap.size+1) (by simp) 26 #[.int .i64 0,.int .i64 0]).new (w.heap.size+1+1) (by simp) 26 #[.int .i64 0,.int .i64 0])
 go_enter Try.func111,Try.ntmps111;go_wp2;refine wp_loop_rounds 3 ?_;rw [rounds_succ];go_wp2_with fail;refine (K1.out _ K0.out.1).mono ?_;rintro e w1 ⟨rfl,hb1⟩;have KA:=Lib.hid (K0.out.below hb1);clear hb1 K0;have KB:=Lib.hid ((((KA.out.set (by go_light;omega) (by go_light;simp<;>omega) 0 (.int .i64 a)).set (by go_light;omega) (by go_light;simp<;>omega) 1 (.int .i64 b)).set (by go_light;omega) (by go_light;simp<;>omega) 0 (.int .i64 a)).set (by go_light;omega) (by go_light;simp<;>omega) 1 (.int .i64 b))
 have p0:=KA.out.c (g:=w.heap.size+1+1) (t:=26) (cs:=#[.int .i64 0,.int .i64 0]) (by simp) (i:=0) rfl
 have p1:=KA.out.c (g:=w.heap.size+1+1) (t:=26) (cs:=#[.int .i64 0,.int .i64 0]) (by simp) (i:=1) rfl
 have gp0:=KA.out.f (g:=w.heap.size+1+1) (t:=26) (cs:=#[.int .i64 0,.int .i64 0]) (by simp) 0
 have gp1:=KA.out.f (g:=w.heap.size+1+1) (t:=26) (cs:=#[.int .i64 0,.int .i64 0]) (by simp) 1
 go_wp2_with fail;rw [rounds_succ];go_wp2_with fail;clear p0 p1 gp0 gp1 KA;refine (K2.out _ KB.out.1).mono ?_;rintro e w2 ⟨rfl,hb1⟩;have KC:=Lib.hid (KB.out.below hb1);clear hb1 KB;have q0:=KC.out.c (g:=w.heap.size+1) (t:=26) (cs:=#[.int .i64 0,.int .i64 0]) (by simp) (i:=0) rfl
 have q1:=KC.out.c (g:=w.heap.size+1) (t:=26) (cs:=#[.int .i64 0,.int .i64 0]) (by simp) (i:=1) rfl
 have g0:=KC.out.f (g:=w.heap.size+1) (t:=26) (cs:=#[.int .i64 0,.int .i64 0]) (by simp) 0
 have g1:=KC.out.f (g:=w.heap.size+1) (t:=26) (cs:=#[.int .i64 0,.int .i64 0]) (by simp) 1
 go_wp2;refine bodyPost_ret (by simp [results,Try.results111,go_sem,q0,q1];try rfl) rfl ⟨rfl,by have:=KC.out.1;go_light;go_grown⟩
theorem ai3 (B C:Nat) (b1 b2 n:Int) (w:World) (hB:BK w B 87 #[.int .i64 1073741824,.int .i64 1073741824]) (hC:BK w C 87 #[.int .i64 b1,.int .i64 b2]) (h1:0<b1) (h2:b1<=b2) (h3:b2<=2147483648) (hn:jP n=true) :
 Calls Try.prog 112 #[.int .i64 n,.pointer (some ⟨B,0,none⟩),.pointer (some ⟨C,0,none⟩)] w fun e w'=>e=.returned (qtR b1 b2 n)/\Below w.heap.size w w':=by
 have p0:=hB.cell 0;have p1:=hB.cell 1;have q0:=hC.cell 0;have q1:=hC.cell 1;simp at p0 p1 q0 q1;have C1:=fun w=>ajY b1 b2 n w h1 h2 h3 hn
 unfold qtR at C1 ⊢
 clear hB hC h1 h2 h3 hn;generalize aiq b1 b2 n=x at *
 generalize ain b1 b2 n=y at *
 generalize ail b1 b2 n=V at *
 cases V
 all_goals
  simp only [if_true,if_false,Bool.false_eq_true] at C1 ⊢
  replace C1:=Lib.hid C1;go_enter Try.func112,Try.ntmps112;go_wp2_with fail;refine (C1.out _).mono ?_;rintro e w1 ⟨rfl,hb1⟩;have H1:=Lib.hid hb1;clear hb1;go_wp2;go_ret3;exact ⟨rfl,H1.out⟩
theorem aiK {b1 b2 n:Int} (hb:0<b1) (h:ail b1 b2 n=true):-1099511627776<=aiq b1 b2 n/\aiq b1 b2 n<=ain b1 b2 n/\ain b1 b2 n<=1099511627776:=by
 unfold ail jP at h;simp only [Bool.and_eq_true,decide_eq_true_eq] at h;refine ⟨h.1.1,?_,h.2.2⟩;have hle:qFl 1073741824 n b1<=qCe 1073741824 n b1:=(MO 1073741824 n b1 ((1073741824:Int).natAbs*n.natAbs:Nat) (by omega) (Int.le_refl _)).2.2.2.2.1
 unfold aiq ain;omega
def dlV (b1 b2 alo ahi:Int):Value:=if b1<=0 then .tuple #[.agg #[.int .i64 0,.int .i64 0],.int .i64 21] else if (ail b1 b2 alo&&ail b1 b2 ahi) then .tuple #[.agg #[.int .i64 (min (aiq b1 b2 alo) (aiq b1 b2 ahi)),.int .i64 (max (ain b1 b2 alo) (ain b1 b2 ahi))],.int .i64 0] else .tuple #[.agg #[.int .i64 0,.int .i64 0],.int .i64 5]
theorem ai5 (B C:Nat) (b1 b2 alo ahi:Int) (W:World) (hB:BK W B 87 #[.int .i64 1073741824,.int .i64 1073741824]) (hC:BK W C 87 #[.int .i64 b1,.int .i64 b2]) (h1:0<b1) (h2:b1<=b2) (h3:b2<=2147483648) (hn:jP alo=true) (hm:jP ahi=true) :
 Calls Try.prog 111 #[.agg #[.int .i64 alo,.int .i64 ahi],.func (.func 112) #[] #[.pointer (some ⟨B,0,none⟩),.pointer (some ⟨C,0,none⟩)]] W fun e w'=>e=.returned (dlV b1 b2 alo ahi)/\Below W.heap.size W w':=by
 have k1:=fun w' (hbw:Below W.heap.size W w')=>ai3 B C b1 b2 alo w' (hB.below hbw hB.lt) (hC.below hbw hC.lt) h1 h2 h3 hn
 have k2:=fun w' (hbw:Below W.heap.size W w')=>ai3 B C b1 b2 ahi w' (hB.below hbw hB.lt) (hC.below hbw hC.lt) h1 h2 h3 hm
 unfold dlV;rw [if_neg (by omega)]
 unfold qtR at k1 k2;cases ha:ail b1 b2 alo
 . rw [ha] at k1;exact ajH B C alo ahi _ _ W (Lib.hid k1)
 . rw [ha] at k1;cases hb:ail b1 b2 ahi
   . rw [hb] at k2;exact ajI B C alo ahi _ _ _ _ W (Lib.hid k1) (Lib.hid k2)
   . rw [hb] at k2;have q1:=aiK h1 ha;have q2:=aiK h1 hb;have h:=air B C alo ahi _ _ _ _ W (Lib.hid k1) (Lib.hid k2);rw [(cK _ _).2 (by omega)] at h
     exact h
theorem ajl (b1 b2 alo ahi:Int):∃ x y e:Int,dlV b1 b2 alo ahi=.tuple #[.agg #[.int .i64 x,.int .i64 y],.int .i64 e]:=by
 unfold dlV;split
 . exact ⟨_,_,_,rfl⟩
 . split<;>exact ⟨_,_,_,rfl⟩
theorem akq (lo hi:Int):ah3 lo hi<=ah4 lo hi/\ah4 lo hi<=1073741824:=by
 have:=oQ (lo+5400000) (hi+5400000);unfold ah3 ah4;omega
theorem aiT (lo hi alo ahi:Int) (w:World) (hl:aik lo hi=false) :
 Calls Try.prog 48 #[.agg #[.int .i64 lo,.int .i64 hi],.agg #[.int .i64 alo,.int .i64 ahi]] w fun e w'=>e=.returned (.tuple #[.agg #[.int .i64 0,.int .i64 0],.int .i64 1])/\Below w.heap.size w w':=by
 have C1:=fun w=>aif lo hi w
 rw [hl] at C1;replace C1:=Lib.hid C1;clear hl;have K0:=Lib.hid ((((fu w).new w.heap.size rfl 26 #[.int .i64 lo,.int .i64 hi]).new (w.heap.size+1) (by simp) 26 #[.int .i64 alo,.int .i64 ahi]).new (w.heap.size+1+1) (by simp) 26 #[.int .i64 0,.int .i64 0])
 go_enter Try.func48,Try.ntmps48;go_wp2_with fail;refine (C1.out _).mono ?_;rintro e w1 ⟨rfl,hb1⟩;have K1:=Lib.hid (K0.out.below hb1);clear hb1 K0;have q0:=K1.out.c (g:=w.heap.size+1+1) (t:=26) (cs:=#[.int .i64 0,.int .i64 0]) (by simp) (i:=0) rfl
 have q1:=K1.out.c (g:=w.heap.size+1+1) (t:=26) (cs:=#[.int .i64 0,.int .i64 0]) (by simp) (i:=1) rfl
 have g0:=K1.out.f (g:=w.heap.size+1+1) (t:=26) (cs:=#[.int .i64 0,.int .i64 0]) (by simp) 0
 have g1:=K1.out.f (g:=w.heap.size+1+1) (t:=26) (cs:=#[.int .i64 0,.int .i64 0]) (by simp) 1
 go_wp2;refine bodyPost_ret (by simp [results,Try.results48,go_sem,q0,q1];try rfl) rfl ⟨rfl,by have:=K1.out.1;go_light;go_grown⟩
theorem aiU (lo hi alo ahi:Int) (w:World) (hl:aik lo hi=true) (ha:cu alo ahi=false) :
 Calls Try.prog 48 #[.agg #[.int .i64 lo,.int .i64 hi],.agg #[.int .i64 alo,.int .i64 ahi]] w fun e w'=>e=.returned (.tuple #[.agg #[.int .i64 0,.int .i64 0],.int .i64 1])/\Below w.heap.size w w':=by
 have C1:=fun w=>aif lo hi w
 rw [hl] at C1;replace C1:=Lib.hid C1;have C2:=fun w=>aid alo ahi w
 rw [ha] at C2;replace C2:=Lib.hid C2;clear hl ha;have K0:=Lib.hid ((((fu w).new w.heap.size rfl 26 #[.int .i64 lo,.int .i64 hi]).new (w.heap.size+1) (by simp) 26 #[.int .i64 alo,.int .i64 ahi]).new (w.heap.size+1+1) (by simp) 26 #[.int .i64 0,.int .i64 0])
 go_enter Try.func48,Try.ntmps48;go_wp2_with fail;refine (C1.out _).mono ?_;rintro e w1 ⟨rfl,hb1⟩;have K1:=Lib.hid (K0.out.below hb1);clear hb1 K0;have c0:=K1.out.c (g:=w.heap.size+1) (t:=26) (cs:=#[.int .i64 alo,.int .i64 ahi]) (by simp) (i:=0) rfl
 have c1:=K1.out.c (g:=w.heap.size+1) (t:=26) (cs:=#[.int .i64 alo,.int .i64 ahi]) (by simp) (i:=1) rfl
 go_wp2_with fail;refine (C2.out _).mono ?_;rintro e w2 ⟨rfl,hb1⟩;have K2:=Lib.hid (K1.out.below hb1);clear hb1 K1 c0 c1;have q0:=K2.out.c (g:=w.heap.size+1+1) (t:=26) (cs:=#[.int .i64 0,.int .i64 0]) (by simp) (i:=0) rfl
 have q1:=K2.out.c (g:=w.heap.size+1+1) (t:=26) (cs:=#[.int .i64 0,.int .i64 0]) (by simp) (i:=1) rfl
 have g0:=K2.out.f (g:=w.heap.size+1+1) (t:=26) (cs:=#[.int .i64 0,.int .i64 0]) (by simp) 0
 have g1:=K2.out.f (g:=w.heap.size+1+1) (t:=26) (cs:=#[.int .i64 0,.int .i64 0]) (by simp) 1
 go_wp2;refine bodyPost_ret (by simp [results,Try.results48,go_sem,q0,q1];try rfl) rfl ⟨rfl,by have:=K2.out.1;go_light;go_grown⟩
theorem aiv (lo hi alo ahi:Int) (w:World) (hl:aik lo hi=false) :
 Calls Try.prog 47 #[.agg #[.int .i64 lo,.int .i64 hi],.agg #[.int .i64 alo,.int .i64 ahi]] w fun e w'=>e=.returned (.tuple #[.agg #[.int .i64 0,.int .i64 0],.int .i64 1])/\Below w.heap.size w w':=by
 have C1:=fun w=>aif lo hi w
 rw [hl] at C1;replace C1:=Lib.hid C1;clear hl;have K0:=Lib.hid ((((fu w).new w.heap.size rfl 26 #[.int .i64 lo,.int .i64 hi]).new (w.heap.size+1) (by simp) 26 #[.int .i64 alo,.int .i64 ahi]).new (w.heap.size+1+1) (by simp) 26 #[.int .i64 0,.int .i64 0])
 go_enter Try.func47,Try.ntmps47;go_wp2_with fail;refine (C1.out _).mono ?_;rintro e w1 ⟨rfl,hb1⟩;have K1:=Lib.hid (K0.out.below hb1);clear hb1 K0;have q0:=K1.out.c (g:=w.heap.size+1+1) (t:=26) (cs:=#[.int .i64 0,.int .i64 0]) (by simp) (i:=0) rfl
 have q1:=K1.out.c (g:=w.heap.size+1+1) (t:=26) (cs:=#[.int .i64 0,.int .i64 0]) (by simp) (i:=1) rfl
 have g0:=K1.out.f (g:=w.heap.size+1+1) (t:=26) (cs:=#[.int .i64 0,.int .i64 0]) (by simp) 0
 have g1:=K1.out.f (g:=w.heap.size+1+1) (t:=26) (cs:=#[.int .i64 0,.int .i64 0]) (by simp) 1
 go_wp2;refine bodyPost_ret (by simp [results,Try.results47,go_sem,q0,q1];try rfl) rfl ⟨rfl,by have:=K1.out.1;go_light;go_grown⟩
theorem ait (lo hi alo ahi:Int) (w:World) (hl:aik lo hi=true) (ha:cu alo ahi=false) :
 Calls Try.prog 47 #[.agg #[.int .i64 lo,.int .i64 hi],.agg #[.int .i64 alo,.int .i64 ahi]] w fun e w'=>e=.returned (.tuple #[.agg #[.int .i64 0,.int .i64 0],.int .i64 1])/\Below w.heap.size w w':=by
 have C1:=fun w=>aif lo hi w
 rw [hl] at C1;replace C1:=Lib.hid C1;have C2:=fun w=>aid alo ahi w
 rw [ha] at C2;replace C2:=Lib.hid C2;clear hl ha;have K0:=Lib.hid ((((fu w).new w.heap.size rfl 26 #[.int .i64 lo,.int .i64 hi]).new (w.heap.size+1) (by simp) 26 #[.int .i64 alo,.int .i64 ahi]).new (w.heap.size+1+1) (by simp) 26 #[.int .i64 0,.int .i64 0])
 go_enter Try.func47,Try.ntmps47;go_wp2_with fail;refine (C1.out _).mono ?_;rintro e w1 ⟨rfl,hb1⟩;have K1:=Lib.hid (K0.out.below hb1);clear hb1 K0;have c0:=K1.out.c (g:=w.heap.size+1) (t:=26) (cs:=#[.int .i64 alo,.int .i64 ahi]) (by simp) (i:=0) rfl
 have c1:=K1.out.c (g:=w.heap.size+1) (t:=26) (cs:=#[.int .i64 alo,.int .i64 ahi]) (by simp) (i:=1) rfl
 go_wp2_with fail;refine (C2.out _).mono ?_;rintro e w2 ⟨rfl,hb1⟩;have K2:=Lib.hid (K1.out.below hb1);clear hb1 K1 c0 c1;have q0:=K2.out.c (g:=w.heap.size+1+1) (t:=26) (cs:=#[.int .i64 0,.int .i64 0]) (by simp) (i:=0) rfl
 have q1:=K2.out.c (g:=w.heap.size+1+1) (t:=26) (cs:=#[.int .i64 0,.int .i64 0]) (by simp) (i:=1) rfl
 have g0:=K2.out.f (g:=w.heap.size+1+1) (t:=26) (cs:=#[.int .i64 0,.int .i64 0]) (by simp) 0
 have g1:=K2.out.f (g:=w.heap.size+1+1) (t:=26) (cs:=#[.int .i64 0,.int .i64 0]) (by simp) 1
 go_wp2;refine bodyPost_ret (by simp [results,Try.results47,go_sem,q0,q1];try rfl) rfl ⟨rfl,by have:=K2.out.1;go_light;go_grown⟩
theorem akg (lo hi alo ahi:Int) (w:World) (hl:aik lo hi=true) (ha:cu alo ahi=true) :
 Calls Try.prog 48 #[.agg #[.int .i64 lo,.int .i64 hi],.agg #[.int .i64 alo,.int .i64 ahi]] w fun e w'=>e=.returned (dlV (ah3 lo hi) (ah4 lo hi) alo ahi)/\Below w.heap.size w w':=by
 have hmf:∀ (fn:Fn) (first cap:Array Value) (w:World),(Instr.makeFunc fn first cap).run Try.prog w=.ok (.func fn first cap) w:=fun _ _ _ _=>rfl
 have cb:=akq lo hi;have C1:=fun w=>aif lo hi w
 rw [hl] at C1;have C2:=fun w=>aid alo ahi w
 rw [ha] at C2;have C3:=fun w=>acg lo hi w (aip hl)
 change ∀ w:World,Calls Try.prog 102 #[.agg #[.int .i64 lo,.int .i64 hi]] w fun e w'=>e=.returned (.tuple #[.agg #[.int .i64 (ah3 lo hi),.int .i64 (ah4 lo hi)],.int .i64 0])/\Below w.heap.size w w' at C3
 replace C1:=Lib.hid C1;replace C2:=Lib.hid C2;replace C3:=Lib.hid C3;have hn:=(aia ha).1;have hm:=(aia ha).2;clear hl ha;generalize ah3 lo hi=b1 at *
 generalize ah4 lo hi=b2 at *
 by_cases hz:b1<=0
 . have ev:dlV b1 b2 alo ahi=.tuple #[.agg #[.int .i64 0,.int .i64 0],.int .i64 21]:=by unfold dlV;rw [if_pos hz]
   rw [ev];clear ev cb hn hm;have K0:=Lib.hid ((((fu w).new w.heap.size rfl 26 #[.int .i64 lo,.int .i64 hi]).new (w.heap.size+1) (by simp) 26 #[.int .i64 alo,.int .i64 ahi]).new (w.heap.size+1+1) (by simp) 26 #[.int .i64 0,.int .i64 0])
   go_enter Try.func48,Try.ntmps48;go_wp2_with fail;refine (C1.out _).mono ?_;rintro e w1 ⟨rfl,hb1⟩;have K1:=Lib.hid (K0.out.below hb1);clear hb1 K0;have c0:=K1.out.c (g:=w.heap.size+1) (t:=26) (cs:=#[.int .i64 alo,.int .i64 ahi]) (by simp) (i:=0) rfl
   have c1:=K1.out.c (g:=w.heap.size+1) (t:=26) (cs:=#[.int .i64 alo,.int .i64 ahi]) (by simp) (i:=1) rfl
   go_wp2_with fail;refine (C2.out _).mono ?_;rintro e w2 ⟨rfl,hb1⟩;have K2:=Lib.hid (K1.out.below hb1);clear hb1 K1 c0 c1;have c0:=K2.out.c (g:=w.heap.size) (t:=26) (cs:=#[.int .i64 lo,.int .i64 hi]) (by simp) (i:=0) rfl
   have c1:=K2.out.c (g:=w.heap.size) (t:=26) (cs:=#[.int .i64 lo,.int .i64 hi]) (by simp) (i:=1) rfl
   go_wp2_with fail;refine (C3.out _).mono ?_;rintro e w3 ⟨rfl,hb1⟩;have K3:=Lib.hid ((K2.out.below hb1).new w3.heap.size rfl 87 #[.int .i64 b1,.int .i64 b2]);clear hb1 K2 c0 c1;have q0:=K3.out.c (g:=w.heap.size+1+1) (t:=26) (cs:=#[.int .i64 0,.int .i64 0]) (by simp) (i:=0) rfl
   have q1:=K3.out.c (g:=w.heap.size+1+1) (t:=26) (cs:=#[.int .i64 0,.int .i64 0]) (by simp) (i:=1) rfl
   have g0:=K3.out.f (g:=w.heap.size+1+1) (t:=26) (cs:=#[.int .i64 0,.int .i64 0]) (by simp) 0
   have g1:=K3.out.f (g:=w.heap.size+1+1) (t:=26) (cs:=#[.int .i64 0,.int .i64 0]) (by simp) 1
   go_wp2;refine bodyPost_ret (by simp [results,Try.results48,go_sem,q0,q1];try rfl) rfl ⟨rfl,by have:=K3.out.1;go_light;go_grown⟩
 . have CB:=Lib.hid (fun (B C:Nat) (W:World) (hB:BK W B 87 #[.int .i64 1073741824,.int .i64 1073741824]) (hC:BK W C 87 #[.int .i64 b1,.int .i64 b2])=>ai5 B C b1 b2 alo ahi W hB hC (by omega) cb.1 (by omega) hn hm)
   obtain ⟨x,y,ee,he⟩:=ajl b1 b2 alo ahi;have CB2:=fun B C W hB hC=>CB.out B C W hB hC
   rw [he] at CB2 ⊢
   replace CB2:=Lib.hid CB2;clear CB he cb hn hm;have K0:=Lib.hid ((((fu w).new w.heap.size rfl 26 #[.int .i64 lo,.int .i64 hi]).new (w.heap.size+1) (by simp) 26 #[.int .i64 alo,.int .i64 ahi]).new (w.heap.size+1+1) (by simp) 26 #[.int .i64 0,.int .i64 0])
   go_enter Try.func48,Try.ntmps48;go_wp2_with fail;refine (C1.out _).mono ?_;rintro e w1 ⟨rfl,hb1⟩;have K1:=Lib.hid (K0.out.below hb1);clear hb1 K0;have c0:=K1.out.c (g:=w.heap.size+1) (t:=26) (cs:=#[.int .i64 alo,.int .i64 ahi]) (by simp) (i:=0) rfl
   have c1:=K1.out.c (g:=w.heap.size+1) (t:=26) (cs:=#[.int .i64 alo,.int .i64 ahi]) (by simp) (i:=1) rfl
   go_wp2_with fail;refine (C2.out _).mono ?_;rintro e w2 ⟨rfl,hb1⟩;have K2:=Lib.hid (K1.out.below hb1);clear hb1 K1 c0 c1;have c0:=K2.out.c (g:=w.heap.size) (t:=26) (cs:=#[.int .i64 lo,.int .i64 hi]) (by simp) (i:=0) rfl
   have c1:=K2.out.c (g:=w.heap.size) (t:=26) (cs:=#[.int .i64 lo,.int .i64 hi]) (by simp) (i:=1) rfl
   go_wp2_with fail;refine (C3.out _).mono ?_;rintro e w3 ⟨rfl,hb1⟩;have K3:=Lib.hid ((K2.out.below hb1).new w3.heap.size rfl 87 #[.int .i64 b1,.int .i64 b2]);clear hb1 K2 c0 c1;have K4:=Lib.hid (K3.out.new (w3.heap.size+1) (by simp) 87 #[.int .i64 1073741824,.int .i64 1073741824])
   have c0:=K4.out.c (g:=w.heap.size+1) (t:=26) (cs:=#[.int .i64 alo,.int .i64 ahi]) (by simp) (i:=0) rfl
   have c1:=K4.out.c (g:=w.heap.size+1) (t:=26) (cs:=#[.int .i64 alo,.int .i64 ahi]) (by simp) (i:=1) rfl
   go_wp2_with fail;refine (CB2.out _ _ _ (K4.out.2 (w3.heap.size+1,87,#[.int .i64 1073741824,.int .i64 1073741824]) (by simp)) (K4.out.2 (w3.heap.size,87,#[.int .i64 b1,.int .i64 b2]) (by simp))).mono ?_
   rintro e w4 ⟨rfl,hb1⟩;have K5:=Lib.hid (K4.out.below hb1);clear hb1 K4 K3 c0 c1;have q0:=K5.out.c (g:=w.heap.size+1+1) (t:=26) (cs:=#[.int .i64 0,.int .i64 0]) (by simp) (i:=0) rfl
   have q1:=K5.out.c (g:=w.heap.size+1+1) (t:=26) (cs:=#[.int .i64 0,.int .i64 0]) (by simp) (i:=1) rfl
   have g0:=K5.out.f (g:=w.heap.size+1+1) (t:=26) (cs:=#[.int .i64 0,.int .i64 0]) (by simp) 0
   have g1:=K5.out.f (g:=w.heap.size+1+1) (t:=26) (cs:=#[.int .i64 0,.int .i64 0]) (by simp) 1
   go_wp2;refine bodyPost_ret (by simp [results,Try.results48,go_sem,q0,q1];try rfl) rfl ⟨rfl,by have:=K5.out.1;go_light;go_grown⟩
