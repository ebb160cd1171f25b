/- The contracts of Dlon. -/
import Derived.Test.YtgmncdmcdgkodaaGreatZQuot
set_option linter.unusedVariables false
set_option linter.unusedSimpArgs false
set_option maxRecDepth 100000
set_option maxHeartbeats 1000000
namespace Go.Proofs.YtgmncdmcdgkodaaGreat
open Go.RowKit Alm
theorem Df (B C:Nat) (lo hi x y:Int) (w:World)
 (K1:Hid (∀ w',Below w.heap.size w w'->Calls Tryz.prog 56 #[.int .i64 lo,.pointer (some ⟨B,0,none⟩),.pointer (some ⟨C,0,none⟩)] w' fun e w''=>e=.returned (.tuple #[.int .i64 x,.int .i64 y,.int .i64 5])/\Below w'.heap.size w' w''))
 : Calls Tryz.prog 55 #[.agg #[.int .i64 lo,.int .i64 hi],.func (.func 56) #[] #[.pointer (some ⟨B,0,none⟩),.pointer (some ⟨C,0,none⟩)]] w fun e w'=>e=.returned (.tuple #[.agg #[.int .i64 0,.int .i64 0],.int .i64 5])/\Below w.heap.size w w':=by
 have i0:∀ w,(Instr.index 98 (.agg #[.int .i64 lo,.int .i64 hi]) (.int .i64 0)).run Tryz.prog w=.ok (.int .i64 lo) w:=fun _=>by kernel_rfl
 have i1:∀ w,(Instr.index 98 (.agg #[.int .i64 lo,.int .i64 hi]) (.int .i64 1)).run Tryz.prog w=.ok (.int .i64 hi) w:=fun _=>by kernel_rfl
 have K0:=Lib.hid ((((au w).new w.heap.size rfl 23 #[.int .i64 lo,.int .i64 hi]).new (w.heap.size+1) (by simp) 23 #[.int .i64 0,.int .i64 0]).new (w.heap.size+1+1) (by simp) 23 #[.int .i64 0,.int .i64 0])
 go_enter Tryz.func55,Tryz.ntmps55;go_wp2;refine wp_loop_rounds 3 ?_;rw [rounds_succ];go_wp2_with fail;refine (K1.out _ K0.out.1).mono ?_;rintro e w1 ⟨rfl,hb1⟩;have KA:=Lib.hid (K0.out.below hb1);clear hb1 K0;have q0:=KA.out.c (g:=w.heap.size+1) (t:=23) (cs:=#[.int .i64 0,.int .i64 0]) (by simp) (i:=0) rfl
 have q1:=KA.out.c (g:=w.heap.size+1) (t:=23) (cs:=#[.int .i64 0,.int .i64 0]) (by simp) (i:=1) rfl
 have g0:=KA.out.f (g:=w.heap.size+1) (t:=23) (cs:=#[.int .i64 0,.int .i64 0]) (by simp) 0
 have g1:=KA.out.f (g:=w.heap.size+1) (t:=23) (cs:=#[.int .i64 0,.int .i64 0]) (by simp) 1
 go_wp2;refine bodyPost_ret (by simp [results,Tryz.results55,go_sem,q0,q1];try rfl) rfl ⟨rfl,by have:=KA.out.1;go_light;go_grown⟩
theorem DC (B C:Nat) (lo hi a b x y:Int) (w:World)
 (K1:Hid (∀ w',Below w.heap.size w w'->Calls Tryz.prog 56 #[.int .i64 lo,.pointer (some ⟨B,0,none⟩),.pointer (some ⟨C,0,none⟩)] w' fun e w''=>e=.returned (.tuple #[.int .i64 a,.int .i64 b,.int .i64 0])/\Below w'.heap.size w' w''))
 (K2:Hid (∀ w',Below w.heap.size w w'->Calls Tryz.prog 56 #[.int .i64 hi,.pointer (some ⟨B,0,none⟩),.pointer (some ⟨C,0,none⟩)] w' fun e w''=>e=.returned (.tuple #[.int .i64 x,.int .i64 y,.int .i64 5])/\Below w'.heap.size w' w''))
 : Calls Tryz.prog 55 #[.agg #[.int .i64 lo,.int .i64 hi],.func (.func 56) #[] #[.pointer (some ⟨B,0,none⟩),.pointer (some ⟨C,0,none⟩)]] w fun e w'=>e=.returned (.tuple #[.agg #[.int .i64 0,.int .i64 0],.int .i64 5])/\Below w.heap.size w w':=by
 have i0:∀ w,(Instr.index 98 (.agg #[.int .i64 lo,.int .i64 hi]) (.int .i64 0)).run Tryz.prog w=.ok (.int .i64 lo) w:=fun _=>by kernel_rfl
 have i1:∀ w,(Instr.index 98 (.agg #[.int .i64 lo,.int .i64 hi]) (.int .i64 1)).run Tryz.prog w=.ok (.int .i64 hi) w:=fun _=>by kernel_rfl
 have K0:=Lib.hid ((((au w).new w.heap.size rfl 23 #[.int .i64 lo,.int .i64 hi]).new (w.heap.size+1) (by simp) 23 #[.int .i64 0,.int .i64 0]).new (w.heap.size+1+1) (by simp) 23 #[.int .i64 0,.int .i64 0])
 go_enter Tryz.func55,Tryz.ntmps55;go_wp2;refine wp_loop_rounds 3 ?_;rw [rounds_succ];go_wp2_with fail;refine (K1.out _ K0.out.1).mono ?_;rintro e w1 ⟨rfl,hb1⟩;have KA:=Lib.hid (K0.out.below hb1);clear hb1 K0;have KB:=Lib.hid ((((KA.out.set (by go_light;omega) (by go_light;simp<;>omega) 0 (.int .i64 a)).set (by go_light;omega) (by go_light;simp<;>omega) 1 (.int .i64 b)).set (by go_light;omega) (by go_light;simp<;>omega) 0 (.int .i64 a)).set (by go_light;omega) (by go_light;simp<;>omega) 1 (.int .i64 b))
 have p0:=KA.out.c (g:=w.heap.size+1+1) (t:=23) (cs:=#[.int .i64 0,.int .i64 0]) (by simp) (i:=0) rfl
 have p1:=KA.out.c (g:=w.heap.size+1+1) (t:=23) (cs:=#[.int .i64 0,.int .i64 0]) (by simp) (i:=1) rfl
 have gp0:=KA.out.f (g:=w.heap.size+1+1) (t:=23) (cs:=#[.int .i64 0,.int .i64 0]) (by simp) 0
 have gp1:=KA.out.f (g:=w.heap.size+1+1) (t:=23) (cs:=#[.int .i64 0,.int .i64 0]) (by simp) 1
 go_wp2_with fail;rw [rounds_succ];go_wp2_with fail;clear p0 p1 gp0 gp1 KA;refine (K2.out _ KB.out.1).mono ?_;rintro e w2 ⟨rfl,hb1⟩;have KC:=Lib.hid (KB.out.below hb1);clear hb1 KB;have q0:=KC.out.c (g:=w.heap.size+1) (t:=23) (cs:=#[.int .i64 0,.int .i64 0]) (by simp) (i:=0) rfl
 have q1:=KC.out.c (g:=w.heap.size+1) (t:=23) (cs:=#[.int .i64 0,.int .i64 0]) (by simp) (i:=1) rfl
 have g0:=KC.out.f (g:=w.heap.size+1) (t:=23) (cs:=#[.int .i64 0,.int .i64 0]) (by simp) 0
 have g1:=KC.out.f (g:=w.heap.size+1) (t:=23) (cs:=#[.int .i64 0,.int .i64 0]) (by simp) 1
 go_wp2;refine bodyPost_ret (by simp [results,Tryz.results55,go_sem,q0,q1];try rfl) rfl ⟨rfl,by have:=KC.out.1;go_light;go_grown⟩
theorem xN (B C:Nat) (b1 b2 n:Int) (w:World) (hB:BK w B 83 #[.int .i64 1073741824,.int .i64 1073741824]) (hC:BK w C 83 #[.int .i64 b1,.int .i64 b2]) (h1:0<b1) (h2:b1<=b2) (h3:b2<=2147483648) (hn:ay n=true) :
 Calls Tryz.prog 56 #[.int .i64 n,.pointer (some ⟨B,0,none⟩),.pointer (some ⟨C,0,none⟩)] w fun e w'=>e=.returned (qtR b1 b2 n)/\Below w.heap.size w w':=by
 have p0:=hB.cell 0;have p1:=hB.cell 1;have q0:=hC.cell 0;have q1:=hC.cell 1;simp at p0 p1 q0 q1;have C1:=fun w=>GY b1 b2 n w h1 h2 h3 hn
 unfold qtR at C1 ⊢
 clear hB hC h1 h2 h3 hn;generalize nZ b1 b2 n=x at *
 generalize mH b1 b2 n=y at *
 generalize mr b1 b2 n=V at *
 cases V
 all_goals
  simp only [if_true,if_false,Bool.false_eq_true] at C1 ⊢
  replace C1:=Lib.hid C1;go_enter Tryz.func56,Tryz.ntmps56;go_wp2_with fail;refine (C1.out _).mono ?_;rintro e w1 ⟨rfl,hb1⟩;have H1:=Lib.hid hb1;clear hb1;go_wp2;go_ret3;exact ⟨rfl,H1.out⟩
theorem uM {b1 b2 n:Int} (hb:0<b1) (h:mr b1 b2 n=true):-1099511627776<=nZ b1 b2 n/\nZ b1 b2 n<=mH b1 b2 n/\mH b1 b2 n<=1099511627776:=by
 unfold mr ay at h;simp only [Bool.and_eq_true,decide_eq_true_eq] at h;refine ⟨h.1.1,?_,h.2.2⟩;have hle:qFl 1073741824 n b1<=qCe 1073741824 n b1:=(wM 1073741824 n b1 ((1073741824:Int).natAbs*n.natAbs:Nat) (by omega) (Int.le_refl _)).2.2.2.2.1
 unfold nZ mH;omega
def dlV (b1 b2 alo ahi:Int):Value:=if b1<=0 then .tuple #[.agg #[.int .i64 0,.int .i64 0],.int .i64 21] else if (mr b1 b2 alo&&mr b1 b2 ahi) then .tuple #[.agg #[.int .i64 (min (nZ b1 b2 alo) (nZ b1 b2 ahi)),.int .i64 (max (mH b1 b2 alo) (mH b1 b2 ahi))],.int .i64 0] else .tuple #[.agg #[.int .i64 0,.int .i64 0],.int .i64 5]
theorem zA (B C:Nat) (b1 b2 alo ahi:Int) (W:World) (hB:BK W B 83 #[.int .i64 1073741824,.int .i64 1073741824]) (hC:BK W C 83 #[.int .i64 b1,.int .i64 b2]) (h1:0<b1) (h2:b1<=b2) (h3:b2<=2147483648) (hn:ay alo=true) (hm:ay ahi=true) :
 Calls Tryz.prog 55 #[.agg #[.int .i64 alo,.int .i64 ahi],.func (.func 56) #[] #[.pointer (some ⟨B,0,none⟩),.pointer (some ⟨C,0,none⟩)]] W fun e w'=>e=.returned (dlV b1 b2 alo ahi)/\Below W.heap.size W w':=by
 have k1:=fun w' (hbw:Below W.heap.size W w')=>xN B C b1 b2 alo w' (hB.below hbw hB.lt) (hC.below hbw hC.lt) h1 h2 h3 hn
 have k2:=fun w' (hbw:Below W.heap.size W w')=>xN B C b1 b2 ahi w' (hB.below hbw hB.lt) (hC.below hbw hC.lt) h1 h2 h3 hm
 unfold dlV;rw [if_neg (by omega)]
 unfold qtR at k1 k2;cases ha:mr b1 b2 alo
 . rw [ha] at k1;exact Df B C alo ahi _ _ W (Lib.hid k1)
 . rw [ha] at k1;cases hb:mr b1 b2 ahi
   . rw [hb] at k2;exact DC B C alo ahi _ _ _ _ W (Lib.hid k1) (Lib.hid k2)
   . rw [hb] at k2;have q1:=uM h1 ha;have q2:=uM h1 hb;have h:=tT B C alo ahi _ _ _ _ W (Lib.hid k1) (Lib.hid k2);rw [(aG _ _).2 (by omega)] at h
     exact h
theorem Bg (b1 b2 alo ahi:Int):∃ x y e:Int,dlV b1 b2 alo ahi=.tuple #[.agg #[.int .i64 x,.int .i64 y],.int .i64 e]:=by
 unfold dlV;split
 . exact ⟨_,_,_,rfl⟩
 . split<;>exact ⟨_,_,_,rfl⟩
theorem F9 (lo hi:Int):bn lo hi<=aY lo hi/\aY lo hi<=1073741824:=by
 have:=yB (lo+5400000) (hi+5400000);unfold bn aY;omega
theorem Ad (lo hi alo ahi:Int) (w:World) (hl:sF lo hi=true) (ha:aC alo ahi=true) :
 Calls Tryz.prog 35 #[.agg #[.int .i64 lo,.int .i64 hi],.agg #[.int .i64 alo,.int .i64 ahi]] w fun e w'=>e=.returned (dlV (bn lo hi) (aY lo hi) alo ahi)/\Below w.heap.size w w':=by
 have hmf:∀ (fn:Fn) (first cap:Array Value) (w:World),(Instr.makeFunc fn first cap).run Tryz.prog w=.ok (.func fn first cap) w:=fun _ _ _ _=>rfl
 have cb:=F9 lo hi;have C1:=fun w=>wX lo hi w
 rw [hl] at C1;have C2:=fun w=>bX alo ahi w
 rw [ha] at C2;have C3:=fun w=>BM lo hi w (yK hl)
 change ∀ w:World,Calls Tryz.prog 54 #[.agg #[.int .i64 lo,.int .i64 hi]] w fun e w'=>e=.returned (.tuple #[.agg #[.int .i64 (bn lo hi),.int .i64 (aY lo hi)],.int .i64 0])/\Below w.heap.size w w' at C3
 replace C1:=Lib.hid C1;replace C2:=Lib.hid C2;replace C3:=Lib.hid C3;have hn:=(fu ha).1;have hm:=(fu ha).2;clear hl ha;generalize bn lo hi=b1 at *
 generalize aY lo hi=b2 at *
 by_cases hz:b1<=0
 . have ev:dlV b1 b2 alo ahi=.tuple #[.agg #[.int .i64 0,.int .i64 0],.int .i64 21]:=by unfold dlV;rw [if_pos hz]
   rw [ev];clear ev cb hn hm;have K0:=Lib.hid ((((au w).new w.heap.size rfl 23 #[.int .i64 lo,.int .i64 hi]).new (w.heap.size+1) (by simp) 23 #[.int .i64 alo,.int .i64 ahi]).new (w.heap.size+1+1) (by simp) 23 #[.int .i64 0,.int .i64 0])
   go_enter Tryz.func35,Tryz.ntmps35;go_wp2_with fail;refine (C1.out _).mono ?_;rintro e w1 ⟨rfl,hb1⟩;have K1:=Lib.hid (K0.out.below hb1);clear hb1 K0;have c0:=K1.out.c (g:=w.heap.size+1) (t:=23) (cs:=#[.int .i64 alo,.int .i64 ahi]) (by simp) (i:=0) rfl
   have c1:=K1.out.c (g:=w.heap.size+1) (t:=23) (cs:=#[.int .i64 alo,.int .i64 ahi]) (by simp) (i:=1) rfl
   go_wp2_with fail;refine (C2.out _).mono ?_;rintro e w2 ⟨rfl,hb1⟩;have K2:=Lib.hid (K1.out.below hb1);clear hb1 K1 c0 c1;have c0:=K2.out.c (g:=w.heap.size) (t:=23) (cs:=#[.int .i64 lo,.int .i64 hi]) (by simp) (i:=0) rfl
   have c1:=K2.out.c (g:=w.heap.size) (t:=23) (cs:=#[.int .i64 lo,.int .i64 hi]) (by simp) (i:=1) rfl
   go_wp2_with fail;refine (C3.out _).mono ?_;rintro e w3 ⟨rfl,hb1⟩;have K3:=Lib.hid ((K2.out.below hb1).new w3.heap.size rfl 83 #[.int .i64 b1,.int .i64 b2]);clear hb1 K2 c0 c1;have q0:=K3.out.c (g:=w.heap.size+1+1) (t:=23) (cs:=#[.int .i64 0,.int .i64 0]) (by simp) (i:=0) rfl
   have q1:=K3.out.c (g:=w.heap.size+1+1) (t:=23) (cs:=#[.int .i64 0,.int .i64 0]) (by simp) (i:=1) rfl
   have g0:=K3.out.f (g:=w.heap.size+1+1) (t:=23) (cs:=#[.int .i64 0,.int .i64 0]) (by simp) 0
   have g1:=K3.out.f (g:=w.heap.size+1+1) (t:=23) (cs:=#[.int .i64 0,.int .i64 0]) (by simp) 1
   go_wp2;refine bodyPost_ret (by simp [results,Tryz.results35,go_sem,q0,q1];try rfl) rfl ⟨rfl,by have:=K3.out.1;go_light;go_grown⟩
 . have CB:=Lib.hid (fun (B C:Nat) (W:World) (hB:BK W B 83 #[.int .i64 1073741824,.int .i64 1073741824]) (hC:BK W C 83 #[.int .i64 b1,.int .i64 b2])=>zA B C b1 b2 alo ahi W hB hC (by omega) cb.1 (by omega) hn hm)
   obtain ⟨x,y,ee,he⟩:=Bg b1 b2 alo ahi;have CB2:=fun B C W hB hC=>CB.out B C W hB hC
   rw [he] at CB2 ⊢
   replace CB2:=Lib.hid CB2;clear CB he cb hn hm;have K0:=Lib.hid ((((au w).new w.heap.size rfl 23 #[.int .i64 lo,.int .i64 hi]).new (w.heap.size+1) (by simp) 23 #[.int .i64 alo,.int .i64 ahi]).new (w.heap.size+1+1) (by simp) 23 #[.int .i64 0,.int .i64 0])
   go_enter Tryz.func35,Tryz.ntmps35;go_wp2_with fail;refine (C1.out _).mono ?_;rintro e w1 ⟨rfl,hb1⟩;have K1:=Lib.hid (K0.out.below hb1);clear hb1 K0;have c0:=K1.out.c (g:=w.heap.size+1) (t:=23) (cs:=#[.int .i64 alo,.int .i64 ahi]) (by simp) (i:=0) rfl
   have c1:=K1.out.c (g:=w.heap.size+1) (t:=23) (cs:=#[.int .i64 alo,.int .i64 ahi]) (by simp) (i:=1) rfl
   go_wp2_with fail;refine (C2.out _).mono ?_;rintro e w2 ⟨rfl,hb1⟩;have K2:=Lib.hid (K1.out.below hb1);clear hb1 K1 c0 c1;have c0:=K2.out.c (g:=w.heap.size) (t:=23) (cs:=#[.int .i64 lo,.int .i64 hi]) (by simp) (i:=0) rfl
   have c1:=K2.out.c (g:=w.heap.size) (t:=23) (cs:=#[.int .i64 lo,.int .i64 hi]) (by simp) (i:=1) rfl
   go_wp2_with fail;refine (C3.out _).mono ?_;rintro e w3 ⟨rfl,hb1⟩;have K3:=Lib.hid ((K2.out.below hb1).new w3.heap.size rfl 83 #[.int .i64 b1,.int .i64 b2]);clear hb1 K2 c0 c1;have K4:=Lib.hid (K3.out.new (w3.heap.size+1) (by simp) 83 #[.int .i64 1073741824,.int .i64 1073741824])
   have c0:=K4.out.c (g:=w.heap.size+1) (t:=23) (cs:=#[.int .i64 alo,.int .i64 ahi]) (by simp) (i:=0) rfl
   have c1:=K4.out.c (g:=w.heap.size+1) (t:=23) (cs:=#[.int .i64 alo,.int .i64 ahi]) (by simp) (i:=1) rfl
   go_wp2_with fail;refine (CB2.out _ _ _ (K4.out.2 (w3.heap.size+1,83,#[.int .i64 1073741824,.int .i64 1073741824]) (by simp)) (K4.out.2 (w3.heap.size,83,#[.int .i64 b1,.int .i64 b2]) (by simp))).mono ?_
   rintro e w4 ⟨rfl,hb1⟩;have K5:=Lib.hid (K4.out.below hb1);clear hb1 K4 K3 c0 c1;have q0:=K5.out.c (g:=w.heap.size+1+1) (t:=23) (cs:=#[.int .i64 0,.int .i64 0]) (by simp) (i:=0) rfl
   have q1:=K5.out.c (g:=w.heap.size+1+1) (t:=23) (cs:=#[.int .i64 0,.int .i64 0]) (by simp) (i:=1) rfl
   have g0:=K5.out.f (g:=w.heap.size+1+1) (t:=23) (cs:=#[.int .i64 0,.int .i64 0]) (by simp) 0
   have g1:=K5.out.f (g:=w.heap.size+1+1) (t:=23) (cs:=#[.int .i64 0,.int .i64 0]) (by simp) 1
   go_wp2;refine bodyPost_ret (by simp [results,Tryz.results35,go_sem,q0,q1];try rfl) rfl ⟨rfl,by have:=K5.out.1;go_light;go_grown⟩
