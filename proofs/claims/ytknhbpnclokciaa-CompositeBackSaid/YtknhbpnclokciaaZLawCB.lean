/- The law on the plan back of composite sailing. -/
import Derived.Test.YtknhbpnclokciaaZComV
import Derived.Test.YtknhbpnclokciaaZComB
import Derived.Test.YtknhbpnclokciaaZComG
import Derived.Test.YtknhbpnclokciaaZComX
set_option linter.unusedVariables false
set_option linter.unusedSimpArgs false
set_option maxRecDepth 100000
set_option maxHeartbeats 8000000
namespace Go.Proofs.Ytknhbpnclokciaa
open Go.RowKit Alm Sx
theorem lM {a b c d l:Int} (h:bS l [[a,b],[c,d]]=0):bS l [[-a,b],[-c,d]]=0/\bS l [[c,d],[a,b]]=0:=by
 obtain ⟨h1,h2,h3,h4⟩:=kS h;simp only [List.all_cons,List.all_nil,Bool.and_true,Bool.and_eq_true] at h1 h4
 have n1:∀ x y:Int,dJ [x,y]=true->dJ [-x,y]=true:=by
  intro x y hq;unfold dJ PtV at *
  simp only [List.getD_cons_zero,List.getD_cons_succ,decide_eq_true_eq] at *
  omega
 have n2:∀ x y:Int,di l [x,y]=true->di l [-x,y]=true:=by
  intro x y hq;unfold di at *
  simp only [List.getD_cons_zero,decide_eq_true_eq] at *
  omega
 constructor
 . refine Y8 ?_ ⟨h2,h3⟩ ?_
   . simp only [List.all_cons,List.all_nil,Bool.and_true,Bool.and_eq_true];exact ⟨n1 _ _ h1.1,n1 _ _ h1.2⟩
   . simp only [List.all_cons,List.all_nil,Bool.and_true,Bool.and_eq_true];exact ⟨n2 _ _ h4.1,n2 _ _ h4.2⟩
 . refine Y8 ?_ ⟨h2,h3⟩ ?_
   . simp only [List.all_cons,List.all_nil,Bool.and_true,Bool.and_eq_true];exact ⟨h1.2,h1.1⟩
   . simp only [List.all_cons,List.all_nil,Bool.and_true,Bool.and_eq_true];exact ⟨h4.2,h4.1⟩
theorem Gr (p q:List Int) (L:Cs):1<=(dd (p::q::L)).length:=by
 have:∀ i,1<=(ddA (p::q::L) (i+1)).length:=by
  intro i
  induction i with
  | zero=>exact Nat.le_refl _
  | succ i ih =>
   show 1<=(if i+1=0∨_ then ddA (p::q::L) (i+1)++[_] else ddA (p::q::L) (i+1)).length
   split
   . rw [List.length_append];omega
   . exact ih
 exact this (L.length+1)
theorem eO (a b c d l:Int):1<=(aF a b c d l).length:=by
 unfold aF nY nW;split
 . exact Gr _ _ _
 . split<;>exact Gr _ _ _
theorem lS (a b c d l:Int) (w:World):Calls Try.prog 3 #[.agg #[.int .i64 a,.int .i64 b],.agg #[.int .i64 c,.int .i64 d],.int .i64 l] w fun e w'=>e=.returned (.bool true)/\Below w.heap.size w w':=by
 have K0:=Lib.hid (((av w).new w.heap.size rfl 23 #[.int .i64 a,.int .i64 b]).new (w.heap.size+1) (by simp) 23 #[.int .i64 c,.int .i64 d])
 have CG:Hid (∀ (g cap:Nat) (w:World),gJ 2 w g 0 [[a,b],[c,d]]->Calls Try.prog 6 #[.slice (some ⟨g,0,none⟩) 2 cap,.int .i64 l] w fun e w'=>e=.returned (.int .i64 (bS l [[a,b],[c,d]]))/\Below w.heap.size w w'):=Lib.hid (fun g cap w hR=>lW (some ⟨g,0,none⟩) cap [[a,b],[c,d]] l w (.inr ⟨g,0,rfl,hR⟩) (by simp))
 by_cases h:bS l [[a,b],[c,d]]=0
 . obtain ⟨g1,g2⟩:=lM h;obtain ⟨h1,h2,h3,h4⟩:=kS h;have NG:=eP a b c d l (by simp only [List.all_cons,List.all_nil,Bool.and_true,Bool.and_eq_true] at h4;have:=h4.1;unfold di at this;simp only [List.getD_cons_zero,decide_eq_true_eq] at this;exact this) (by simp only [List.all_cons,List.all_nil,Bool.and_true,Bool.and_eq_true] at h4;have:=h4.2;unfold di at this;simp only [List.getD_cons_zero,decide_eq_true_eq] at this;exact this) ⟨h2,h3⟩
   have BK:=Lib.hid (bD a b c d l);simp only [List.all_cons,List.all_nil,Bool.and_true,Bool.and_eq_true] at h1 h4;unfold dJ PtV at h1;simp only [List.getD_cons_zero,List.getD_cons_succ,decide_eq_true_eq] at h1;have hb:-10800000<=b/\b<=10800000:=by omega
   have hd:-10800000<=d/\d<=10800000:=by omega
   have ha:-5400000<=a/\a<=5400000:=by omega
   have hc:-5400000<=c/\c<=5400000:=by omega
   have CP:=Lib.hid (fun w=>kg a b c d l w h)
   have CN:=Lib.hid (fun w=>kg (-a) b (-c) d l w g1)
   have CK:=Lib.hid (fun w=>kg c d a b l w g2)
   have LIM:=Lib.hid (kS (uR h)).1;have pl:=ky a b c d l;have pp:=eO a b c d l;rw [NG] at CN;rw [h] at CG;clear h g1 g2 h1 h2 h3 h4 NG;generalize aF a b c d l=P at *
   go_enter Try.func3,Try.ntmps3;go_wp2_with fail;refine (gF _).mono ?_;rintro e w1 ⟨rfl,hb1⟩;have K1:=Lib.hid (K0.out.below hb1);clear hb1 K0;have a0:=K1.out.c (g:=w.heap.size) (t:=23) (cs:=#[.int .i64 a,.int .i64 b]) (by simp) (i:=0) rfl;have a1:=K1.out.c (g:=w.heap.size) (t:=23) (cs:=#[.int .i64 a,.int .i64 b]) (by simp) (i:=1) rfl;have c0:=K1.out.c (g:=w.heap.size+1) (t:=23) (cs:=#[.int .i64 c,.int .i64 d]) (by simp) (i:=0) rfl;have c1:=K1.out.c (g:=w.heap.size+1) (t:=23) (cs:=#[.int .i64 c,.int .i64 d]) (by simp) (i:=1) rfl
   go_wp2_with fail;refine (CG.out _ _ _ (fE _ _ [[a,b],[c,d]] _ rfl (by intro x hx;simp at hx;rcases hx with rfl|rfl<;>rfl) _ rfl)).mono ?_
   rintro e w2 ⟨rfl,hb1⟩;have K2:=Lib.hid ((K1.out.alloc _).below hb1);clear hb1 K1 a0 a1 c0 c1 CG;have a0:=K2.out.c (g:=w.heap.size) (t:=23) (cs:=#[.int .i64 a,.int .i64 b]) (by simp) (i:=0) rfl;have a1:=K2.out.c (g:=w.heap.size) (t:=23) (cs:=#[.int .i64 a,.int .i64 b]) (by simp) (i:=1) rfl;have c0:=K2.out.c (g:=w.heap.size+1) (t:=23) (cs:=#[.int .i64 c,.int .i64 d]) (by simp) (i:=0) rfl;have c1:=K2.out.c (g:=w.heap.size+1) (t:=23) (cs:=#[.int .i64 c,.int .i64 d]) (by simp) (i:=1) rfl
   go_wp2_with fail;refine (CP.out _).mono ?_;rintro e w3 ⟨⟨v,rfl,O⟩,hb1⟩;have K3:=Lib.hid (K2.out.below hb1);obtain ⟨ad1,cap1,rfl,_,_,S1,_⟩:=O.out (by decide)
   have H1:=Lib.hid S1;clear hb1 K2 O S1 CP a0 a1 c0 c1;have a0:=K3.out.c (g:=w.heap.size) (t:=23) (cs:=#[.int .i64 a,.int .i64 b]) (by simp) (i:=0) rfl;have a1:=K3.out.c (g:=w.heap.size) (t:=23) (cs:=#[.int .i64 a,.int .i64 b]) (by simp) (i:=1) rfl;have c0:=K3.out.c (g:=w.heap.size+1) (t:=23) (cs:=#[.int .i64 c,.int .i64 d]) (by simp) (i:=0) rfl;have c1:=K3.out.c (g:=w.heap.size+1) (t:=23) (cs:=#[.int .i64 c,.int .i64 d]) (by simp) (i:=1) rfl
   go_wp2_with fail;refine (CN.out _).mono ?_;rintro e w4 ⟨⟨v,rfl,O⟩,hb1⟩;have K4:=Lib.hid (K3.out.below hb1);obtain ⟨ad2,cap2,rfl,_,_,S2,_⟩:=O.out (by decide)
   have H2:=Lib.hid S2;have H3:=Lib.hid (H1.out.below hb1);clear hb1 K3 O S2 CN a0 a1 c0 c1 H1;rw [List.length_map];go_wp2;go_loopw [61] (fun v wr=>∃ i:Nat,v=.int .i64 (i:Int)/\i<=P.length/\KS w wr [(w.heap.size+1,23,#[.int .i64 c,.int .i64 d]),(w.heap.size,23,#[.int .i64 a,.int .i64 b])]/\SlI 2 wr ad1 P/\SlI 2 wr ad2 (P.map ngP)) (fun v _=>((P.length:Int)-intOf v).toNat)
   case atStart=>exact ⟨0,rfl,by omega,K4.out,H3.out,H2.out⟩
   case round =>
    obtain ⟨i,rfl,hi,hK,hS1,hS2⟩:=hrel;have K:=Lib.hid hK;have H1:=Lib.hid hS1;have H2':=Lib.hid hS2;clear hK hS1 hS2 K4 H3 H2
    by_cases hl:i<P.length
    . rcases H1.out with h0|⟨q,off,rfl,hR⟩
      . rw [h0] at hl;simp at hl
      . rcases H2'.out with h0|⟨q2,off2,rfl,hR2⟩
        . have:P.length=0:=by have:=congrArg List.length h0;simpa using this
          omega
        . obtain ⟨x,y,hx,c0,c1⟩:=hR.at2 i hl;obtain ⟨z,t,hz,d0,d1⟩:=hR2.at2 i (by rw [List.length_map];exact hl)
          have hzt:[z,t]=[-x,y]:=by rw [<-hz,List.getElem_map,hx];rfl
          obtain ⟨rfl,rfl⟩:z=-x/\t=y:=by simpa using hzt
          have bx:-5400000<=x/\x<=5400000:=by
           have:=List.all_eq_true.1 LIM.out _ (List.getElem_mem hl);rw [hx] at this;unfold dJ PtV at this;simp only [List.getD_cons_zero,decide_eq_true_eq] at this;exact this.1
          have E:=fun w=>(Jz [-x,t] [-x,t] rfl rfl w).2
          have E2:∀ w,(binOp .neq 23 (.agg #[.int .i64 (-x),.int .i64 t]) (.agg #[.int .i64 (-x),.int .i64 t])).run Try.prog w=.ok (.bool false) w:=fun w=>by
           have:=E w;rw [decide_eq_true rfl] at this;exact this
          have hwx:IntKind.i64.wrap (-x)=-x:=Go.IntWalk.i64_in _ (by omega)
          have hl':(i:Int)<(P.length:Int):=by omega
          have KN:=Lib.hid (fun n=>K.out.drewN n)
          clear E hR hR2 hx hz hzt LIM;go_wp2_with fail;go_quiet (fail);go_wp2;go_light;exact ⟨⟨i+1,by rw [show ((i+1:Nat):Int)=(i:Int)+1 by omega],by omega,KN.out _,H1.out.below (below_drewN (Below.refl _ _) _),H2'.out.below (below_drewN (Below.refl _ _) _)⟩,by simp only [intOf];omega⟩
    . obtain rfl:i=P.length:=by omega
      have hl':¬ (P.length:Int)<(P.length:Int):=by omega
      have a0:=K.out.c (g:=w.heap.size) (t:=23) (cs:=#[.int .i64 a,.int .i64 b]) (by simp) (i:=0) rfl;have a1:=K.out.c (g:=w.heap.size) (t:=23) (cs:=#[.int .i64 a,.int .i64 b]) (by simp) (i:=1) rfl;have c0:=K.out.c (g:=w.heap.size+1) (t:=23) (cs:=#[.int .i64 c,.int .i64 d]) (by simp) (i:=0) rfl;have c1:=K.out.c (g:=w.heap.size+1) (t:=23) (cs:=#[.int .i64 c,.int .i64 d]) (by simp) (i:=1) rfl
      have SG:Hid (∀ w:World,Calls Try.prog 8 #[.int .i64 (d-b)] w fun e w'=>e=.returned (.int .i64 (sgd (d-b)))/\w=w'):=Lib.hid (fun w=>aa7 _ w (by unfold I64;omega))
      by_cases hq:sgd (d-b)=-10800000
      . rw [hq] at SG;go_wp2_with fail;refine (SG.out _).mono ?_;rintro e w5 ⟨rfl,rfl⟩;go_wp2;go_ret;exact ⟨rfl,K.out.1⟩
      . have BK':=BK.out hq;rw [BK'] at CK;have hq':(sgd (d-b) == -10800000)=false:=by simp [hq]
        generalize sgd (d-b)=s at *
        clear BK BK' hq;go_wp2_with fail;refine (SG.out _).mono ?_;rintro e w5 ⟨rfl,rfl⟩;go_wp2_with fail;refine (CK.out _).mono ?_;rintro e w6 ⟨⟨v,rfl,O⟩,hb1⟩;have CR:=Lib.hid (eH _ v P.reverse w6 O (by rw [List.length_reverse];exact pp) (by rw [List.length_reverse];exact pl))
        obtain ⟨ad3,cap3,rfl,_,_,_,_⟩:=O.out (by decide)
        rw [List.length_reverse] at CR;have HB1:=Lib.hid hb1;clear hb1 O CK a0 a1 c0 c1 SG;rw [List.length_reverse];go_wp2_with fail;refine CR.out.mono ?_;rintro e w7 ⟨rfl,O,hb1⟩;rw [List.reverse_reverse] at O;obtain ⟨ad4,cap4,hv,_,_,S4,_⟩:=O.out (by decide)
        injection hv with e1 e2 e3
        subst e1;subst e3;have HB2:=Lib.hid (HB1.out.trans hb1)
        have CE:Hid (Calls Try.prog 10 #[.slice ad3 P.length cap3,.slice ad1 P.length cap1] w7 fun e w'=>e=.returned (.bool true)/\Below w7.heap.size w7 w'):=Lib.hid (by
         have:=KX ad3 ad1 cap3 cap1 P P w7 S4 (H1.out.below HB2.out) (by omega) (by omega)
         rw [decide_eq_true rfl] at this;exact this)
        have HB3:Hid (Below w.heap.size w w7):=Lib.hid (K.out.1.trans (HB2.out.mono K.out.1.size));clear hb1 O S4 CR HB1 HB2 H1 K;go_wp2_with fail;refine CE.out.mono ?_;rintro e w8 ⟨rfl,hb1⟩;have HB4:Hid (Below w.heap.size w w8):=Lib.hid (HB3.out.trans (hb1.mono HB3.out.size));clear hb1 HB3 CE;go_wp2;go_ret;exact ⟨rfl,HB4.out⟩
 . generalize bS l [[a,b],[c,d]]=q at *
   go_enter Try.func3,Try.ntmps3;go_wp2_with fail;refine (gF _).mono ?_;rintro e w1 ⟨rfl,hb1⟩;have K1:=Lib.hid (K0.out.below hb1);clear hb1 K0;have a0:=K1.out.c (g:=w.heap.size) (t:=23) (cs:=#[.int .i64 a,.int .i64 b]) (by simp) (i:=0) rfl;have a1:=K1.out.c (g:=w.heap.size) (t:=23) (cs:=#[.int .i64 a,.int .i64 b]) (by simp) (i:=1) rfl;have c0:=K1.out.c (g:=w.heap.size+1) (t:=23) (cs:=#[.int .i64 c,.int .i64 d]) (by simp) (i:=0) rfl;have c1:=K1.out.c (g:=w.heap.size+1) (t:=23) (cs:=#[.int .i64 c,.int .i64 d]) (by simp) (i:=1) rfl
   go_wp2_with fail;refine (CG.out _ _ _ (fE _ _ [[a,b],[c,d]] _ rfl (by intro x hx;simp at hx;rcases hx with rfl|rfl<;>rfl) _ rfl)).mono ?_
   rintro e w2 ⟨rfl,hb1⟩;have K2:=Lib.hid ((K1.out.alloc _).below hb1);clear hb1 K1 a0 a1 c0 c1 CG;go_wp2;go_ret;exact ⟨rfl,K2.out.1⟩
