/- Reckoning: the place that is reached at once. -/
import Derived.Test.YtgmncdmcdgkodaaGreatZRk3
import Derived.Test.YtgmncdmcdgkodaaGreatZRk7
import Derived.Test.YtgmncdmcdgkodaaGreatZRk6
import Derived.Test.YtgmncdmcdgkodaaGreatZDlon
import Derived.Test.YtgmncdmcdgkodaaGreatZSumM
set_option linter.unusedVariables false
set_option linter.unusedSimpArgs false
set_option maxRecDepth 100000
set_option maxHeartbeats 8000000
namespace Go.Proofs.YtgmncdmcdgkodaaGreat
open Go.RowKit Alm Sx
def dlL (b1 b2 alo ahi:Int):List Int:=if b1<=0 then [0,0,21] else if (mr b1 b2 alo&&mr b1 b2 ahi) then [min (nZ b1 b2 alo) (nZ b1 b2 ahi),max (mH b1 b2 alo) (mH b1 b2 ahi),0] else [0,0,5]
theorem Hq (b1 b2 alo ahi:Int):dlV b1 b2 alo ahi=.tuple #[.agg #[.int .i64 ((dlL b1 b2 alo ahi).getD 0 0),.int .i64 ((dlL b1 b2 alo ahi).getD 1 0)],.int .i64 ((dlL b1 b2 alo ahi).getD 2 0)]:=by
 unfold dlV dlL;split
 . rfl
 . split<;>rfl
def wyL (a:Int) (L:List ag):Nat->Int
 | 0=>a
 | i+1=>min (wyL a L i) (a+sumOf ag.xl (L.take (i+1)))
def wyH (b:Int) (L:List ag):Nat->Int
 | 0=>b
 | i+1=>max (wyH b L i) (b+sumOf ag.xh (L.take (i+1)))
def eaL (l:ag):Int:=max 0 l.yl
def eaH (l:ag):Int:=max 0 l.yh
def weL (l:ag):Int:=min 0 l.yl
def weH (l:ag):Int:=min 0 l.yh
def rnO (x0 x1 B0 B1 Be:Int):List Int:=if Be≠0 then [0,0,0,0,Be] else if B1-B0>=21600000 then [x0,x1,-10800000,10800000,0] else [x0,x1,sgS B0,sgS B0+B1-B0,0]
def rnN (x0 x1 A0 A1 Ae F0 F1 Fe:Int):List Int:=if Ae≠0 then [0,0,0,0,Ae] else if Fe≠0 then [0,0,0,0,Fe] else rnO x0 x1 ((adV A0 A1 F0 F1).getD 0 0) ((adV A0 A1 F0 F1).getD 1 0) ((adV A0 A1 F0 F1).getD 2 0)
def rnM (x0 x1 c d D0 D1 De F0 F1 Fe:Int):List Int:=if De≠0 then [0,0,0,0,De] else rnN x0 x1 ((adV c d D0 D1).getD 0 0) ((adV c d D0 D1).getD 1 0) ((adV c d D0 D1).getD 2 0) F0 F1 Fe
def rnF (x0 x1 c d W0 W1 E0 E1 V0 V1:Int):List Int :=
 if W0 < -5340000 then [0,0,0,0,25] else if W1>5340000 then [0,0,0,0,25] else
 rnM x0 x1 c d ((dlL (bn W0 W1) (aY W0 W1) E0 E1).getD 0 0) ((dlL (bn W0 W1) (aY W0 W1) E0 E1).getD 1 0) ((dlL (bn W0 W1) (aY W0 W1) E0 E1).getD 2 0) ((dlL (bn W0 W1) (aY W0 W1) V0 V1).getD 0 0) ((dlL (bn W0 W1) (aY W0 W1) V0 V1).getD 1 0) ((dlL (bn W0 W1) (aY W0 W1) V0 V1).getD 2 0)
def rnV (l:List Int):Value:=.tuple #[.agg #[.int .i64 (l.getD 0 0),.int .i64 (l.getD 1 0),.int .i64 (l.getD 2 0),.int .i64 (l.getD 3 0)],.int .i64 (l.getD 4 0)]
theorem Im {a b c d:Int} (h:(adV a b c d).getD 2 0=0):-1099511627776<=(adV a b c d).getD 0 0/\(adV a b c d).getD 0 0<=(adV a b c d).getD 1 0/\(adV a b c d).getD 1 0<=1099511627776:=by
 unfold adV at *
 by_cases h1:aC a b=true
 . rw [if_pos h1] at *
   by_cases h2:aC c d=true
   . rw [if_pos h2] at *
     by_cases h3:ay (a+c)=true
     . rw [if_pos h3] at *
       by_cases h4:ay (b+d)=true
       . rw [if_pos h4] at *
         have y1:=(aG _ _).1 h1;have y2:=(aG _ _).1 h2;unfold ay at h3 h4;simp only [decide_eq_true_eq] at h3 h4;show _<=a+c/\a+c<=b+d/\b+d<=_;omega
       . rw [if_neg h4] at h;cases h
     . rw [if_neg h3] at h;cases h
   . rw [if_neg h2] at h;cases h
 . rw [if_neg h1] at h;cases h
theorem EY (L:List ag) (h:∀ l∈L,l.rgt=true):(0<=sumOf eaL L/\sumOf eaL L<=sumOf eaH L/\sumOf eaH L<=21600000*(L.length:Int))/\(-(21600000*(L.length:Int))<=sumOf weL L/\sumOf weL L<=sumOf weH L/\sumOf weH L<=0)/\(-(21600000*(L.length:Int))<=sumOf ag.xl L/\sumOf ag.xl L<=sumOf ag.xh L/\sumOf ag.xh L<=21600000*(L.length:Int)):=by
 induction L with
 | nil=>simp [sumOf]
 | cons l L ih =>
  have a:=ih fun x hx=>h x (.tail _ hx)
  have b:=(iM l).1 (h l (.head _));have k:=qZ l (by unfold ag.ok pz;simp only [Bool.and_eq_true,decide_eq_true_eq,aG];omega)
  rw [aR,aR,aR,aR,aR,aR,List.length_cons];unfold eaL eaH weL weH at *
  omega
theorem FB (a b:Int) (L:List ag) (h:∀ l∈L,l.rgt=true) (hn:L.length<=60) (hab:-5400000<=a/\a<=b/\b<=5400000):∀ i,i<=L.length->wyL a L i<=a/\b<=wyH b L i/\wyL a L i<=a+sumOf ag.xl (L.take i)/\b+sumOf ag.xh (L.take i)<=wyH b L i
 | 0,_=>by unfold wyL wyH;simp [sumOf]
 | i+1,hi=>by
  have:=FB a b L h hn hab i (by omega)
  unfold wyL wyH;omega
theorem EO (a b c d:Int) (sa:Option Addr) (cap:Nat) (L:List ag) (w:World) (hL:bG w sa L) (hn:L.length<=60) (hr:∀ l∈L,l.rgt=true) (hv:plB a b c d=true) :
 Calls Tryz.prog 15 #[.agg #[.int .i64 a,.int .i64 b,.int .i64 c,.int .i64 d],.slice sa L.length cap] w fun e w'=>e=.returned (rnV (rnF (a+sumOf ag.xl L) (b+sumOf ag.xh L) c d (wyL a L L.length) (wyH b L L.length) (sumOf eaL L) (sumOf eaH L) (sumOf weL L) (sumOf weH L)))/\Below w.heap.size w w':=by
 generalize hRL:rnF (a+sumOf ag.xl L) (b+sumOf ag.xh L) c d (wyL a L L.length) (wyH b L L.length) (sumOf eaL L) (sumOf eaH L) (sumOf weL L) (sumOf weH L)=RL;have HRL:=Lib.hid hRL;have HL:=Lib.hid hL;have HR:=Lib.hid hr;clear hL hr hRL;have AB:Hid (-5400000<=a/\a<=b/\b<=5400000):=Lib.hid (by unfold plB at hv;have:=of_decide_eq_true hv;omega)
 have CV:=Lib.hid (fun w=>Ch a b c d w)
 rw [hv] at CV;clear hv
 have CG:Hid (∀ wr:World,Below w.heap.size w wr->Calls Tryz.prog 27 #[.slice sa L.length cap] wr fun e w'=>e=.returned (.int .i64 0)/\Below wr.heap.size wr w'):=Lib.hid (fun wr hb=>by
  have:=gH sa cap L wr (HL.out.below hb) (by omega)
  rw [show eH L=0 from by unfold eH;rw [List.all_eq_true.2 HR.out];simp;omega] at this
  exact this)
 have K0:=Lib.hid (((au w).new w.heap.size rfl 41 #[.int .i64 a,.int .i64 b,.int .i64 c,.int .i64 d]).new (w.heap.size+1) (by simp) 41 #[.int .i64 0,.int .i64 0,.int .i64 0,.int .i64 0])
 go_enter Tryz.func15,Tryz.ntmps15;go_wp2_with fail;refine (CV.out _).mono ?_;rintro e w1 ⟨rfl,hb1⟩;have K1:=Lib.hid (K0.out.below hb1);clear hb1 K0 CV;go_wp2_with fail;refine (CG.out _ K1.out.1).mono ?_;rintro e w2 ⟨rfl,hb2⟩;have K2:=Lib.hid (K1.out.below hb2);clear hb2 K1 CG;have p0:=K2.out.c (g:=w.heap.size) (t:=41) (cs:=#[.int .i64 a,.int .i64 b,.int .i64 c,.int .i64 d]) (by simp) (i:=0) (v:=.int .i64 a) rfl
 have p1:=K2.out.c (g:=w.heap.size) (t:=41) (cs:=#[.int .i64 a,.int .i64 b,.int .i64 c,.int .i64 d]) (by simp) (i:=1) (v:=.int .i64 b) rfl
 go_wp2;have K3:=Lib.hid (K2.out.new w2.heap.size rfl 70 (rw8 (a) (b) (a) (b) (0) (0) (0) (0)));have HW2:Hid (w.heap.size+1<w2.heap.size):=Lib.hid (K2.out.lt (g:=w.heap.size+1) (t:=41) (cs:=#[.int .i64 0,.int .i64 0,.int .i64 0,.int .i64 0]) (by simp))
 clear p0 p1 K2;go_loopw [34] (fun v34 wr=>∃ i:Nat,v34=.int .i64 (i:Int)/\i<=L.length/\KS w wr [(w2.heap.size,70,rw8 (a+sumOf ag.xl (L.take i)) (b+sumOf ag.xh (L.take i)) (wyL a L i) (wyH b L i) (sumOf eaL (L.take i)) (sumOf eaH (L.take i)) (sumOf weL (L.take i)) (sumOf weH (L.take i))),(w.heap.size+1,41,#[.int .i64 0,.int .i64 0,.int .i64 0,.int .i64 0]),(w.heap.size,41,#[.int .i64 a,.int .i64 b,.int .i64 c,.int .i64 d])]) (fun v34 _=>((L.length:Int)-intOf v34).toNat)
 case atStart =>
  exact ⟨0,rfl,Nat.zero_le _,by
   have h:=K3.out;simp [sumOf,wyL,wyH];exact h⟩
 case round =>
  obtain ⟨i,rfl,hi,hK⟩:=hrel;have K:=Lib.hid hK;clear hK K3
  by_cases hl:i<L.length
  . rcases HL.out.below K.out.1 with h0|⟨bb,off,rfl,hR⟩
    . rw [h0] at hl;simp at hl
    . obtain ⟨c0,c1,c2,c3⟩:=hR.2 i hl;have hl':(i:Int)<(L.length:Int):=by omega
      have BR:=(iM L[i]).1 (HR.out _ (List.getElem_mem hl));have OKL:L[i].ok=true:=by unfold ag.ok pz;simp only [Bool.and_eq_true,decide_eq_true_eq,aG];omega
      have BD:=qZ L[i] OKL;have CP:=fun w=>xQ L[i].cl L[i].ch L[i].dl L[i].dh w OKL ((aG _ _).2 (by have:=BD;unfold ag.xl ag.xh at this;omega)) ((aG _ _).2 (by have:=BD;unfold ag.yl ag.yh at this;omega))
      change ∀ w:World,Calls Tryz.prog 50 #[.agg #[.int .i64 L[i].cl,.int .i64 L[i].ch,.int .i64 L[i].dl,.int .i64 L[i].dh]] w fun e w'=>e=.returned (.tuple #[.agg #[.int .i64 L[i].xl,.int .i64 L[i].xh],.agg #[.int .i64 L[i].yl,.int .i64 L[i].yh],.int .i64 0])/\Below w.heap.size w w' at CP
      have SY:=EY (L.take i) (fun l h=>HR.out l (List.mem_of_mem_take h))
      have BL:(L.take i).length<=60:=by rw [List.length_take];omega
      have ab:=AB.out;have CS:=Lib.hid (FD w2.heap.size (a+sumOf ag.xl (L.take i)) (b+sumOf ag.xh (L.take i)) (wyL a L i) (wyH b L i) (sumOf eaL (L.take i)) (sumOf eaH (L.take i)) (sumOf weL (L.take i)) (sumOf weH (L.take i)) L[i].cl L[i].ch L[i].dl L[i].dh L[i].xl L[i].xh L[i].yl L[i].yh w (wr.alloc (.cells #[.int .i64 L[i].cl,.int .i64 L[i].ch,.int .i64 L[i].dl,.int .i64 L[i].dh] 35)) [(w.heap.size+1,41,#[.int .i64 0,.int .i64 0,.int .i64 0,.int .i64 0]),(w.heap.size,41,#[.int .i64 a,.int .i64 b,.int .i64 c,.int .i64 d])] (K.out.alloc _) (by have:=HW2.out;omega) (by intro p hp;have:=HW2.out;simp at hp;rcases hp with rfl|rfl<;>simp only []<;>omega) CP (by unfold lu;omega) (by unfold lu;omega))
      have T1:=aX ag.xl L i hl;have T2:=aX ag.xh L i hl;have T3:=aX eaL L i hl;have T4:=aX eaH L i hl;have T5:=aX weL L i hl;have T6:=aX weH L i hl
      have NX:rw8 (a+sumOf ag.xl (L.take i)+L[i].xl) (b+sumOf ag.xh (L.take i)+L[i].xh) (min (wyL a L i) (a+sumOf ag.xl (L.take i)+L[i].xl)) (max (wyH b L i) (b+sumOf ag.xh (L.take i)+L[i].xh)) (sumOf eaL (L.take i)+max 0 L[i].yl) (sumOf eaH (L.take i)+max 0 L[i].yh) (sumOf weL (L.take i)+min 0 L[i].yl) (sumOf weH (L.take i)+min 0 L[i].yh)=rw8 (a+sumOf ag.xl (L.take (i+1))) (b+sumOf ag.xh (L.take (i+1))) (wyL a L (i+1)) (wyH b L (i+1)) (sumOf eaL (L.take (i+1))) (sumOf eaH (L.take (i+1))) (sumOf weL (L.take (i+1))) (sumOf weH (L.take (i+1))):=by
       rw [T1,T2,T3,T4,T5,T6];show _=rw8 _ _ (min (wyL a L i) (a+sumOf ag.xl (L.take (i+1)))) (max (wyH b L i) (b+sumOf ag.xh (L.take (i+1)))) _ _ _ _;rw [T1,T2,Int.add_assoc,Int.add_assoc];rfl
      rw [NX] at CS;clear NX T1 T2 T3 T4 T5 T6 SY BL ab BD OKL BR CP K hR;go_wp2_with fail;refine CS.out.mono ?_;rintro e w3 ⟨rfl,hK⟩;have K4:=Lib.hid hK;clear hK CS c0 c1 c2 c3;go_wp2;go_light;exact ⟨⟨i+1,by rw [show ((i+1:Nat):Int)=(i:Int)+1 by omega],by omega,K4.out⟩,by simp only [intOf];omega⟩
  . have hl':¬ (i:Int)<(L.length:Int):=by omega
    have ei:i=L.length:=by omega
    have WY:=FB a b L HR.out hn AB.out L.length (Nat.le_refl _);have SY:=EY L HR.out;subst ei;rw [List.take_length] at K WY;have ab:=AB.out;obtain ⟨⟨y1,y2,y3⟩,⟨y4,y5,y6⟩,⟨y7,y8,y9⟩⟩:=SY;generalize a+sumOf ag.xl L=X0 at *
    generalize b+sumOf ag.xh L=X1 at *
    generalize wyL a L L.length=W0 at *
    generalize wyH b L L.length=W1 at *
    generalize sumOf eaL L=E0 at *
    generalize sumOf eaH L=E1 at *
    generalize sumOf weL L=V0 at *
    generalize sumOf weH L=V1 at *
    have CD1:=fun hl w=>Ad W0 W1 E0 E1 w hl ((aG _ _).2 (by omega))
    have CD2:=fun hl w=>Ad W0 W1 V0 V1 w hl ((aG _ _).2 (by omega))
    rw [Hq] at CD1 CD2;have K5:=K;have q0:=K5.out.c (g:=w.heap.size+1) (t:=41) (cs:=#[.int .i64 0,.int .i64 0,.int .i64 0,.int .i64 0]) (by simp) (i:=0) (v:=.int .i64 0) rfl;have g0:=K5.out.f (g:=w.heap.size+1) (t:=41) (cs:=#[.int .i64 0,.int .i64 0,.int .i64 0,.int .i64 0]) (by simp) 0;have q1:=K5.out.c (g:=w.heap.size+1) (t:=41) (cs:=#[.int .i64 0,.int .i64 0,.int .i64 0,.int .i64 0]) (by simp) (i:=1) (v:=.int .i64 0) rfl;have g1:=K5.out.f (g:=w.heap.size+1) (t:=41) (cs:=#[.int .i64 0,.int .i64 0,.int .i64 0,.int .i64 0]) (by simp) 1;have q2:=K5.out.c (g:=w.heap.size+1) (t:=41) (cs:=#[.int .i64 0,.int .i64 0,.int .i64 0,.int .i64 0]) (by simp) (i:=2) (v:=.int .i64 0) rfl;have g2:=K5.out.f (g:=w.heap.size+1) (t:=41) (cs:=#[.int .i64 0,.int .i64 0,.int .i64 0,.int .i64 0]) (by simp) 2;have q3:=K5.out.c (g:=w.heap.size+1) (t:=41) (cs:=#[.int .i64 0,.int .i64 0,.int .i64 0,.int .i64 0]) (by simp) (i:=3) (v:=.int .i64 0) rfl;have g3:=K5.out.f (g:=w.heap.size+1) (t:=41) (cs:=#[.int .i64 0,.int .i64 0,.int .i64 0,.int .i64 0]) (by simp) 3
    by_cases h1:W0 < -5340000
    . have RN:Hid (rnF X0 X1 c d W0 W1 E0 E1 V0 V1=[0,0,0,0,25]):=Lib.hid (if_pos h1);clear CD1 CD2;have s0:=K5.out.c (g:=w2.heap.size) (t:=70) (cs:=rw8 X0 X1 W0 W1 E0 E1 V0 V1) (by simp) (i:=0) (v:=.int .i64 X0) rfl;have s1:=K5.out.c (g:=w2.heap.size) (t:=70) (cs:=rw8 X0 X1 W0 W1 E0 E1 V0 V1) (by simp) (i:=1) (v:=.int .i64 X1) rfl;have s2:=K5.out.c (g:=w2.heap.size) (t:=70) (cs:=rw8 X0 X1 W0 W1 E0 E1 V0 V1) (by simp) (i:=2) (v:=.int .i64 W0) rfl;have s3:=K5.out.c (g:=w2.heap.size) (t:=70) (cs:=rw8 X0 X1 W0 W1 E0 E1 V0 V1) (by simp) (i:=3) (v:=.int .i64 W1) rfl;have s4:=K5.out.c (g:=w2.heap.size) (t:=70) (cs:=rw8 X0 X1 W0 W1 E0 E1 V0 V1) (by simp) (i:=4) (v:=.int .i64 E0) rfl;have s5:=K5.out.c (g:=w2.heap.size) (t:=70) (cs:=rw8 X0 X1 W0 W1 E0 E1 V0 V1) (by simp) (i:=5) (v:=.int .i64 E1) rfl;have s6:=K5.out.c (g:=w2.heap.size) (t:=70) (cs:=rw8 X0 X1 W0 W1 E0 E1 V0 V1) (by simp) (i:=6) (v:=.int .i64 V0) rfl;have s7:=K5.out.c (g:=w2.heap.size) (t:=70) (cs:=rw8 X0 X1 W0 W1 E0 E1 V0 V1) (by simp) (i:=7) (v:=.int .i64 V1) rfl
      go_wp2;refine bodyPost_ret (by simp [results,Tryz.results15,go_sem,q0,q1,q2,q3];try rfl) rfl ⟨by rw [<-HRL.out,RN.out];rfl,by have:=K5.out.1;go_light;go_grown⟩
    . by_cases h2:W1>5340000
      . have RN:Hid (rnF X0 X1 c d W0 W1 E0 E1 V0 V1=[0,0,0,0,25]):=Lib.hid (by unfold rnF;rw [if_neg h1,if_pos h2])
        clear CD1 CD2;have s0:=K5.out.c (g:=w2.heap.size) (t:=70) (cs:=rw8 X0 X1 W0 W1 E0 E1 V0 V1) (by simp) (i:=0) (v:=.int .i64 X0) rfl;have s1:=K5.out.c (g:=w2.heap.size) (t:=70) (cs:=rw8 X0 X1 W0 W1 E0 E1 V0 V1) (by simp) (i:=1) (v:=.int .i64 X1) rfl;have s2:=K5.out.c (g:=w2.heap.size) (t:=70) (cs:=rw8 X0 X1 W0 W1 E0 E1 V0 V1) (by simp) (i:=2) (v:=.int .i64 W0) rfl;have s3:=K5.out.c (g:=w2.heap.size) (t:=70) (cs:=rw8 X0 X1 W0 W1 E0 E1 V0 V1) (by simp) (i:=3) (v:=.int .i64 W1) rfl;have s4:=K5.out.c (g:=w2.heap.size) (t:=70) (cs:=rw8 X0 X1 W0 W1 E0 E1 V0 V1) (by simp) (i:=4) (v:=.int .i64 E0) rfl;have s5:=K5.out.c (g:=w2.heap.size) (t:=70) (cs:=rw8 X0 X1 W0 W1 E0 E1 V0 V1) (by simp) (i:=5) (v:=.int .i64 E1) rfl;have s6:=K5.out.c (g:=w2.heap.size) (t:=70) (cs:=rw8 X0 X1 W0 W1 E0 E1 V0 V1) (by simp) (i:=6) (v:=.int .i64 V0) rfl;have s7:=K5.out.c (g:=w2.heap.size) (t:=70) (cs:=rw8 X0 X1 W0 W1 E0 E1 V0 V1) (by simp) (i:=7) (v:=.int .i64 V1) rfl
        go_wp2;refine bodyPost_ret (by simp [results,Tryz.results15,go_sem,q0,q1,q2,q3];try rfl) rfl ⟨by rw [<-HRL.out,RN.out];rfl,by have:=K5.out.1;go_light;go_grown⟩
      . have hlat:sF W0 W1=true:=by unfold sF;exact decide_eq_true (by omega)
        replace CD1:=Lib.hid (CD1 hlat);replace CD2:=Lib.hid (CD2 hlat);have s0:=K5.out.c (g:=w2.heap.size) (t:=70) (cs:=rw8 X0 X1 W0 W1 E0 E1 V0 V1) (by simp) (i:=0) (v:=.int .i64 X0) rfl;have s1:=K5.out.c (g:=w2.heap.size) (t:=70) (cs:=rw8 X0 X1 W0 W1 E0 E1 V0 V1) (by simp) (i:=1) (v:=.int .i64 X1) rfl;have s2:=K5.out.c (g:=w2.heap.size) (t:=70) (cs:=rw8 X0 X1 W0 W1 E0 E1 V0 V1) (by simp) (i:=2) (v:=.int .i64 W0) rfl;have s3:=K5.out.c (g:=w2.heap.size) (t:=70) (cs:=rw8 X0 X1 W0 W1 E0 E1 V0 V1) (by simp) (i:=3) (v:=.int .i64 W1) rfl;have s4:=K5.out.c (g:=w2.heap.size) (t:=70) (cs:=rw8 X0 X1 W0 W1 E0 E1 V0 V1) (by simp) (i:=4) (v:=.int .i64 E0) rfl;have s5:=K5.out.c (g:=w2.heap.size) (t:=70) (cs:=rw8 X0 X1 W0 W1 E0 E1 V0 V1) (by simp) (i:=5) (v:=.int .i64 E1) rfl;have s6:=K5.out.c (g:=w2.heap.size) (t:=70) (cs:=rw8 X0 X1 W0 W1 E0 E1 V0 V1) (by simp) (i:=6) (v:=.int .i64 V0) rfl;have s7:=K5.out.c (g:=w2.heap.size) (t:=70) (cs:=rw8 X0 X1 W0 W1 E0 E1 V0 V1) (by simp) (i:=7) (v:=.int .i64 V1) rfl
        have p2:=K5.out.c (g:=w.heap.size) (t:=41) (cs:=#[.int .i64 a,.int .i64 b,.int .i64 c,.int .i64 d]) (by simp) (i:=2) (v:=.int .i64 c) rfl;have p3:=K5.out.c (g:=w.heap.size) (t:=41) (cs:=#[.int .i64 a,.int .i64 b,.int .i64 c,.int .i64 d]) (by simp) (i:=3) (v:=.int .i64 d) rfl
        have KA:=Lib.hid (K5.out.new wr.heap.size rfl 23 #[.int .i64 c,.int .i64 d]);have KB:=Lib.hid (KA.out.new (wr.heap.size+1) (by simp) 23 #[.int .i64 E0,.int .i64 E1,.int .i64 V0,.int .i64 V1])
        have KC:=Lib.hid (KB.out.new (wr.heap.size+1+1) (by simp) 23 #[.int .i64 E0,.int .i64 E1])
        have HSZ:Hid (w2.heap.size<wr.heap.size/\w.heap.size+1<w2.heap.size):=Lib.hid ⟨K5.out.lt (g:=w2.heap.size) (t:=70) (cs:=rw8 X0 X1 W0 W1 E0 E1 V0 V1) (by simp),HW2.out⟩
        have s4o:=KA.out.c (g:=w2.heap.size) (t:=70) (cs:=rw8 X0 X1 W0 W1 E0 E1 V0 V1) (by simp) (i:=4) (v:=.int .i64 E0) rfl;have s5o:=KA.out.c (g:=w2.heap.size) (t:=70) (cs:=rw8 X0 X1 W0 W1 E0 E1 V0 V1) (by simp) (i:=5) (v:=.int .i64 E1) rfl;have s6o:=KA.out.c (g:=w2.heap.size) (t:=70) (cs:=rw8 X0 X1 W0 W1 E0 E1 V0 V1) (by simp) (i:=6) (v:=.int .i64 V0) rfl;have s7o:=KA.out.c (g:=w2.heap.size) (t:=70) (cs:=rw8 X0 X1 W0 W1 E0 E1 V0 V1) (by simp) (i:=7) (v:=.int .i64 V1) rfl
        have e0:=KB.out.c (g:=wr.heap.size+1) (t:=23) (cs:=#[.int .i64 E0,.int .i64 E1,.int .i64 V0,.int .i64 V1]) (by simp) (i:=0) (v:=.int .i64 E0) rfl;have e1:=KB.out.c (g:=wr.heap.size+1) (t:=23) (cs:=#[.int .i64 E0,.int .i64 E1,.int .i64 V0,.int .i64 V1]) (by simp) (i:=1) (v:=.int .i64 E1) rfl;have e2:=KB.out.c (g:=wr.heap.size+1) (t:=23) (cs:=#[.int .i64 E0,.int .i64 E1,.int .i64 V0,.int .i64 V1]) (by simp) (i:=2) (v:=.int .i64 V0) rfl;have e3:=KB.out.c (g:=wr.heap.size+1) (t:=23) (cs:=#[.int .i64 E0,.int .i64 E1,.int .i64 V0,.int .i64 V1]) (by simp) (i:=3) (v:=.int .i64 V1) rfl
        have s2w:=KC.out.c (g:=w2.heap.size) (t:=70) (cs:=rw8 X0 X1 W0 W1 E0 E1 V0 V1) (by simp) (i:=2) (v:=.int .i64 W0) rfl;have s3w:=KC.out.c (g:=w2.heap.size) (t:=70) (cs:=rw8 X0 X1 W0 W1 E0 E1 V0 V1) (by simp) (i:=3) (v:=.int .i64 W1) rfl
        clear K K5;go_wp2;refine wp_loop_rounds 3 ?_;rw [rounds_succ];have RNM:Hid (rnF X0 X1 c d W0 W1 E0 E1 V0 V1=rnM X0 X1 c d ((dlL (bn W0 W1) (aY W0 W1) E0 E1).getD 0 0) ((dlL (bn W0 W1) (aY W0 W1) E0 E1).getD 1 0) ((dlL (bn W0 W1) (aY W0 W1) E0 E1).getD 2 0) ((dlL (bn W0 W1) (aY W0 W1) V0 V1).getD 0 0) ((dlL (bn W0 W1) (aY W0 W1) V0 V1).getD 1 0) ((dlL (bn W0 W1) (aY W0 W1) V0 V1).getD 2 0)):=Lib.hid (by unfold rnF;rw [if_neg (by omega),if_neg (by omega)])
        generalize (dlL (bn W0 W1) (aY W0 W1) E0 E1).getD 0 0=D0 at *
        generalize (dlL (bn W0 W1) (aY W0 W1) E0 E1).getD 1 0=D1 at *
        generalize (dlL (bn W0 W1) (aY W0 W1) E0 E1).getD 2 0=De at *
        generalize (dlL (bn W0 W1) (aY W0 W1) V0 V1).getD 0 0=F0 at *
        generalize (dlL (bn W0 W1) (aY W0 W1) V0 V1).getD 1 0=F1 at *
        generalize (dlL (bn W0 W1) (aY W0 W1) V0 V1).getD 2 0=Fe at *
        have CA1:=Lib.hid (fun w=>Fw c d D0 D1 w)
        have RNN:Hid (∀ x,rnM X0 X1 c d D0 D1 0 F0 F1 x=rnN X0 X1 ((adV c d D0 D1).getD 0 0) ((adV c d D0 D1).getD 1 0) ((adV c d D0 D1).getD 2 0) F0 F1 x):=Lib.hid (fun x=>if_neg (by decide))
        generalize (adV c d D0 D1).getD 0 0=A0 at *
        generalize (adV c d D0 D1).getD 1 0=A1 at *
        generalize (adV c d D0 D1).getD 2 0=Ae at *
        have CA2:=Lib.hid (fun w=>Fw A0 A1 F0 F1 w)
        have RNO:Hid (rnN X0 X1 A0 A1 0 F0 F1 0=rnO X0 X1 ((adV A0 A1 F0 F1).getD 0 0) ((adV A0 A1 F0 F1).getD 1 0) ((adV A0 A1 F0 F1).getD 2 0)):=Lib.hid (by unfold rnN;rw [if_neg (by decide),if_neg (by decide)])
        have ADI:=Lib.hid (Im (a:=A0) (b:=A1) (c:=F0) (d:=F1));generalize (adV A0 A1 F0 F1).getD 0 0=B0 at *
        generalize (adV A0 A1 F0 F1).getD 1 0=B1 at *
        generalize (adV A0 A1 F0 F1).getD 2 0=Be at *
        clear KA KB s4o s5o s6o s7o y1 y2 y3 y4 y5 y6 y7 y8 y9 WY ab h1 h2 hlat hi hl HL HR AB;go_wp2_with fail;refine (CD1.out _).mono ?_;rintro e w3 ⟨rfl,hb3⟩;have K6:=Lib.hid (KC.out.below hb3);clear hb3 KC CD1 e0 e1 e2 e3 s2w s3w s0 s1 s2 s3 s4 s5 s6 s7 q0 q1 q2 q3 g0 g1 g2 g3 p2 p3;have KD:=Lib.hid (K6.out.new w3.heap.size rfl 23 #[.int .i64 D0,.int .i64 D1])
        by_cases hDe:De=0
        . have bDe0:(De==0)=true:=(by simp [hDe]);have bDe1:(De != 0)=false:=(by simp [hDe])
          have l0:=KD.out.c (g:=wr.heap.size) (t:=23) (cs:=#[.int .i64 c,.int .i64 d]) (by simp) (i:=0) (v:=.int .i64 c) rfl;have l1:=KD.out.c (g:=wr.heap.size) (t:=23) (cs:=#[.int .i64 c,.int .i64 d]) (by simp) (i:=1) (v:=.int .i64 d) rfl
          go_wp2_with fail;refine (CA1.out _).mono ?_;rintro e w4 ⟨rfl,hb4⟩;have K8:=Lib.hid (KD.out.below hb4);clear hb4 KD K6 CA1 l0 l1 bDe0 bDe1
          by_cases hAe:Ae=0
          . have bAe0:(Ae==0)=true:=(by simp [hAe]);have bAe1:(Ae != 0)=false:=(by simp [hAe])
            have f0:=K8.out.f (g:=wr.heap.size) (t:=23) (cs:=#[.int .i64 c,.int .i64 d]) (by simp) 0;have f1:=K8.out.f (g:=wr.heap.size) (t:=23) (cs:=#[.int .i64 c,.int .i64 d]) (by simp) 1;have l0:=K8.out.c (g:=wr.heap.size) (t:=23) (cs:=#[.int .i64 c,.int .i64 d]) (by simp) (i:=0) (v:=.int .i64 c) rfl;have l1:=K8.out.c (g:=wr.heap.size) (t:=23) (cs:=#[.int .i64 c,.int .i64 d]) (by simp) (i:=1) (v:=.int .i64 d) rfl
            go_wp2;rw [rounds_succ];have K9:=Lib.hid (qU (l':=[(wr.heap.size+1,23,#[.int .i64 E0,.int .i64 E1,.int .i64 V0,.int .i64 V1]),(w2.heap.size,70,rw8 X0 X1 W0 W1 E0 E1 V0 V1),(w.heap.size+1,41,#[.int .i64 0,.int .i64 0,.int .i64 0,.int .i64 0])]) K8.out (g:=wr.heap.size) (t:=23) (c0:=.int .i64 c) (c1:=.int .i64 d) (by simp) (by have:=HSZ.out;omega) (by intro p hp;have:=HSZ.out;simp at hp;rcases hp with rfl|rfl|rfl<;>simp only []<;>omega) (by intro p hp;simp at hp ⊢;rcases hp with rfl|rfl|rfl<;>simp) (.int .i64 A0) (.int .i64 A1))
            generalize hW:(w4.setCell _ _).setCell _ _=W4 at *
            clear hW K8 f0 f1 l0 l1 bAe0 bAe1;have KE:=Lib.hid (K9.out.new W4.heap.size rfl 23 #[.int .i64 V0,.int .i64 V1]);have e0:=K9.out.c (g:=wr.heap.size+1) (t:=23) (cs:=#[.int .i64 E0,.int .i64 E1,.int .i64 V0,.int .i64 V1]) (by simp) (i:=0) (v:=.int .i64 E0) rfl;have e1:=K9.out.c (g:=wr.heap.size+1) (t:=23) (cs:=#[.int .i64 E0,.int .i64 E1,.int .i64 V0,.int .i64 V1]) (by simp) (i:=1) (v:=.int .i64 E1) rfl;have e2:=K9.out.c (g:=wr.heap.size+1) (t:=23) (cs:=#[.int .i64 E0,.int .i64 E1,.int .i64 V0,.int .i64 V1]) (by simp) (i:=2) (v:=.int .i64 V0) rfl;have e3:=K9.out.c (g:=wr.heap.size+1) (t:=23) (cs:=#[.int .i64 E0,.int .i64 E1,.int .i64 V0,.int .i64 V1]) (by simp) (i:=3) (v:=.int .i64 V1) rfl
            have s2:=KE.out.c (g:=w2.heap.size) (t:=70) (cs:=rw8 X0 X1 W0 W1 E0 E1 V0 V1) (by simp) (i:=2) (v:=.int .i64 W0) rfl;have s3:=KE.out.c (g:=w2.heap.size) (t:=70) (cs:=rw8 X0 X1 W0 W1 E0 E1 V0 V1) (by simp) (i:=3) (v:=.int .i64 W1) rfl
            go_wp2_with fail;refine (CD2.out _).mono ?_;rintro e w5 ⟨rfl,hb5⟩;have K10:=Lib.hid (KE.out.below hb5);clear hb5 KE K9 CD2 e0 e1 e2 e3 s2 s3;have KF:=Lib.hid (K10.out.new w5.heap.size rfl 23 #[.int .i64 F0,.int .i64 F1])
            by_cases hFe:Fe=0
            . have bFe0:(Fe==0)=true:=(by simp [hFe]);have bFe1:(Fe != 0)=false:=(by simp [hFe])
              have l0:=KF.out.c (g:=wr.heap.size) (t:=23) (cs:=#[.int .i64 A0,.int .i64 A1]) (by simp) (i:=0) (v:=.int .i64 A0) rfl;have l1:=KF.out.c (g:=wr.heap.size) (t:=23) (cs:=#[.int .i64 A0,.int .i64 A1]) (by simp) (i:=1) (v:=.int .i64 A1) rfl
              go_wp2_with fail;refine (CA2.out _).mono ?_;rintro e w6 ⟨rfl,hb6⟩;have K12:=Lib.hid (KF.out.below hb6);clear hb6 KF K10 CA2 l0 l1 bFe0 bFe1
              by_cases hBe:Be=0
              . have bBe0:(Be==0)=true:=(by simp [hBe]);have bBe1:(Be != 0)=false:=(by simp [hBe])
                obtain ⟨i1,i2,i3⟩:=ADI.out hBe;have RNZ:Hid (RL=if B1-B0>=21600000 then [X0,X1,-10800000,10800000,0] else [X0,X1,sgS B0,sgS B0+B1-B0,0]):=Lib.hid (by rw [<-HRL.out,RNM.out,hDe,RNN.out,hAe,hFe,RNO.out];unfold rnO;rw [if_neg (by omega)])
                have f0:=K12.out.f (g:=wr.heap.size) (t:=23) (cs:=#[.int .i64 A0,.int .i64 A1]) (by simp) 0;have f1:=K12.out.f (g:=wr.heap.size) (t:=23) (cs:=#[.int .i64 A0,.int .i64 A1]) (by simp) 1;have l0:=K12.out.c (g:=wr.heap.size) (t:=23) (cs:=#[.int .i64 A0,.int .i64 A1]) (by simp) (i:=0) (v:=.int .i64 A0) rfl;have l1:=K12.out.c (g:=wr.heap.size) (t:=23) (cs:=#[.int .i64 A0,.int .i64 A1]) (by simp) (i:=1) (v:=.int .i64 A1) rfl
                go_wp2;rw [rounds_succ];have K13:=Lib.hid (qU (l':=[(w2.heap.size,70,rw8 X0 X1 W0 W1 E0 E1 V0 V1),(w.heap.size+1,41,#[.int .i64 0,.int .i64 0,.int .i64 0,.int .i64 0])]) K12.out (g:=wr.heap.size) (t:=23) (c0:=.int .i64 A0) (c1:=.int .i64 A1) (by simp) (by have:=HSZ.out;omega) (by intro p hp;have:=HSZ.out;simp at hp;rcases hp with rfl|rfl<;>simp only []<;>omega) (by intro p hp;simp at hp ⊢;rcases hp with rfl|rfl<;>simp) (.int .i64 B0) (.int .i64 B1))
                generalize hW:(w6.setCell _ _).setCell _ _=W6 at *
                clear hW K12 f0 f1 l0 l1 bBe0 bBe1;have l0:=K13.out.c (g:=wr.heap.size) (t:=23) (cs:=#[.int .i64 B0,.int .i64 B1]) (by simp) (i:=0) (v:=.int .i64 B0) rfl;have l1:=K13.out.c (g:=wr.heap.size) (t:=23) (cs:=#[.int .i64 B0,.int .i64 B1]) (by simp) (i:=1) (v:=.int .i64 B1) rfl
                have s0:=K13.out.c (g:=w2.heap.size) (t:=70) (cs:=rw8 X0 X1 W0 W1 E0 E1 V0 V1) (by simp) (i:=0) (v:=.int .i64 X0) rfl;have s1:=K13.out.c (g:=w2.heap.size) (t:=70) (cs:=rw8 X0 X1 W0 W1 E0 E1 V0 V1) (by simp) (i:=1) (v:=.int .i64 X1) rfl
                have q0:=K13.out.c (g:=w.heap.size+1) (t:=41) (cs:=#[.int .i64 0,.int .i64 0,.int .i64 0,.int .i64 0]) (by simp) (i:=0) (v:=.int .i64 0) rfl;have q1:=K13.out.c (g:=w.heap.size+1) (t:=41) (cs:=#[.int .i64 0,.int .i64 0,.int .i64 0,.int .i64 0]) (by simp) (i:=1) (v:=.int .i64 0) rfl;have q2:=K13.out.c (g:=w.heap.size+1) (t:=41) (cs:=#[.int .i64 0,.int .i64 0,.int .i64 0,.int .i64 0]) (by simp) (i:=2) (v:=.int .i64 0) rfl;have q3:=K13.out.c (g:=w.heap.size+1) (t:=41) (cs:=#[.int .i64 0,.int .i64 0,.int .i64 0,.int .i64 0]) (by simp) (i:=3) (v:=.int .i64 0) rfl;have g0:=K13.out.f (g:=w.heap.size+1) (t:=41) (cs:=#[.int .i64 0,.int .i64 0,.int .i64 0,.int .i64 0]) (by simp) 0;have g1:=K13.out.f (g:=w.heap.size+1) (t:=41) (cs:=#[.int .i64 0,.int .i64 0,.int .i64 0,.int .i64 0]) (by simp) 1;have g2:=K13.out.f (g:=w.heap.size+1) (t:=41) (cs:=#[.int .i64 0,.int .i64 0,.int .i64 0,.int .i64 0]) (by simp) 2;have g3:=K13.out.f (g:=w.heap.size+1) (t:=41) (cs:=#[.int .i64 0,.int .i64 0,.int .i64 0,.int .i64 0]) (by simp) 3
                have n1:IntKind.i64.wrap (B1-B0)=B1-B0:=Go.IntWalk.i64_in _ (by omega)
                by_cases hT:B1-B0>=21600000
                . have R:=Lib.hid (RNZ.out.trans (if_pos hT));clear i1 i2 i3;go_wp2;refine bodyPost_ret (by simp [results,Tryz.results15,go_sem,q0,q1,q2,q3];try rfl) rfl ⟨by rw [R.out];rfl,by have:=K13.out.1;go_light;go_grown⟩
                . have R:=Lib.hid (RNZ.out.trans (if_neg hT));have CS:=Lib.hid (fun w=>Ib B0 w (by omega))
                  have sb:-10800000<=sgS B0/\sgS B0<10800000:=by unfold sgS;omega
                  have n2:IntKind.i64.wrap (sgS B0+B1)=sgS B0+B1:=Go.IntWalk.i64_in _ (by omega)
                  have n3:IntKind.i64.wrap (sgS B0+B1-B0)=sgS B0+B1-B0:=Go.IntWalk.i64_in _ (by omega)
                  clear i1 i2 i3 sb;generalize sgS B0=S0 at *
                  go_wp2_with fail;refine (CS.out _).mono ?_;rintro e w7 ⟨rfl,hb7⟩;have K14:=Lib.hid (K13.out.below hb7);clear hb7 K13 CS l0 l1 s0 s1 q0 q1 q2 q3 g0 g1 g2 g3;have l0:=K14.out.c (g:=wr.heap.size) (t:=23) (cs:=#[.int .i64 B0,.int .i64 B1]) (by simp) (i:=0) (v:=.int .i64 B0) rfl;have l1:=K14.out.c (g:=wr.heap.size) (t:=23) (cs:=#[.int .i64 B0,.int .i64 B1]) (by simp) (i:=1) (v:=.int .i64 B1) rfl
                  have s0:=K14.out.c (g:=w2.heap.size) (t:=70) (cs:=rw8 X0 X1 W0 W1 E0 E1 V0 V1) (by simp) (i:=0) (v:=.int .i64 X0) rfl;have s1:=K14.out.c (g:=w2.heap.size) (t:=70) (cs:=rw8 X0 X1 W0 W1 E0 E1 V0 V1) (by simp) (i:=1) (v:=.int .i64 X1) rfl
                  have q0:=K14.out.c (g:=w.heap.size+1) (t:=41) (cs:=#[.int .i64 0,.int .i64 0,.int .i64 0,.int .i64 0]) (by simp) (i:=0) (v:=.int .i64 0) rfl;have q1:=K14.out.c (g:=w.heap.size+1) (t:=41) (cs:=#[.int .i64 0,.int .i64 0,.int .i64 0,.int .i64 0]) (by simp) (i:=1) (v:=.int .i64 0) rfl;have q2:=K14.out.c (g:=w.heap.size+1) (t:=41) (cs:=#[.int .i64 0,.int .i64 0,.int .i64 0,.int .i64 0]) (by simp) (i:=2) (v:=.int .i64 0) rfl;have q3:=K14.out.c (g:=w.heap.size+1) (t:=41) (cs:=#[.int .i64 0,.int .i64 0,.int .i64 0,.int .i64 0]) (by simp) (i:=3) (v:=.int .i64 0) rfl;have g0:=K14.out.f (g:=w.heap.size+1) (t:=41) (cs:=#[.int .i64 0,.int .i64 0,.int .i64 0,.int .i64 0]) (by simp) 0;have g1:=K14.out.f (g:=w.heap.size+1) (t:=41) (cs:=#[.int .i64 0,.int .i64 0,.int .i64 0,.int .i64 0]) (by simp) 1;have g2:=K14.out.f (g:=w.heap.size+1) (t:=41) (cs:=#[.int .i64 0,.int .i64 0,.int .i64 0,.int .i64 0]) (by simp) 2;have g3:=K14.out.f (g:=w.heap.size+1) (t:=41) (cs:=#[.int .i64 0,.int .i64 0,.int .i64 0,.int .i64 0]) (by simp) 3
                  go_wp2;refine bodyPost_ret (by simp [results,Tryz.results15,go_sem,q0,q1,q2,q3];try rfl) rfl ⟨by rw [R.out];rfl,by have:=K14.out.1;go_light;go_grown⟩
              . have bBe0:(Be==0)=false:=(by simp [hBe]);have bBe1:(Be != 0)=true:=(by simp [hBe])
                have R:Hid (RL=[0,0,0,0,Be]):=Lib.hid (by rw [<-HRL.out,RNM.out,hDe,RNN.out,hAe,hFe,RNO.out];unfold rnO;rw [if_pos hBe])
                have f0:=K12.out.f (g:=wr.heap.size) (t:=23) (cs:=#[.int .i64 A0,.int .i64 A1]) (by simp) 0;have f1:=K12.out.f (g:=wr.heap.size) (t:=23) (cs:=#[.int .i64 A0,.int .i64 A1]) (by simp) 1;have l0:=K12.out.c (g:=wr.heap.size) (t:=23) (cs:=#[.int .i64 A0,.int .i64 A1]) (by simp) (i:=0) (v:=.int .i64 A0) rfl;have l1:=K12.out.c (g:=wr.heap.size) (t:=23) (cs:=#[.int .i64 A0,.int .i64 A1]) (by simp) (i:=1) (v:=.int .i64 A1) rfl
                have q0:=K12.out.c (g:=w.heap.size+1) (t:=41) (cs:=#[.int .i64 0,.int .i64 0,.int .i64 0,.int .i64 0]) (by simp) (i:=0) (v:=.int .i64 0) rfl;have q1:=K12.out.c (g:=w.heap.size+1) (t:=41) (cs:=#[.int .i64 0,.int .i64 0,.int .i64 0,.int .i64 0]) (by simp) (i:=1) (v:=.int .i64 0) rfl;have q2:=K12.out.c (g:=w.heap.size+1) (t:=41) (cs:=#[.int .i64 0,.int .i64 0,.int .i64 0,.int .i64 0]) (by simp) (i:=2) (v:=.int .i64 0) rfl;have q3:=K12.out.c (g:=w.heap.size+1) (t:=41) (cs:=#[.int .i64 0,.int .i64 0,.int .i64 0,.int .i64 0]) (by simp) (i:=3) (v:=.int .i64 0) rfl;have g0:=K12.out.f (g:=w.heap.size+1) (t:=41) (cs:=#[.int .i64 0,.int .i64 0,.int .i64 0,.int .i64 0]) (by simp) 0;have g1:=K12.out.f (g:=w.heap.size+1) (t:=41) (cs:=#[.int .i64 0,.int .i64 0,.int .i64 0,.int .i64 0]) (by simp) 1;have g2:=K12.out.f (g:=w.heap.size+1) (t:=41) (cs:=#[.int .i64 0,.int .i64 0,.int .i64 0,.int .i64 0]) (by simp) 2;have g3:=K12.out.f (g:=w.heap.size+1) (t:=41) (cs:=#[.int .i64 0,.int .i64 0,.int .i64 0,.int .i64 0]) (by simp) 3
                have hne:wr.heap.size≠w.heap.size+1:=by have:=HSZ.out;omega
                have hle:w.heap.size<=wr.heap.size:=by have:=HSZ.out;omega
                go_wp2;refine bodyPost_ret (by simp [results,Tryz.results15,go_sem,q0,q1,q2,q3];try rfl) rfl ⟨by rw [R.out];rfl,by have:=K12.out.1;go_light;go_grown;all_goals exact hle⟩
            . have bFe0:(Fe==0)=false:=(by simp [hFe]);have bFe1:(Fe != 0)=true:=(by simp [hFe])
              have R:Hid (RL=[0,0,0,0,Fe]):=Lib.hid (by rw [<-HRL.out,RNM.out,hDe,RNN.out,hAe];unfold rnN;rw [if_neg (by decide),if_pos hFe])
              have q0:=KF.out.c (g:=w.heap.size+1) (t:=41) (cs:=#[.int .i64 0,.int .i64 0,.int .i64 0,.int .i64 0]) (by simp) (i:=0) (v:=.int .i64 0) rfl;have q1:=KF.out.c (g:=w.heap.size+1) (t:=41) (cs:=#[.int .i64 0,.int .i64 0,.int .i64 0,.int .i64 0]) (by simp) (i:=1) (v:=.int .i64 0) rfl;have q2:=KF.out.c (g:=w.heap.size+1) (t:=41) (cs:=#[.int .i64 0,.int .i64 0,.int .i64 0,.int .i64 0]) (by simp) (i:=2) (v:=.int .i64 0) rfl;have q3:=KF.out.c (g:=w.heap.size+1) (t:=41) (cs:=#[.int .i64 0,.int .i64 0,.int .i64 0,.int .i64 0]) (by simp) (i:=3) (v:=.int .i64 0) rfl;have g0:=KF.out.f (g:=w.heap.size+1) (t:=41) (cs:=#[.int .i64 0,.int .i64 0,.int .i64 0,.int .i64 0]) (by simp) 0;have g1:=KF.out.f (g:=w.heap.size+1) (t:=41) (cs:=#[.int .i64 0,.int .i64 0,.int .i64 0,.int .i64 0]) (by simp) 1;have g2:=KF.out.f (g:=w.heap.size+1) (t:=41) (cs:=#[.int .i64 0,.int .i64 0,.int .i64 0,.int .i64 0]) (by simp) 2;have g3:=KF.out.f (g:=w.heap.size+1) (t:=41) (cs:=#[.int .i64 0,.int .i64 0,.int .i64 0,.int .i64 0]) (by simp) 3
              go_wp2;refine bodyPost_ret (by simp [results,Tryz.results15,go_sem,q0,q1,q2,q3];try rfl) rfl ⟨by rw [R.out];rfl,by have:=KF.out.1;go_light;go_grown⟩
          . have bAe0:(Ae==0)=false:=(by simp [hAe]);have bAe1:(Ae != 0)=true:=(by simp [hAe])
            have R:Hid (RL=[0,0,0,0,Ae]):=Lib.hid (by rw [<-HRL.out,RNM.out,hDe,RNN.out];unfold rnN;rw [if_pos hAe])
            have f0:=K8.out.f (g:=wr.heap.size) (t:=23) (cs:=#[.int .i64 c,.int .i64 d]) (by simp) 0;have f1:=K8.out.f (g:=wr.heap.size) (t:=23) (cs:=#[.int .i64 c,.int .i64 d]) (by simp) 1;have l0:=K8.out.c (g:=wr.heap.size) (t:=23) (cs:=#[.int .i64 c,.int .i64 d]) (by simp) (i:=0) (v:=.int .i64 c) rfl;have l1:=K8.out.c (g:=wr.heap.size) (t:=23) (cs:=#[.int .i64 c,.int .i64 d]) (by simp) (i:=1) (v:=.int .i64 d) rfl
            have q0:=K8.out.c (g:=w.heap.size+1) (t:=41) (cs:=#[.int .i64 0,.int .i64 0,.int .i64 0,.int .i64 0]) (by simp) (i:=0) (v:=.int .i64 0) rfl;have q1:=K8.out.c (g:=w.heap.size+1) (t:=41) (cs:=#[.int .i64 0,.int .i64 0,.int .i64 0,.int .i64 0]) (by simp) (i:=1) (v:=.int .i64 0) rfl;have q2:=K8.out.c (g:=w.heap.size+1) (t:=41) (cs:=#[.int .i64 0,.int .i64 0,.int .i64 0,.int .i64 0]) (by simp) (i:=2) (v:=.int .i64 0) rfl;have q3:=K8.out.c (g:=w.heap.size+1) (t:=41) (cs:=#[.int .i64 0,.int .i64 0,.int .i64 0,.int .i64 0]) (by simp) (i:=3) (v:=.int .i64 0) rfl;have g0:=K8.out.f (g:=w.heap.size+1) (t:=41) (cs:=#[.int .i64 0,.int .i64 0,.int .i64 0,.int .i64 0]) (by simp) 0;have g1:=K8.out.f (g:=w.heap.size+1) (t:=41) (cs:=#[.int .i64 0,.int .i64 0,.int .i64 0,.int .i64 0]) (by simp) 1;have g2:=K8.out.f (g:=w.heap.size+1) (t:=41) (cs:=#[.int .i64 0,.int .i64 0,.int .i64 0,.int .i64 0]) (by simp) 2;have g3:=K8.out.f (g:=w.heap.size+1) (t:=41) (cs:=#[.int .i64 0,.int .i64 0,.int .i64 0,.int .i64 0]) (by simp) 3
            have hne:wr.heap.size≠w.heap.size+1:=by have:=HSZ.out;omega
            have hle:w.heap.size<=wr.heap.size:=by have:=HSZ.out;omega
            go_wp2;refine bodyPost_ret (by simp [results,Tryz.results15,go_sem,q0,q1,q2,q3];try rfl) rfl ⟨by rw [R.out];rfl,by have:=K8.out.1;go_light;go_grown;all_goals exact hle⟩
        . have bDe0:(De==0)=false:=(by simp [hDe]);have bDe1:(De != 0)=true:=(by simp [hDe])
          have R:Hid (RL=[0,0,0,0,De]):=Lib.hid (by rw [<-HRL.out,RNM.out];unfold rnM;rw [if_pos hDe])
          have q0:=KD.out.c (g:=w.heap.size+1) (t:=41) (cs:=#[.int .i64 0,.int .i64 0,.int .i64 0,.int .i64 0]) (by simp) (i:=0) (v:=.int .i64 0) rfl;have q1:=KD.out.c (g:=w.heap.size+1) (t:=41) (cs:=#[.int .i64 0,.int .i64 0,.int .i64 0,.int .i64 0]) (by simp) (i:=1) (v:=.int .i64 0) rfl;have q2:=KD.out.c (g:=w.heap.size+1) (t:=41) (cs:=#[.int .i64 0,.int .i64 0,.int .i64 0,.int .i64 0]) (by simp) (i:=2) (v:=.int .i64 0) rfl;have q3:=KD.out.c (g:=w.heap.size+1) (t:=41) (cs:=#[.int .i64 0,.int .i64 0,.int .i64 0,.int .i64 0]) (by simp) (i:=3) (v:=.int .i64 0) rfl;have g0:=KD.out.f (g:=w.heap.size+1) (t:=41) (cs:=#[.int .i64 0,.int .i64 0,.int .i64 0,.int .i64 0]) (by simp) 0;have g1:=KD.out.f (g:=w.heap.size+1) (t:=41) (cs:=#[.int .i64 0,.int .i64 0,.int .i64 0,.int .i64 0]) (by simp) 1;have g2:=KD.out.f (g:=w.heap.size+1) (t:=41) (cs:=#[.int .i64 0,.int .i64 0,.int .i64 0,.int .i64 0]) (by simp) 2;have g3:=KD.out.f (g:=w.heap.size+1) (t:=41) (cs:=#[.int .i64 0,.int .i64 0,.int .i64 0,.int .i64 0]) (by simp) 3
          go_wp2;refine bodyPost_ret (by simp [results,Tryz.results15,go_sem,q0,q1,q2,q3];try rfl) rfl ⟨by rw [R.out];rfl,by have:=KD.out.1;go_light;go_grown⟩
