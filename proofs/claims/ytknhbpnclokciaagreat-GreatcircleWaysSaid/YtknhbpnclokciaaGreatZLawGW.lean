/- The law on the places on the way along a great circle. -/
import Derived.Test.YtknhbpnclokciaaGreatZRWay
import Derived.Test.YtknhbpnclokciaaGreatZAwG
set_option linter.unusedVariables false
set_option linter.unusedSimpArgs false
set_option maxRecDepth 100000
set_option maxHeartbeats 8000000
namespace Go.Proofs.YtknhbpnclokciaaGreat
open Go.RowKit Alm Sx
def Qs (x:List Int):Bool:=decide (PtV (x.getD 0 0) (x.getD 1 0))
theorem abl (g cap:Nat) (L:aej) (w:World) (hR:Zf 2 w g 0 L) (hn:L.length<=100) :
 Calls Tryz.prog 37 #[.slice (some ⟨g,0,none⟩) L.length cap] w fun e w'=>e=.returned (.bool (L.all Qs))/\Below w.heap.size w w':=by
 have HR:=Lib.hid hR;clear hR;obtain ⟨G,hG⟩:∃ G,L.all Qs=G:=⟨_,rfl⟩;rw [hG];have HG:=Lib.hid hG;clear hG;go_enter Tryz.func37,Tryz.ntmps37;go_wp2;go_loopw [3] (fun v wr=>∃ i:Nat,v=.int .i64 (i:Int)/\i<=L.length/\(∀ j (h:j<L.length),j<i->Qs L[j]=true)/\Below w.heap.size w wr) (fun v _=>((L.length:Int)-intOf v).toNat)
 case atStart=>exact ⟨0,rfl,by omega,fun j h hj=>by omega,Below.refl _ _⟩
 case round =>
  obtain ⟨i,rfl,hi,hs,hb⟩:=hrel;have HB:=Lib.hid hb;clear hb
  by_cases hl:i<L.length
  . obtain ⟨x,y,hx,c0,c1⟩:=(HR.out.below HB.out HR.out.lt).at2 i hl;rw [Nat.zero_add] at c0 c1;have hS:=Lib.hid hs;clear hs;have C:Hid (∀ w,Calls Tryz.prog 62 #[.agg #[.int .i64 x,.int .i64 y]] w fun e w'=>e=.returned (.bool (Qs [x,y]))/\Below w.heap.size w w'):=Lib.hid (fun w=>adZ x y w)
    have hl':(i:Int)<(L.length:Int):=by omega
    have FIN:Hid (Qs L[i]=true->∀ j (h:j<L.length),j<i+1->Qs L[j]=true):=by
     intro h j hj hji
     by_cases e:j<i
     . exact hS.out j hj e
     . obtain rfl:j=i:=by omega
       exact h
    have FIN2:Hid (Qs L[i]=false->G=false):=fun h=>by
     rw [<-HG.out,List.all_eq_false];exact ⟨L[i],List.getElem_mem hl,by simp [h]⟩
    rw [hx] at FIN FIN2;cases hsm:Qs [x,y]
    . rw [hsm] at C FIN2;have RG:Hid (G=false):=FIN2.out rfl;go_wp2_with fail;refine (C.out _).mono ?_;rintro e w1 ⟨rfl,hb1⟩;have HB1:Hid (Below w.heap.size w w1):=HB.out.trans (hb1.mono HB.out.size);clear hb1 c0 c1 HB C FIN FIN2 hS;go_wp2;go_ret;exact ⟨by rw [RG.out];first|done|rfl,HB1.out⟩
    . rw [hsm] at C FIN;go_wp2_with fail;refine (C.out _).mono ?_;rintro e w1 ⟨rfl,hb1⟩;have HB1:Hid (Below w.heap.size w w1):=HB.out.trans (hb1.mono HB.out.size);clear hb1 c0 c1 HB C FIN2 hS;go_wp2;go_light;exact ⟨⟨i+1,by rw [show ((i+1:Nat):Int)=(i:Int)+1 by omega],by omega,FIN.out (by first|rfl|trivial),HB1.out⟩,by simp only [intOf];omega⟩
  . have hl':¬ (i:Int)<(L.length:Int):=by omega
    have RG:Hid (G=true):=Lib.hid (by
     rw [<-HG.out,List.all_eq_true];intro x hx;obtain ⟨j,hj,rfl⟩:=List.mem_iff_getElem.1 hx;exact hs j hj (by omega))
    clear hs;go_wp2;go_ret;exact ⟨by rw [RG.out];first|done|rfl,HB.out⟩
theorem ZK (a b c d:Int) (W:World):Calls Tryz.prog 37 #[.slice (some ⟨W.heap.size,0,none⟩) 2 2] (W.alloc (.cells #[.int .i64 a,.int .i64 b,.int .i64 c,.int .i64 d] 23)) fun e w'=>e=.returned (.bool (decide (PtV a b/\PtV c d)))/\Below (W.alloc (.cells #[.int .i64 a,.int .i64 b,.int .i64 c,.int .i64 d] 23)).heap.size (W.alloc (.cells #[.int .i64 a,.int .i64 b,.int .i64 c,.int .i64 d] 23)) w':=by
 have:=abl W.heap.size 2 [[a,b],[c,d]] (W.alloc (.cells #[.int .i64 a,.int .i64 b,.int .i64 c,.int .i64 d] 23)) (aci W _ [[a,b],[c,d]] _ rfl (by intro x hx;simp at hx;rcases hx with rfl|rfl<;>rfl) _ rfl) (by simp)
 have e:[[a,b],[c,d]].all Qs=decide (PtV a b/\PtV c d):=by
  show (decide (PtV a b)&&(decide (PtV c d)&&true))=_
  by_cases q1:PtV a b<;>by_cases q2:PtV c d<;>simp [q1,q2]
 rw [e] at this;exact this
theorem acm (a b c d n:Int) (w:World) (h:n>12/\n<=60):Calls Tryz.prog 9 #[.agg #[.int .i64 a,.int .i64 b],.agg #[.int .i64 c,.int .i64 d],.int .i64 n] w fun e w'=>e=.returned (.bool true)/\Below w.heap.size w w':=by
 have K0:=Lib.hid (((av w).new w.heap.size rfl 23 #[.int .i64 a,.int .i64 b]).new (w.heap.size+1) (by simp) 23 #[.int .i64 c,.int .i64 d])
 obtain ⟨g1,g2⟩:=h;go_enter Tryz.func9,Tryz.ntmps9;go_wp2_with fail;refine (Zh _).mono ?_;rintro e w1 ⟨rfl,hb⟩;have K1:=Lib.hid (K0.out.below hb);clear hb K0;go_wp2;go_ret;exact ⟨rfl,K1.out.1⟩
theorem ac7 (a b c d n:Int) (w:World) (hn:¬ (n>12/\n<=60)) (h:¬ (PtV a b/\PtV c d)):Calls Tryz.prog 9 #[.agg #[.int .i64 a,.int .i64 b],.agg #[.int .i64 c,.int .i64 d],.int .i64 n] w fun e w'=>e=.returned (.bool true)/\Below w.heap.size w w':=by
 have K0:=Lib.hid (((av w).new w.heap.size rfl 23 #[.int .i64 a,.int .i64 b]).new (w.heap.size+1) (by simp) 23 #[.int .i64 c,.int .i64 d])
 have CP:=Lib.hid (fun w=>abQ a b c d n w h)
 have CV:=Lib.hid (fun w=>ZK a b c d w)
 rw [decide_eq_false h] at CV;have g:¬ n>12∨(n>12/\¬ n<=60):=by omega
 clear hn;clear h;rcases g with g1|⟨g1,g2⟩
 all_goals
  go_enter Tryz.func9,Tryz.ntmps9;go_wp2_with fail;refine (Zh _).mono ?_;rintro e w1 ⟨rfl,hb⟩;have K1:=Lib.hid (K0.out.below hb);clear hb K0;have a0:=K1.out.c (g:=w.heap.size) (t:=23) (cs:=#[.int .i64 a,.int .i64 b]) (by simp) (i:=0) rfl;have a1:=K1.out.c (g:=w.heap.size) (t:=23) (cs:=#[.int .i64 a,.int .i64 b]) (by simp) (i:=1) rfl;have c0:=K1.out.c (g:=w.heap.size+1) (t:=23) (cs:=#[.int .i64 c,.int .i64 d]) (by simp) (i:=0) rfl;have c1:=K1.out.c (g:=w.heap.size+1) (t:=23) (cs:=#[.int .i64 c,.int .i64 d]) (by simp) (i:=1) rfl
  go_wp2_with fail;refine (CP.out _).mono ?_;rintro e w2 ⟨rfl,hb⟩;have K2:=Lib.hid (K1.out.below hb);clear hb K1 CP a0 a1 c0 c1;have a0:=K2.out.c (g:=w.heap.size) (t:=23) (cs:=#[.int .i64 a,.int .i64 b]) (by simp) (i:=0) rfl;have a1:=K2.out.c (g:=w.heap.size) (t:=23) (cs:=#[.int .i64 a,.int .i64 b]) (by simp) (i:=1) rfl;have c0:=K2.out.c (g:=w.heap.size+1) (t:=23) (cs:=#[.int .i64 c,.int .i64 d]) (by simp) (i:=0) rfl;have c1:=K2.out.c (g:=w.heap.size+1) (t:=23) (cs:=#[.int .i64 c,.int .i64 d]) (by simp) (i:=1) rfl
  go_wp2_with fail;refine (CV.out _).mono ?_;rintro e w3 ⟨rfl,hb⟩;have K3:=Lib.hid ((K2.out.alloc _).below hb);clear hb K2 CV a0 a1 c0 c1;go_wp2;go_ret;exact ⟨rfl,K3.out.1⟩
theorem adA (a b c d n:Int) (w:World) (hn:¬ (n>12/\n<=60)) (h1:PtV a b) (h2:PtV c d) (h:n<1∨60<n):Calls Tryz.prog 9 #[.agg #[.int .i64 a,.int .i64 b],.agg #[.int .i64 c,.int .i64 d],.int .i64 n] w fun e w'=>e=.returned (.bool true)/\Below w.heap.size w w':=by
 have K0:=Lib.hid (((av w).new w.heap.size rfl 23 #[.int .i64 a,.int .i64 b]).new (w.heap.size+1) (by simp) 23 #[.int .i64 c,.int .i64 d])
 have CP:=Lib.hid (fun w=>acd a b c d n w h1 h2 h)
 have CV:=Lib.hid (fun w=>ZK a b c d w)
 rw [decide_eq_true ⟨h1,h2⟩] at CV;have g:(¬ n>12/\n<1/\¬ n>60)∨(n>12/\¬ n<=60/\¬ n<1/\n>60):=by omega
 clear hn h h1 h2;rcases g with ⟨g1,g3,g4⟩|⟨g1,g2,g3,g4⟩
 all_goals
  go_enter Tryz.func9,Tryz.ntmps9;go_wp2_with fail;refine (Zh _).mono ?_;rintro e w1 ⟨rfl,hb⟩;have K1:=Lib.hid (K0.out.below hb);clear hb K0;have a0:=K1.out.c (g:=w.heap.size) (t:=23) (cs:=#[.int .i64 a,.int .i64 b]) (by simp) (i:=0) rfl;have a1:=K1.out.c (g:=w.heap.size) (t:=23) (cs:=#[.int .i64 a,.int .i64 b]) (by simp) (i:=1) rfl;have c0:=K1.out.c (g:=w.heap.size+1) (t:=23) (cs:=#[.int .i64 c,.int .i64 d]) (by simp) (i:=0) rfl;have c1:=K1.out.c (g:=w.heap.size+1) (t:=23) (cs:=#[.int .i64 c,.int .i64 d]) (by simp) (i:=1) rfl
  go_wp2_with fail;refine (CP.out _).mono ?_;rintro e w2 ⟨rfl,hb⟩;have K2:=Lib.hid (K1.out.below hb);clear hb K1 CP a0 a1 c0 c1;have a0:=K2.out.c (g:=w.heap.size) (t:=23) (cs:=#[.int .i64 a,.int .i64 b]) (by simp) (i:=0) rfl;have a1:=K2.out.c (g:=w.heap.size) (t:=23) (cs:=#[.int .i64 a,.int .i64 b]) (by simp) (i:=1) rfl;have c0:=K2.out.c (g:=w.heap.size+1) (t:=23) (cs:=#[.int .i64 c,.int .i64 d]) (by simp) (i:=0) rfl;have c1:=K2.out.c (g:=w.heap.size+1) (t:=23) (cs:=#[.int .i64 c,.int .i64 d]) (by simp) (i:=1) rfl
  go_wp2_with fail;refine (CV.out _).mono ?_;rintro e w3 ⟨rfl,hb⟩;have K3:=Lib.hid ((K2.out.alloc _).below hb);clear hb K2 CV a0 a1 c0 c1;go_wp2;go_ret;exact ⟨rfl,K3.out.1⟩
theorem adb (a b c d n:Int) (w:World) (hn:1<=n/\n<=12) (h1:PtV a b) (h2:PtV c d) (h:crB a b c d):Calls Tryz.prog 9 #[.agg #[.int .i64 a,.int .i64 b],.agg #[.int .i64 c,.int .i64 d],.int .i64 n] w fun e w'=>e=.returned (.bool true)/\Below w.heap.size w w':=by
 have K0:=Lib.hid (((av w).new w.heap.size rfl 23 #[.int .i64 a,.int .i64 b]).new (w.heap.size+1) (by simp) 23 #[.int .i64 c,.int .i64 d])
 have CP:=Lib.hid (fun w=>ab8 a b c d n w h1 h2 (by omega) h)
 have CV:=Lib.hid (fun w=>ZK a b c d w)
 rw [decide_eq_true ⟨h1,h2⟩] at CV;have BD:=aak a b c d;have CC:=Lib.hid (fun w=>aax a b c d w h1 h2)
 have CA:=Lib.hid (fun w=>abo ((M4 a b c d).getD 0 0) ((M4 a b c d).getD 1 0) w (by omega))
 rw [decide_eq_true ((aaN a b c d).2 h)] at CA;clear h1 h2 h BD;generalize (M4 a b c d).getD 0 0=k0 at *
 generalize (M4 a b c d).getD 1 0=k1 at *
 have g1:¬ n>12:=by omega
 have g2:¬ n<1:=by omega
 have g3:¬ n>60:=by omega
 clear hn;go_enter Tryz.func9,Tryz.ntmps9;go_wp2_with fail;refine (Zh _).mono ?_;rintro e w1 ⟨rfl,hb⟩;have K1:=Lib.hid (K0.out.below hb);clear hb K0;have a0:=K1.out.c (g:=w.heap.size) (t:=23) (cs:=#[.int .i64 a,.int .i64 b]) (by simp) (i:=0) rfl;have a1:=K1.out.c (g:=w.heap.size) (t:=23) (cs:=#[.int .i64 a,.int .i64 b]) (by simp) (i:=1) rfl;have c0:=K1.out.c (g:=w.heap.size+1) (t:=23) (cs:=#[.int .i64 c,.int .i64 d]) (by simp) (i:=0) rfl;have c1:=K1.out.c (g:=w.heap.size+1) (t:=23) (cs:=#[.int .i64 c,.int .i64 d]) (by simp) (i:=1) rfl
 go_wp2_with fail;refine (CP.out _).mono ?_;rintro e w2 ⟨rfl,hb⟩;have K2:=Lib.hid (K1.out.below hb);clear hb K1 CP a0 a1 c0 c1;have a0:=K2.out.c (g:=w.heap.size) (t:=23) (cs:=#[.int .i64 a,.int .i64 b]) (by simp) (i:=0) rfl;have a1:=K2.out.c (g:=w.heap.size) (t:=23) (cs:=#[.int .i64 a,.int .i64 b]) (by simp) (i:=1) rfl;have c0:=K2.out.c (g:=w.heap.size+1) (t:=23) (cs:=#[.int .i64 c,.int .i64 d]) (by simp) (i:=0) rfl;have c1:=K2.out.c (g:=w.heap.size+1) (t:=23) (cs:=#[.int .i64 c,.int .i64 d]) (by simp) (i:=1) rfl
 go_wp2_with fail;refine (CV.out _).mono ?_;rintro e w3 ⟨rfl,hb⟩;have K3:=Lib.hid ((K2.out.alloc _).below hb);clear hb K2 CV a0 a1 c0 c1;have a0:=K3.out.c (g:=w.heap.size) (t:=23) (cs:=#[.int .i64 a,.int .i64 b]) (by simp) (i:=0) rfl;have a1:=K3.out.c (g:=w.heap.size) (t:=23) (cs:=#[.int .i64 a,.int .i64 b]) (by simp) (i:=1) rfl;have c0:=K3.out.c (g:=w.heap.size+1) (t:=23) (cs:=#[.int .i64 c,.int .i64 d]) (by simp) (i:=0) rfl;have c1:=K3.out.c (g:=w.heap.size+1) (t:=23) (cs:=#[.int .i64 c,.int .i64 d]) (by simp) (i:=1) rfl
 go_wp2_with fail;refine (CC.out _).mono ?_;rintro e w4 ⟨rfl,hb⟩;have K4:=Lib.hid (K3.out.below hb);clear hb K3 CC a0 a1 c0 c1;go_wp2_with fail;refine (CA.out _).mono ?_;rintro e w5 ⟨rfl,hb⟩;have K5:=Lib.hid (K4.out.below hb);clear hb K4 CA;go_wp2;go_ret;exact ⟨rfl,K5.out.1⟩
theorem adC (a b c d n:Int) (w:World) (hn:1<=n/\n<=12) (h1:PtV a b) (h2:PtV c d) (h:¬ crB a b c d):Calls Tryz.prog 9 #[.agg #[.int .i64 a,.int .i64 b],.agg #[.int .i64 c,.int .i64 d],.int .i64 n] w fun e w'=>e=.returned (.bool true)/\Below w.heap.size w w':=by
 have K0:=Lib.hid (((av w).new w.heap.size rfl 23 #[.int .i64 a,.int .i64 b]).new (w.heap.size+1) (by simp) 23 #[.int .i64 c,.int .i64 d])
 obtain ⟨N,rfl⟩:∃ N:Nat,n=(N:Int):=⟨n.toNat,by omega⟩
 have CP:=Lib.hid (fun w=>adf a b c d (N:Int) w h1 h2 (by omega) h)
 rw [show ((N:Int)).toNat=N from rfl] at CP
 have CR:=Lib.hid (fun w=>ac5 a b c d N w h1 h2 (by omega))
 have CV:=Lib.hid (fun w=>ZK a b c d w)
 rw [decide_eq_true ⟨h1,h2⟩] at CV;have BD:=aak a b c d;have CC:=Lib.hid (fun w=>aax a b c d w h1 h2)
 have CA:=Lib.hid (fun w=>abo ((M4 a b c d).getD 0 0) ((M4 a b c d).getD 1 0) w (by omega))
 rw [decide_eq_false (fun q=>h ((aaN a b c d).1 q))] at CA
 have hL:(wyA a b c d ((N:Int)+1) N).length<=1000:=by rw [ZM];omega
 clear h1 h2 h BD;generalize (M4 a b c d).getD 0 0=k0 at *
 generalize (M4 a b c d).getD 1 0=k1 at *
 generalize wyA a b c d ((N:Int)+1) N=R at *
 have g1:¬ (N:Int)>12:=by omega
 have g2:¬ (N:Int)<1:=by omega
 have g3:¬ (N:Int)>60:=by omega
 have HL:=Lib.hid hL;clear hn hL;go_enter Tryz.func9,Tryz.ntmps9;go_wp2_with fail;refine (Zh _).mono ?_;rintro e w1 ⟨rfl,hb⟩;have K1:=Lib.hid (K0.out.below hb);clear hb K0;have a0:=K1.out.c (g:=w.heap.size) (t:=23) (cs:=#[.int .i64 a,.int .i64 b]) (by simp) (i:=0) rfl;have a1:=K1.out.c (g:=w.heap.size) (t:=23) (cs:=#[.int .i64 a,.int .i64 b]) (by simp) (i:=1) rfl;have c0:=K1.out.c (g:=w.heap.size+1) (t:=23) (cs:=#[.int .i64 c,.int .i64 d]) (by simp) (i:=0) rfl;have c1:=K1.out.c (g:=w.heap.size+1) (t:=23) (cs:=#[.int .i64 c,.int .i64 d]) (by simp) (i:=1) rfl
 go_wp2_with fail;refine (CP.out _).mono ?_;rintro e w2 ⟨⟨u,rfl,O⟩,hb⟩;obtain ⟨ad1,cap1,rfl,_,_,S1,_⟩:=O.out (by decide)
 have T2:=Lib.hid S1;clear O S1;have K2:=Lib.hid (K1.out.below hb);clear hb K1 CP a0 a1 c0 c1;have a0:=K2.out.c (g:=w.heap.size) (t:=23) (cs:=#[.int .i64 a,.int .i64 b]) (by simp) (i:=0) rfl;have a1:=K2.out.c (g:=w.heap.size) (t:=23) (cs:=#[.int .i64 a,.int .i64 b]) (by simp) (i:=1) rfl;have c0:=K2.out.c (g:=w.heap.size+1) (t:=23) (cs:=#[.int .i64 c,.int .i64 d]) (by simp) (i:=0) rfl;have c1:=K2.out.c (g:=w.heap.size+1) (t:=23) (cs:=#[.int .i64 c,.int .i64 d]) (by simp) (i:=1) rfl
 go_wp2_with fail;refine (CV.out _).mono ?_;rintro e w3 ⟨rfl,hb⟩;have T3:=Lib.hid ((T2.out.alloc _).below hb);have K3:=Lib.hid ((K2.out.alloc _).below hb);clear hb K2 T2 CV a0 a1 c0 c1;have a0:=K3.out.c (g:=w.heap.size) (t:=23) (cs:=#[.int .i64 a,.int .i64 b]) (by simp) (i:=0) rfl;have a1:=K3.out.c (g:=w.heap.size) (t:=23) (cs:=#[.int .i64 a,.int .i64 b]) (by simp) (i:=1) rfl;have c0:=K3.out.c (g:=w.heap.size+1) (t:=23) (cs:=#[.int .i64 c,.int .i64 d]) (by simp) (i:=0) rfl;have c1:=K3.out.c (g:=w.heap.size+1) (t:=23) (cs:=#[.int .i64 c,.int .i64 d]) (by simp) (i:=1) rfl
 go_wp2_with fail;refine (CC.out _).mono ?_;rintro e w4 ⟨rfl,hb⟩;have T4:=Lib.hid (T3.out.below hb);have K4:=Lib.hid (K3.out.below hb);clear hb K3 T3 CC a0 a1 c0 c1;go_wp2_with fail;refine (CA.out _).mono ?_;rintro e w5 ⟨rfl,hb⟩;have T5:=Lib.hid (T4.out.below hb);have K5:=Lib.hid (K4.out.below hb);clear hb K4 T4 CA;have a0:=K5.out.c (g:=w.heap.size) (t:=23) (cs:=#[.int .i64 a,.int .i64 b]) (by simp) (i:=0) rfl;have a1:=K5.out.c (g:=w.heap.size) (t:=23) (cs:=#[.int .i64 a,.int .i64 b]) (by simp) (i:=1) rfl;have c0:=K5.out.c (g:=w.heap.size+1) (t:=23) (cs:=#[.int .i64 c,.int .i64 d]) (by simp) (i:=0) rfl;have c1:=K5.out.c (g:=w.heap.size+1) (t:=23) (cs:=#[.int .i64 c,.int .i64 d]) (by simp) (i:=1) rfl
 go_wp2_with fail;refine (CR.out _).mono ?_;rintro e w6 ⟨⟨u,rfl,O⟩,hb⟩;obtain ⟨ad2,cap2,rfl,_,_,S2,_⟩:=O.out (by decide)
 have K6:=Lib.hid (K5.out.below hb)
 have CE:Hid (Calls Tryz.prog 40 #[.slice ad1 R.length cap1,.slice ad2 R.length cap2] w6 fun e w'=>e=.returned (.bool true)/\Below w6.heap.size w6 w'):=Lib.hid (by
  have:=abH ad1 ad2 cap1 cap2 R R w6 (T5.out.below hb) S2 HL.out HL.out;rw [decide_eq_true rfl] at this;exact this)
 clear hb K5 T5 O S2 CR a0 a1 c0 c1;go_wp2_with fail;refine CE.out.mono ?_;rintro e w7 ⟨rfl,hb⟩;have K7:=Lib.hid (K6.out.below hb);clear hb K6 CE;go_wp2;go_ret;exact ⟨by first|rfl|simp,K7.out.1⟩
theorem acB (a b c d n:Int) (w:World):Calls Tryz.prog 9 #[.agg #[.int .i64 a,.int .i64 b],.agg #[.int .i64 c,.int .i64 d],.int .i64 n] w fun e w'=>e=.returned (.bool true)/\Below w.heap.size w w':=by
 by_cases hm:n>12/\n<=60
 . exact acm a b c d n w hm
 . by_cases hv:PtV a b/\PtV c d
   . by_cases hr:n<1∨60<n
     . exact adA a b c d n w hm hv.1 hv.2 hr
     . by_cases hc:crB a b c d
       . exact adb a b c d n w (by omega) hv.1 hv.2 hc
       . exact adC a b c d n w (by omega) hv.1 hv.2 hc
   . exact ac7 a b c d n w hm hv
