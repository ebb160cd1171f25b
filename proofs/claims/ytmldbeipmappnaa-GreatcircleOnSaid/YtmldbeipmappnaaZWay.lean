/- The walk of Waypoints. -/
import Derived.Test.YtmldbeipmappnaaZTim
import Derived.Test.YtmldbeipmappnaaZDir
import Derived.Test.YtmldbeipmappnaaZRw
set_option linter.unusedVariables false
set_option linter.unusedSimpArgs false
set_option maxRecDepth 100000
set_option maxHeartbeats 8000000
namespace Go.Proofs.Ytmldbeipmappnaa
open Go.RowKit Alm Sx
abbrev crB (a b c d:Int):Prop:=(bA a b c d).getD 0 0=0/\(bA a b c d).getD 1 0=21600000
def wyD (a b c d m i:Int):List Int:=nS a a b b ((bA a b c d).getD 0 0) ((bA a b c d).getD 1 0) (tmL ((bY a b c d).getD 0 0) i m) (tmH ((bY a b c d).getD 1 0) i m)
def wyI (a b c d m i:Int):List Int:=[(wyD a b c d m i).getD 0 0,(wyD a b c d m i).getD 1 0,(wyD a b c d m i).getD 2 0,(wyD a b c d m i).getD 3 0]
def wyA (a b c d m:Int):Nat->Cs
 | 0=>[]
 | i+1=>wyA a b c d m i++[wyI a b c d m ((i+1:Nat):Int)]
theorem xK (a b c d m:Int):∀ i,(wyA a b c d m i).length=i
 | 0=>rfl
 | i+1=>by unfold wyA;rw [List.length_append,xK a b c d m i];rfl
theorem Q4 (a b c d n:Int) (w:World) (h1:PtV a b) (h2:PtV c d) (hn:1<=n/\n<=60) (hc:¬ crB a b c d) :
 Calls Try.prog 24 #[.agg #[.int .i64 a,.int .i64 b],.agg #[.int .i64 c,.int .i64 d],.int .i64 n] w fun e w'=>(∃ u,e=.returned (.tuple #[u,.int .i64 0])/\fe 4 35 w.heap.size w' u (wyA a b c d (n+1) n.toNat))/\Below w.heap.size w w':=by
 obtain ⟨N,rfl⟩:∃ N:Nat,n=(N:Int):=⟨n.toNat,by omega⟩
 rw [show ((N:Int)).toNat=N from rfl]
 have DB:=su a b c d h1 h2;have KB:=oK a b c d;have CI:=Lib.hid (fun w=>JV a b c d w h1 h2)
 have CO:=Lib.hid (fun w=>PH a b w h1)
 have CE:=Lib.hid (fun w=>MW ((bA a b c d).getD 0 0) ((bA a b c d).getD 1 0) w)
 have CT:=Lib.hid (fun (i:Nat) (hi:1<=i/\i<=N) w=>Qg ((bY a b c d).getD 0 0) ((bY a b c d).getD 1 0) (i:Int) ((N:Int)+1) w DB (by omega) (by omega))
 have CD:=Lib.hid (fun (i:Nat) (hi:1<=i/\i<=N) (w:World)=>(fun B=>RG a a b b ((bA a b c d).getD 0 0) ((bA a b c d).getD 1 0) (tmL ((bY a b c d).getD 0 0) i ((N:Int)+1)) (tmH ((bY a b c d).getD 1 0) i ((N:Int)+1)) w (by omega) (.inr (by omega)) ((cO _ _).2 (by omega)) ⟨B.1,B.2.1,by omega⟩) (Oy (i:=(i:Int)) (m:=(N:Int)+1) DB (by omega) (by omega)))
 have ND:Hid (∀ i:Nat,wyA a b c d ((N:Int)+1) (i+1)=wyA a b c d ((N:Int)+1) i++[wyI a b c d ((N:Int)+1) ((i+1:Nat):Int)]):=Lib.hid (fun i=>rfl)
 have L0:Hid (wyA a b c d ((N:Int)+1) 0=[]):=Lib.hid rfl;have LN:=Lib.hid (xK a b c d ((N:Int)+1));rw [decide_eq_false hc] at CE;have WI:∀ i:Int,wyI a b c d ((N:Int)+1) i=[(wyD a b c d ((N:Int)+1) i).getD 0 0,(wyD a b c d ((N:Int)+1) i).getD 1 0,(wyD a b c d ((N:Int)+1) i).getD 2 0,(wyD a b c d ((N:Int)+1) i).getD 3 0]:=fun _=>rfl
 have WD:∀ i:Int,nS a a b b ((bA a b c d).getD 0 0) ((bA a b c d).getD 1 0) (tmL ((bY a b c d).getD 0 0) i ((N:Int)+1)) (tmH ((bY a b c d).getD 1 0) i ((N:Int)+1))=wyD a b c d ((N:Int)+1) i:=fun _=>rfl
 simp only [WD] at CD;clear DB KB h1 h2 hc WD;generalize (bA a b c d).getD 0 0=k0 at *
 generalize (bA a b c d).getD 1 0=k1 at *
 generalize (bY a b c d).getD 0 0=d0 at *
 generalize (bY a b c d).getD 1 0=d1 at *
 generalize wyI a b c d ((N:Int)+1)=WYI at *
 generalize wyD a b c d ((N:Int)+1)=WYD at *
 generalize wyA a b c d ((N:Int)+1)=L at *
 have hw1:IntKind.i64.wrap ((N:Int)+1)=(N:Int)+1:=Go.IntWalk.i64_in _ (by omega)
 have g1:¬ (N:Int)<1:=by omega
 have g2:¬ (N:Int)>60:=by omega
 have K0:=Lib.hid (((bK w).new w.heap.size rfl 23 #[.int .i64 a,.int .i64 b]).new (w.heap.size+1) (by simp) 23 #[.int .i64 c,.int .i64 d])
 go_enter Try.func24,Try.ntmps24;go_wp2_with fail;refine (CI.out _).mono ?_;rintro e w1 ⟨rfl,hb⟩;have K1:=Lib.hid ((K0.out.below hb).new w1.heap.size rfl 28 #[.int .i64 k0,.int .i64 k1,.int .i64 d0,.int .i64 d1]);clear hb K0 CI;have l0:=K1.out.c (g:=w1.heap.size) (t:=28) (cs:=#[.int .i64 k0,.int .i64 k1,.int .i64 d0,.int .i64 d1]) (by simp) (i:=0) rfl;have l1:=K1.out.c (g:=w1.heap.size) (t:=28) (cs:=#[.int .i64 k0,.int .i64 k1,.int .i64 d0,.int .i64 d1]) (by simp) (i:=1) rfl
 go_wp2_with fail;refine (CE.out _).mono ?_;rintro e w2 ⟨rfl,hb⟩;have K2:=Lib.hid (K1.out.below hb);clear hb K1 CE l0 l1;have a0:=K2.out.c (g:=w.heap.size) (t:=23) (cs:=#[.int .i64 a,.int .i64 b]) (by simp) (i:=0) rfl;have a1:=K2.out.c (g:=w.heap.size) (t:=23) (cs:=#[.int .i64 a,.int .i64 b]) (by simp) (i:=1) rfl
 go_wp2_with fail;refine (CO.out _).mono ?_;rintro e w3 ⟨rfl,hb⟩;have K3:=Lib.hid (((K2.out.below hb).new w3.heap.size rfl 35 #[.int .i64 a,.int .i64 a,.int .i64 b,.int .i64 b]).sub (l':=[(w3.heap.size,35,#[.int .i64 a,.int .i64 a,.int .i64 b,.int .i64 b]),(w1.heap.size,28,#[.int .i64 k0,.int .i64 k1,.int .i64 d0,.int .i64 d1])]) (by intro p hp;simp at hp ⊢;rcases hp with rfl|rfl<;>simp));clear hb K2 CO a0 a1
 go_wp2;have HLT:Hid (w1.heap.size<w3.heap.size+1/\w.heap.size<=w3.heap.size+1):=Lib.hid (by have:=K3.out.lt (g:=w1.heap.size) (t:=28) (cs:=#[.int .i64 k0,.int .i64 k1,.int .i64 d0,.int .i64 d1]) (by simp);have:=K3.out.1.size;simp at *;omega)
 generalize w3.alloc _=w4 at *
 generalize w3.heap.size=B10 at *
 generalize w1.heap.size=B8 at *
 go_loopw [11,12] (fun v11 v12 wr=>∃ i:Nat,v12=.int .i64 ((i+1:Nat):Int)/\i<=N/\fe 4 35 (B10+1) wr v11 (L i)/\KS w wr [(B10,35,#[.int .i64 a,.int .i64 a,.int .i64 b,.int .i64 b]),(B8,28,#[.int .i64 k0,.int .i64 k1,.int .i64 d0,.int .i64 d1])]) (fun _ v12 _=>((N:Int)+1-intOf v12).toNat)
 case atStart=>exact ⟨0,rfl,by omega,by rw [L0.out];exact fe.nil _ _ _ _,K3.out⟩
 case round =>
  obtain ⟨i,rfl,hi,ho,hk⟩:=hrel;clear K3;have K:=Lib.hid hk;have O:=Lib.hid ho;clear hk ho
  by_cases hl:i<N
  . have CTi:=Lib.hid (CT.out (i+1) (by omega))
    have CDi:=Lib.hid (CD.out (i+1) (by omega))
    have LR:Hid (L (i+1)=L i++[[(WYD ((i+1:Nat):Int)).getD 0 0,(WYD ((i+1:Nat):Int)).getD 1 0,(WYD ((i+1:Nat):Int)).getD 2 0,(WYD ((i+1:Nat):Int)).getD 3 0]]):=Lib.hid (by rw [ND.out,WI])
    have HSZ:Hid ((L i).length+1<=1000000):=Lib.hid (by rw [LN.out];omega)
    generalize tmL d0 ((i+1:Nat):Int) ((N:Int)+1)=x at *
    generalize tmH d1 ((i+1:Nat):Int) ((N:Int)+1)=y at *
    generalize (WYD ((i+1:Nat):Int)).getD 0 0=q0 at *
    generalize (WYD ((i+1:Nat):Int)).getD 1 0=q1 at *
    generalize (WYD ((i+1:Nat):Int)).getD 2 0=q2 at *
    generalize (WYD ((i+1:Nat):Int)).getD 3 0=q3 at *
    have hl':((i+1:Nat):Int)<=(N:Int):=by omega
    clear WI CT CD ND LN;have l2:=K.out.c (g:=B8) (t:=28) (cs:=#[.int .i64 k0,.int .i64 k1,.int .i64 d0,.int .i64 d1]) (by simp) (i:=2) rfl;have l3:=K.out.c (g:=B8) (t:=28) (cs:=#[.int .i64 k0,.int .i64 k1,.int .i64 d0,.int .i64 d1]) (by simp) (i:=3) rfl
    go_wp2_with fail;refine (CTi.out _).mono ?_;rintro e w5 ⟨rfl,hb⟩;have B5:=Lib.hid hb;have K5:=Lib.hid ((K.out.below hb).new w5.heap.size rfl 26 #[.int .i64 x,.int .i64 y]);have O5:=Lib.hid ((O.out.below hb).alloc (.cells #[.int .i64 x,.int .i64 y] 26));clear hb K O l2 l3 CTi;have l0:=K5.out.c (g:=B8) (t:=28) (cs:=#[.int .i64 k0,.int .i64 k1,.int .i64 d0,.int .i64 d1]) (by simp) (i:=0) rfl;have l1:=K5.out.c (g:=B8) (t:=28) (cs:=#[.int .i64 k0,.int .i64 k1,.int .i64 d0,.int .i64 d1]) (by simp) (i:=1) rfl;have p0:=K5.out.c (g:=B10) (t:=35) (cs:=#[.int .i64 a,.int .i64 a,.int .i64 b,.int .i64 b]) (by simp) (i:=0) rfl;have p1:=K5.out.c (g:=B10) (t:=35) (cs:=#[.int .i64 a,.int .i64 a,.int .i64 b,.int .i64 b]) (by simp) (i:=1) rfl;have p2:=K5.out.c (g:=B10) (t:=35) (cs:=#[.int .i64 a,.int .i64 a,.int .i64 b,.int .i64 b]) (by simp) (i:=2) rfl;have p3:=K5.out.c (g:=B10) (t:=35) (cs:=#[.int .i64 a,.int .i64 a,.int .i64 b,.int .i64 b]) (by simp) (i:=3) rfl;have m0:=K5.out.c (g:=w5.heap.size) (t:=26) (cs:=#[.int .i64 x,.int .i64 y]) (by simp) (i:=0) rfl;have m1:=K5.out.c (g:=w5.heap.size) (t:=26) (cs:=#[.int .i64 x,.int .i64 y]) (by simp) (i:=1) rfl
    go_wp2_with fail;refine (CDi.out _).mono ?_;rintro e w6 ⟨rfl,hb⟩;have K6:=Lib.hid ((K5.out.below hb).new w6.heap.size rfl 35 #[.int .i64 q0,.int .i64 q1,.int .i64 q2,.int .i64 q3]);have O6:=Lib.hid ((O5.out.below hb).alloc (.cells #[.int .i64 q0,.int .i64 q1,.int .i64 q2,.int .i64 q3] 35));clear hb K5 O5 l0 l1 p0 p1 p2 p3 m0 m1 CDi;have m0:=K6.out.c (g:=w6.heap.size) (t:=35) (cs:=#[.int .i64 q0,.int .i64 q1,.int .i64 q2,.int .i64 q3]) (by simp) (i:=0) rfl;have m1:=K6.out.c (g:=w6.heap.size) (t:=35) (cs:=#[.int .i64 q0,.int .i64 q1,.int .i64 q2,.int .i64 q3]) (by simp) (i:=1) rfl;have m2:=K6.out.c (g:=w6.heap.size) (t:=35) (cs:=#[.int .i64 q0,.int .i64 q1,.int .i64 q2,.int .i64 q3]) (by simp) (i:=2) rfl;have m3:=K6.out.c (g:=w6.heap.size) (t:=35) (cs:=#[.int .i64 q0,.int .i64 q1,.int .i64 q2,.int .i64 q3]) (by simp) (i:=3) rfl
    have HB6:Hid (B10+1<=(w6.alloc (.cells #[.int .i64 q0,.int .i64 q1,.int .i64 q2,.int .i64 q3] 35)).heap.size):=Lib.hid (K6.out.lt (g:=B10) (t:=35) (cs:=#[.int .i64 a,.int .i64 a,.int .i64 b,.int .i64 b]) (by simp))
    go_wp2_with (at_builtin;(refine mr OY rfl _ _ rfl _ (B10+1) _ (L i) [[q0,q1,q2,q3]] rfl (O6.out.alloc _) _ 1 1 rfl rfl (Bn (w6.alloc (.cells #[.int .i64 q0,.int .i64 q1,.int .i64 q2,.int .i64 q3] 35)) (w6.heap.size+1) (by simp) [[q0,q1,q2,q3]] #[.int .i64 q0,.int .i64 q1,.int .i64 q2,.int .i64 q3] rfl _) (by intro x hx;simp at hx;subst hx;rfl) (Nat.succ_pos _) HSZ.out (Nat.le_trans HB6.out (Hu _ _)) ?_;intro v10 w10 O10 BW G10 E10))
    have KF:=Lib.hid (((K6.out.alloc _).sub (l':=[(B10,35,#[.int .i64 a,.int .i64 a,.int .i64 b,.int .i64 b]),(B8,28,#[.int .i64 k0,.int .i64 k1,.int .i64 d0,.int .i64 d1])]) (by intro p hp;simp at hp ⊢;rcases hp with rfl|rfl<;>simp)).upto BW HLT.out.2 (by intro p hp;simp at hp;rcases hp with rfl|rfl<;>simp;exact HLT.out.1))
    have OF:=Lib.hid O10;clear O10 BW G10 E10 O6 K6 m0 m1 m2 m3 HB6;go_wp2;go_light;exact ⟨⟨i+1,by first|rfl|(congr 1;omega)|(simp;omega),by omega,by rw [LR.out];exact OF.out,KF.out⟩,by simp only [intOf];omega⟩
  . have hl':¬ ((i+1:Nat):Int)<=(N:Int):=by omega
    have EQ:Hid (L i=L N):=Lib.hid (by rw [show i=N by omega])
    go_wp2;refine bodyPost_ret (by simp [results,Try.results24,go_sem];try rfl) rfl ⟨⟨_,rfl,by rw [<-EQ.out];exact O.out.mono HLT.out.2⟩,K.out.1⟩
