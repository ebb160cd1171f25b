/- The walk of the reference's solution by tables. -/
import Derived.Test.YtdbaccfgkacffaaGreatZLkQ
import Derived.Test.YtdbaccfgkacffaaGreatZRw
import Derived.Deep.RegionHeld3
set_option linter.unusedVariables false
set_option linter.unusedSimpArgs false
set_option maxRecDepth 100000
set_option maxHeartbeats 8000000
namespace Go.Proofs.YtdbaccfgkacffaaGreat
open Go.RowKit Alm Sx
theorem QC {W X:World} {o:Obj} (h:Below W.heap.size W X):Below W.heap.size W (X.alloc o):=h.alloc h.size o
theorem Aj {W X:World} {p:Addr} {u:Value} (h:Below W.heap.size W X) (hp:W.heap.size<=p.block):Below W.heap.size W (X.setCell p u):=h.setCell hp u
theorem Wv {W X Y:World} (h:Below W.heap.size W X) (hb:Below X.heap.size X Y):Below W.heap.size W Y:=h.trans (hb.mono h.size)
theorem Wi {w:World} {g:Nat} {t:TypeId} {x0 x1 x2 x3 u0 u1 u2 u3:Value} (h:BK w g t #[x0,x1,x2,x3]):BK ((((w.setCell ⟨g,0,none⟩ u0).setCell ⟨g,1,none⟩ u1).setCell ⟨g,2,none⟩ u2).setCell ⟨g,3,none⟩ u3) g t #[u0,u1,u2,u3]:=(((h.set 0 u0).set 1 u1).set 2 u2).set 3 u3
theorem ks2 {w X:World} {p q:Nat} {t t':TypeId} {c1 c2:Array Value} (hb:Below w.heap.size w X) (h1:BK X p t c1) (h2:BK X q t' c2):KS w X [(p,t,c1),(q,t',c2)]:=⟨hb,fun x hx=>by simp at hx;rcases hx with rfl|rfl<;>assumption⟩
def lkL (Z:Nat->Nat->Int):Nat->Cs
 | 0=>[]
 | i+1=>lkL Z i++[[Z i 0,Z i 1,Z i 2,Z i 3]]
theorem Hm (Z:Nat->Nat->Int):∀ i,(lkL Z i).length=i
 | 0=>rfl
 | i+1=>by unfold lkL;rw [List.length_append,Hm Z i];rfl
theorem XW:Rc Tryz.prog 100 28 4 32:=Q5 Tryz.underlying100 (by kernel_rfl) (by decide) (by decide)
theorem Lv (a c d m n J K M0 M1 u0 u1 v0 v1 O0 O1 O2 O3 O4 N2 N3 P2 P3:Int) (T A:Bool) (X Y Z:Nat->Nat->Int) (E F:Nat->Int) (w:World) (ht:Int.tmod a 60000=0) (hJ:-90<=J/\J<=89) (hK:0<=K/\K<=179)
 (CM:Hid (∀ w:World,Calls Tryz.prog 53 #[.agg #[.int .i64 m,.int .i64 n]] w fun e w'=>e=.returned (.tuple #[.agg #[.int .i64 M0,.int .i64 M1],.bool T,.bool true])/\Below w.heap.size w w'))
 (CJ:Hid (∀ w:World,Calls Tryz.prog 54 #[.agg #[.int .i64 c,.int .i64 d],.int .i64 (-90),.int .i64 90] w fun e w'=>e=.returned (.tuple #[.int .i64 J,.agg #[.int .i64 v0,.int .i64 v1],.bool true])/\Below w.heap.size w w'))
 (CK:Hid (∀ w:World,Calls Tryz.prog 54 #[.agg #[.int .i64 M0,.int .i64 M1],.int .i64 0,.int .i64 180] w fun e w'=>e=.returned (.tuple #[.int .i64 K,.agg #[.int .i64 u0,.int .i64 u1],.bool true])/\Below w.heap.size w w'))
 (CG:Hid (∀ (i:Nat) (_:i<2) (w:World),Calls Tryz.prog 56 #[.int .i64 (J+(i:Int))] w fun e w'=>e=.returned (.agg #[.int .i64 ((J+(i:Int))*60000),.int .i64 ((J+(i:Int))*60000)])/\Below w.heap.size w w'))
 (CE:Hid (∀ (i:Nat) (_:i<2) (w:World),Calls Tryz.prog 55 #[.agg #[.int .i64 a,.int .i64 a],.agg #[.int .i64 ((J+(i:Int))*60000),.int .i64 ((J+(i:Int))*60000)],.int .i64 K] w fun e w'=>e=.returned (.tuple #[.int .i64 (E i),.int .i64 (F i)])/\Below w.heap.size w w'))
 (C1:Hid (∀ (i:Nat) (_:i<2) (w:World),Calls Tryz.prog 58 #[.agg #[.int .i64 a,.int .i64 a],.int .i64 (J+(i:Int)),.int .i64 K] w fun e w'=>e=.returned (.agg #[.int .i64 (X i 0),.int .i64 (X i 1),.int .i64 (X i 2),.int .i64 (X i 3)])/\Below w.heap.size w w'))
 (C2:Hid (∀ (i:Nat) (_:i<2) (w:World),Calls Tryz.prog 58 #[.agg #[.int .i64 a,.int .i64 a],.int .i64 (J+(i:Int)),.int .i64 (K+1)] w fun e w'=>e=.returned (.agg #[.int .i64 (Y i 0),.int .i64 (Y i 1),.int .i64 (Y i 2),.int .i64 (Y i 3)])/\Below w.heap.size w w'))
 (CH:Hid (∀ (i:Nat) (_:i<2) (w:World),Calls Tryz.prog 57 #[.agg #[.int .i64 (X i 0),.int .i64 (X i 1),.int .i64 (X i 2),.int .i64 (X i 3)],.agg #[.int .i64 (Y i 0),.int .i64 (Y i 1),.int .i64 (Y i 2),.int .i64 (Y i 3)],.agg #[.int .i64 u0,.int .i64 u1],.int .i64 (E i),.int .i64 (F i)] w fun e w'=>e=.returned (.agg #[.int .i64 (Z i 0),.int .i64 (Z i 1),.int .i64 (Z i 2),.int .i64 (Z i 3)])/\Below w.heap.size w w'))
 (CD:Hid (∀ w:World,Calls Tryz.prog 59 #[.agg #[.int .i64 (Z 0 0),.int .i64 (Z 0 1),.int .i64 (Z 0 2),.int .i64 (Z 0 3)],.agg #[.int .i64 (Z 1 0),.int .i64 (Z 1 1),.int .i64 (Z 1 2),.int .i64 (Z 1 3)],.agg #[.int .i64 v0,.int .i64 v1]] w fun e w'=>e=.returned (.tuple #[.agg #[.int .i64 O0,.int .i64 O1,.int .i64 O2,.int .i64 O3],.int .i64 O4])/\Below w.heap.size w w'))
 (CA:Hid (∀ w:World,Calls Tryz.prog 60 #[.agg #[.int .i64 O2,.int .i64 O3]] w fun e w'=>e=.returned (.bool A)/\Below w.heap.size w w'))
 (CN:Hid (∀ w:World,Calls Tryz.prog 62 #[.agg #[.int .i64 O2,.int .i64 O3]] w fun e w'=>e=.returned (.agg #[.int .i64 N2,.int .i64 N3])/\Below w.heap.size w w'))
 (CT:Hid (∀ w:World,Calls Tryz.prog 61 #[.agg #[.int .i64 N2,.int .i64 N3]] w fun e w'=>e=.returned (.agg #[.int .i64 P2,.int .i64 P3])/\Below w.heap.size w w'))
 : Calls Tryz.prog 13 #[.agg #[.int .i64 a,.int .i64 a,.int .i64 c,.int .i64 d,.int .i64 m,.int .i64 n]] w fun e w'=>e=.returned (.tuple #[.agg #[.int .i64 O0,.int .i64 O1,.int .i64 (if O4=0/\T=true/\A=false then P2 else O2),.int .i64 (if O4=0/\T=true/\A=false then P3 else O3)],.int .i64 O4])/\Below w.heap.size w w':=by
 have L0:Hid (lkL Z 0=[]):=Lib.hid rfl;have LN:Hid (∀ i,lkL Z (i+1)=lkL Z i++[[Z i 0,Z i 1,Z i 2,Z i 3]]):=Lib.hid fun i=>rfl
 have L2:Hid (lkL Z 2=[[Z 0 0,Z 0 1,Z 0 2,Z 0 3],[Z 1 0,Z 1 1,Z 1 2,Z 1 3]]):=Lib.hid rfl;have LE:=Lib.hid (Hm Z);generalize lkL Z=LL at *
 have K0:=Lib.hid (((aC w).new w.heap.size rfl 25 #[.int .i64 a,.int .i64 a,.int .i64 c,.int .i64 d,.int .i64 m,.int .i64 n]).new (w.heap.size+1) (by simp) 28 #[.int .i64 0,.int .i64 0,.int .i64 0,.int .i64 0])
 go_enter Tryz.func13,Tryz.ntmps13;have t0:=K0.out.c (g:=w.heap.size) (t:=25) (cs:=#[.int .i64 a,.int .i64 a,.int .i64 c,.int .i64 d,.int .i64 m,.int .i64 n]) (by simp) (i:=0) rfl;have t1:=K0.out.c (g:=w.heap.size) (t:=25) (cs:=#[.int .i64 a,.int .i64 a,.int .i64 c,.int .i64 d,.int .i64 m,.int .i64 n]) (by simp) (i:=1) rfl;have t4:=K0.out.c (g:=w.heap.size) (t:=25) (cs:=#[.int .i64 a,.int .i64 a,.int .i64 c,.int .i64 d,.int .i64 m,.int .i64 n]) (by simp) (i:=4) rfl;have t5:=K0.out.c (g:=w.heap.size) (t:=25) (cs:=#[.int .i64 a,.int .i64 a,.int .i64 c,.int .i64 d,.int .i64 m,.int .i64 n]) (by simp) (i:=5) rfl
 go_wp2_with fail;refine (CM.out _).mono ?_;rintro e w1 ⟨rfl,hb⟩;have K1:=Lib.hid ((K0.out.below hb).new w1.heap.size rfl 23 #[.int .i64 M0,.int .i64 M1]);clear hb K0 CM t0 t1 t4 t5;have t2:=K1.out.c (g:=w.heap.size) (t:=25) (cs:=#[.int .i64 a,.int .i64 a,.int .i64 c,.int .i64 d,.int .i64 m,.int .i64 n]) (by simp) (i:=2) rfl;have t3:=K1.out.c (g:=w.heap.size) (t:=25) (cs:=#[.int .i64 a,.int .i64 a,.int .i64 c,.int .i64 d,.int .i64 m,.int .i64 n]) (by simp) (i:=3) rfl
 go_wp2_with fail;refine (CJ.out _).mono ?_;rintro e w2 ⟨rfl,hb⟩;have K2:=Lib.hid ((K1.out.below hb).new w2.heap.size rfl 23 #[.int .i64 v0,.int .i64 v1]);clear hb K1 CJ t2 t3;have l0:=K2.out.c (g:=w1.heap.size) (t:=23) (cs:=#[.int .i64 M0,.int .i64 M1]) (by simp) (i:=0) rfl;have l1:=K2.out.c (g:=w1.heap.size) (t:=23) (cs:=#[.int .i64 M0,.int .i64 M1]) (by simp) (i:=1) rfl
 go_wp2_with fail;refine (CK.out _).mono ?_;rintro e w3 ⟨rfl,hb⟩;have K3:=Lib.hid ((K2.out.below hb).new w3.heap.size rfl 23 #[.int .i64 u0,.int .i64 u1]);clear hb K2 CK l0 l1;go_wp2
 have HL:Hid (∀ x∈([(w3.heap.size,23,#[.int .i64 u0,.int .i64 u1]),(w2.heap.size,23,#[.int .i64 v0,.int .i64 v1]),(w.heap.size+1,28,#[.int .i64 0,.int .i64 0,.int .i64 0,.int .i64 0]),(w.heap.size,25,#[.int .i64 a,.int .i64 a,.int .i64 c,.int .i64 d,.int .i64 m,.int .i64 n])]:List (Nat × TypeId × Array Value)),x.1<w3.heap.size+1):=Lib.hid (by
  have q0:=K3.out.lt (g:=w2.heap.size) (t:=23) (cs:=#[.int .i64 v0,.int .i64 v1]) (by simp)
  have q1:=K3.out.lt (g:=w.heap.size+1) (t:=28) (cs:=#[.int .i64 0,.int .i64 0,.int .i64 0,.int .i64 0]) (by simp)
  simp at q0 q1;intro x hx;simp at hx;rcases hx with rfl|rfl|rfl|rfl<;>simp<;>omega)
 replace K3:=Lib.hid (K3.out.sub (l':=[(w3.heap.size,23,#[.int .i64 u0,.int .i64 u1]),(w2.heap.size,23,#[.int .i64 v0,.int .i64 v1]),(w.heap.size+1,28,#[.int .i64 0,.int .i64 0,.int .i64 0,.int .i64 0]),(w.heap.size,25,#[.int .i64 a,.int .i64 a,.int .i64 c,.int .i64 d,.int .i64 m,.int .i64 n])]) (by intro x hx;simp at hx ⊢;rcases hx with rfl|rfl|rfl|rfl<;>simp))
 have HW:Hid (w.heap.size<=w3.heap.size+1):=Lib.hid (by have q0:=K3.out.1.size;simp at q0;omega)
 generalize hW4:w3.alloc _=w4 at *
 have HS4:Hid (w4.heap.size=w3.heap.size+1):=Lib.hid (by rw [<-hW4];simp)
 rw [<-HS4.out] at HL HW;clear hW4;generalize w3.heap.size=B11 at *
 generalize w2.heap.size=B8 at *
 have SB:Hid (∀ wx,KS w wx [(B11,23,#[.int .i64 u0,.int .i64 u1]),(B8,23,#[.int .i64 v0,.int .i64 v1]),(w.heap.size+1,28,#[.int .i64 0,.int .i64 0,.int .i64 0,.int .i64 0]),(w.heap.size,25,#[.int .i64 a,.int .i64 a,.int .i64 c,.int .i64 d,.int .i64 m,.int .i64 n])]->wx.cell? ⟨w.heap.size,0,none⟩=some (.int .i64 a)/\wx.cell? ⟨w.heap.size,1,none⟩=some (.int .i64 a)/\wx.cell? ⟨B11,0,none⟩=some (.int .i64 u0)/\wx.cell? ⟨B11,1,none⟩=some (.int .i64 u1)):=Lib.hid fun wx K=>⟨K.c (g:=w.heap.size) (t:=25) (cs:=#[.int .i64 a,.int .i64 a,.int .i64 c,.int .i64 d,.int .i64 m,.int .i64 n]) (by simp) (i:=0) rfl,K.c (g:=w.heap.size) (t:=25) (cs:=#[.int .i64 a,.int .i64 a,.int .i64 c,.int .i64 d,.int .i64 m,.int .i64 n]) (by simp) (i:=1) rfl,K.c (g:=B11) (t:=23) (cs:=#[.int .i64 u0,.int .i64 u1]) (by simp) (i:=0) rfl,K.c (g:=B11) (t:=23) (cs:=#[.int .i64 u0,.int .i64 u1]) (by simp) (i:=1) rfl⟩
 go_loopw [13,14] (fun q13 q14 wr=>∃ i:Nat,q14=.int .i64 (i:Int)/\i<=2/\gU 4 28 w4.heap.size wr q13 (LL i)/\w4.heap.size<=wr.heap.size/\KS w wr [(B11,23,#[.int .i64 u0,.int .i64 u1]),(B8,23,#[.int .i64 v0,.int .i64 v1]),(w.heap.size+1,28,#[.int .i64 0,.int .i64 0,.int .i64 0,.int .i64 0]),(w.heap.size,25,#[.int .i64 a,.int .i64 a,.int .i64 c,.int .i64 d,.int .i64 m,.int .i64 n])]) (fun _ q14 _=>((2:Int)-intOf q14).toNat)
 case atStart=>exact ⟨0,rfl,by omega,by rw [L0.out];exact gU.nil _ _ _ _,Nat.le_refl _,K3.out⟩
 case round =>
  obtain ⟨i,rfl,hi,ho,hb,hk⟩:=hrel;clear K3;have KI:=Lib.hid hk;have O:=Lib.hid ho;have HB:=Lib.hid hb;clear hk ho hb
  by_cases hl:i<2
  . have hl':(i:Int)<2:=by omega
    have G:=Lib.hid (CG.out i hl);have GE:=Lib.hid (CE.out i hl);have G1:=Lib.hid (C1.out i hl);have G2:=Lib.hid (C2.out i hl);have GH:=Lib.hid (CH.out i hl);have LR:Hid (LL (i+1)=LL i++[[(Z i 0),(Z i 1),(Z i 2),(Z i 3)]]):=Lib.hid (LN.out i);have HSZ:Hid ((LL i).length+1<=1000000):=Lib.hid (by rw [LE.out];omega)
    have hw1:IntKind.i64.wrap (J+(i:Int))=J+(i:Int):=Go.IntWalk.i64_in _ (by omega)
    have hw2:IntKind.i64.wrap (K+1)=K+1:=Go.IntWalk.i64_in _ (by omega)
    have HM4:Hid (∀ x∈([[(Z i 0),(Z i 1),(Z i 2),(Z i 3)]]:Cs),x.length=4):=Lib.hid (by intro x hx;simp at hx;subst hx;rfl)
    clear CG CE C1 C2 CH CD CA CN CT;obtain ⟨s0,s1,s2,s3⟩:=SB.out _ KI.out;replace KI:=Lib.hid KI.out.drew;replace O:=Lib.hid O.out.drew;go_wp2_with fail
    go_region_held3 (fun w'=>w'.cell? ⟨w.heap.size,0,none⟩=some (.int .i64 a)/\w'.cell? ⟨w.heap.size,1,none⟩=some (.int .i64 a)/\w'.cell? ⟨B11,0,none⟩=some (.int .i64 u0)/\w'.cell? ⟨B11,1,none⟩=some (.int .i64 u1))
     (first|(refine ⟨?_,?_,?_,?_⟩<;>assumption)|(refine ⟨?_,?_,?_,?_⟩<;>(apply Lib.cell?_alloc_some;assumption)))
     (first
      | ((go_at_call 56;with_reducible refine (G.out _).mono ?_);rintro r w5 ⟨rfl,hk⟩;replace O:=Lib.hid (O.out.below hk);replace HB:=Lib.hid (Nat.le_trans HB.out hk.size);replace KI:=Lib.hid (KI.out.below hk);clear hk s0 s1 s2 s3;obtain ⟨s0,s1,s2,s3⟩:=SB.out _ KI.out)
      | ((go_at_call 55;with_reducible refine (GE.out _).mono ?_);rintro r w6 ⟨rfl,hk⟩;replace O:=Lib.hid (O.out.below hk);replace HB:=Lib.hid (Nat.le_trans HB.out hk.size);replace KI:=Lib.hid (KI.out.below hk);clear hk s0 s1 s2 s3;obtain ⟨s0,s1,s2,s3⟩:=SB.out _ KI.out))
    go_wp2_with fail;replace KI:=Lib.hid KI.out.drew;replace O:=Lib.hid O.out.drew
    go_region_held3 (fun w'=>w'.cell? ⟨w.heap.size,0,none⟩=some (.int .i64 a)/\w'.cell? ⟨w.heap.size,1,none⟩=some (.int .i64 a)/\w'.cell? ⟨B11,0,none⟩=some (.int .i64 u0)/\w'.cell? ⟨B11,1,none⟩=some (.int .i64 u1))
     (first|(refine ⟨?_,?_,?_,?_⟩<;>assumption)|(refine ⟨?_,?_,?_,?_⟩<;>(apply Lib.cell?_alloc_some;assumption)))
     (first
      | ((go_at_call 58;with_reducible refine (G1.out _).mono ?_);rintro r w7 ⟨rfl,hk⟩;replace O:=Lib.hid (O.out.below hk);replace HB:=Lib.hid (Nat.le_trans HB.out hk.size);replace KI:=Lib.hid (KI.out.below hk);clear hk s0 s1 s2 s3;obtain ⟨s0,s1,s2,s3⟩:=SB.out _ KI.out)
      | ((go_at_call 58;with_reducible refine (G2.out _).mono ?_);rintro r w8 ⟨rfl,hk⟩;replace O:=Lib.hid (O.out.below hk);replace HB:=Lib.hid (Nat.le_trans HB.out hk.size);replace KI:=Lib.hid (KI.out.below hk);clear hk s0 s1 s2 s3;obtain ⟨s0,s1,s2,s3⟩:=SB.out _ KI.out)
      | ((go_at_call 57;with_reducible refine (GH.out _).mono ?_);rintro r w9 ⟨rfl,hk⟩;replace O:=Lib.hid (O.out.below hk);replace HB:=Lib.hid (Nat.le_trans HB.out hk.size);replace KI:=Lib.hid (KI.out.below hk);clear hk s0 s1 s2 s3;obtain ⟨s0,s1,s2,s3⟩:=SB.out _ KI.out)
      | ((refine ui XW rfl _ _ rfl _ w4.heap.size _ (LL i) [[(Z i 0),(Z i 1),(Z i 2),(Z i 3)]] rfl (O.out.alloc _) _ 1 1 rfl rfl (FH _ _ rfl [[(Z i 0),(Z i 1),(Z i 2),(Z i 3)]] #[.int .i64 (Z i 0),.int .i64 (Z i 1),.int .i64 (Z i 2),.int .i64 (Z i 3)] rfl _) HM4.out (Nat.succ_pos _) HSZ.out (Nat.le_trans HB.out (Bw _ _)) ?_);intro q13 w10 OA BA GA EA;replace HB:=Lib.hid (Nat.le_trans (Nat.le_trans HB.out (Bw _ _)) BA.size);replace KI:=Lib.hid ((KI.out.alloc _).upto BA HW.out HL.out);have OF:=Lib.hid OA;clear OA BA GA EA s0 s1 s2 s3;obtain ⟨s0,s1,s2,s3⟩:=SB.out _ KI.out))
    clear O s0 s1 s2 s3;go_wp2;go_light;exact ⟨⟨i+1,by first|rfl|(congr 1;omega)|(simp;omega),by omega,by rw [LR.out];exact OF.out,HB.out,KI.out⟩,by simp only [intOf];omega⟩
  . have hl':¬ (i:Int)<2:=by omega
    obtain rfl:i=2:=by omega
    have O2:Hid (gU 4 28 w4.heap.size wr u13 [[Z 0 0,Z 0 1,Z 0 2,Z 0 3],[Z 1 0,Z 1 1,Z 1 2,Z 1 3]]):=Lib.hid (by rw [<-L2.out];exact O.out)
    obtain ⟨ad1,cap1,rfl,_,_,S1,_⟩:=O2.out.out (by decide)
    rcases S1 with h0|⟨g0,off,rfl,hR⟩
    . cases h0
    . have c0:=hR.at4 0 (by simp)
      have c1:=hR.at4 1 (by simp)
      obtain ⟨x0,x1,x2,x3,e0,p0,p1,p2,p3⟩:=c0;obtain ⟨y0,y1,y2,y3,e1,r0,r1,r2,r3⟩:=c1;simp at e0 e1 p0 p1 p2 p3 r0 r1 r2 r3;obtain ⟨rfl,rfl,rfl,rfl⟩:=e0;obtain ⟨rfl,rfl,rfl,rfl⟩:=e1;have KH:=Lib.hid (KI.out);have m0:=KI.out.c (g:=B8) (t:=23) (cs:=#[.int .i64 v0,.int .i64 v1]) (by simp) (i:=0) rfl;have m1:=KI.out.c (g:=B8) (t:=23) (cs:=#[.int .i64 v0,.int .i64 v1]) (by simp) (i:=1) rfl
      clear CG CE C1 C2 CH O O2 SB HL;go_upto_region 14 with (fail)
      replace KI:=Lib.hid (KI.out.sub (l':=[(B8,23,#[.int .i64 v0,.int .i64 v1]),(w.heap.size+1,28,#[.int .i64 0,.int .i64 0,.int .i64 0,.int .i64 0])]) (by intro x hx;simp at hx ⊢;rcases hx with rfl|rfl<;>simp))
      go_cut [17,18] (fun s17 s18 wx=>s18=.int .i64 O4/\∃ g,s17=.pointer (some ⟨g,0,none⟩)/\w.heap.size+1<g/\KS w wx [(g,28,#[.int .i64 O0,.int .i64 O1,.int .i64 O2,.int .i64 O3]),(w.heap.size+1,28,#[.int .i64 0,.int .i64 0,.int .i64 0,.int .i64 0])])
      case first =>
       have HWR:Hid (w.heap.size+1<wr.heap.size):=Lib.hid (KI.out.lt (g:=w.heap.size+1) (t:=28) (cs:=#[.int .i64 0,.int .i64 0,.int .i64 0,.int .i64 0]) (by simp))
       have KD:Hid (KS w wr.drew _):=Lib.hid KI.out.drew;have p0o:=fun o:Obj=>(Lib.cell?_alloc_some o p0:World.cell? _ _=some (.int .i64 (Z 0 0)));have p1o:=fun o:Obj=>(Lib.cell?_alloc_some o p1:World.cell? _ _=some (.int .i64 (Z 0 1)));have p2o:=fun o:Obj=>(Lib.cell?_alloc_some o p2:World.cell? _ _=some (.int .i64 (Z 0 2)));have p3o:=fun o:Obj=>(Lib.cell?_alloc_some o p3:World.cell? _ _=some (.int .i64 (Z 0 3)));have r0o:=fun o:Obj=>(Lib.cell?_alloc_some o r0:World.cell? _ _=some (.int .i64 (Z 1 0)));have r1o:=fun o:Obj=>(Lib.cell?_alloc_some o r1:World.cell? _ _=some (.int .i64 (Z 1 1)));have r2o:=fun o:Obj=>(Lib.cell?_alloc_some o r2:World.cell? _ _=some (.int .i64 (Z 1 2)));have r3o:=fun o:Obj=>(Lib.cell?_alloc_some o r3:World.cell? _ _=some (.int .i64 (Z 1 3)));have m0o:=fun o:Obj=>(Lib.cell?_alloc_some o m0:World.cell? _ _=some (.int .i64 v0));have m1o:=fun o:Obj=>(Lib.cell?_alloc_some o m1:World.cell? _ _=some (.int .i64 v1))
       go_region_with (first
        | ((go_at_call 59;with_reducible refine (CD.out _).mono ?_);rintro r wm ⟨rfl,hk⟩;(first
         | (have HM:=Lib.hid (Wv (Below.refl wr.heap.size wr).drew hk);have K:=Lib.hid (KD.out.below hk))
         | (have HM:=Lib.hid (Wv (QC (Below.refl wr.heap.size wr)).drew hk);have K:=Lib.hid ((KD.out.new wr.heap.size rfl 28 #[.int .i64 0,.int .i64 0,.int .i64 0,.int .i64 0]).below hk);have n0:=K.out.c (g:=wr.heap.size) (t:=28) (cs:=#[.int .i64 0,.int .i64 0,.int .i64 0,.int .i64 0]) (by simp) (i:=0) rfl;have f0:=K.out.f (g:=wr.heap.size) (t:=28) (cs:=#[.int .i64 0,.int .i64 0,.int .i64 0,.int .i64 0]) (by simp) 0;have n1:=K.out.c (g:=wr.heap.size) (t:=28) (cs:=#[.int .i64 0,.int .i64 0,.int .i64 0,.int .i64 0]) (by simp) (i:=1) rfl;have f1:=K.out.f (g:=wr.heap.size) (t:=28) (cs:=#[.int .i64 0,.int .i64 0,.int .i64 0,.int .i64 0]) (by simp) 1;have n2:=K.out.c (g:=wr.heap.size) (t:=28) (cs:=#[.int .i64 0,.int .i64 0,.int .i64 0,.int .i64 0]) (by simp) (i:=2) rfl;have f2:=K.out.f (g:=wr.heap.size) (t:=28) (cs:=#[.int .i64 0,.int .i64 0,.int .i64 0,.int .i64 0]) (by simp) 2;have n3:=K.out.c (g:=wr.heap.size) (t:=28) (cs:=#[.int .i64 0,.int .i64 0,.int .i64 0,.int .i64 0]) (by simp) (i:=3) rfl;have f3:=K.out.f (g:=wr.heap.size) (t:=28) (cs:=#[.int .i64 0,.int .i64 0,.int .i64 0,.int .i64 0]) (by simp) 3));clear hk))
       all_goals (go_wp2_with fail)
       all_goals go_meet
       all_goals
        have hWr:w.heap.size<=wr.heap.size:=Nat.le_of_lt (Nat.lt_of_succ_lt HWR.out)
        first
         | (have hn:=n0;exact ⟨rfl,wr.heap.size,rfl,HWR.out,ks2 (Aj (Aj (Aj (Aj K.out.1 hWr) hWr) hWr) hWr) (Wi (K.out.2 (wr.heap.size,28,#[.int .i64 0,.int .i64 0,.int .i64 0,.int .i64 0]) (by simp))) (((((K.out.2 (w.heap.size+1,28,#[.int .i64 0,.int .i64 0,.int .i64 0,.int .i64 0]) (by simp)).far (Nat.ne_of_lt HWR.out) _).far (Nat.ne_of_lt HWR.out) _).far (Nat.ne_of_lt HWR.out) _).far (Nat.ne_of_lt HWR.out) _)⟩)
         | exact ⟨rfl,wm.heap.size,rfl,Nat.lt_of_lt_of_le HWR.out HM.out.size,(K.out.new wm.heap.size rfl 28 #[.int .i64 O0,.int .i64 O1,.int .i64 O2,.int .i64 O3]).sub (by intro x hx;simp at hx ⊢;rcases hx with rfl|rfl<;>simp)⟩
      case rest =>
       generalize wc=w5 at *
       obtain ⟨rfl,g,rfl,hg,hK⟩:=hcut;have K5:=Lib.hid hK;have HG:=Lib.hid hg;clear hK hg p0 p1 p2 p3 r0 r1 r2 r3 m0 m1 KI KH CD;have HWG:Hid (w.heap.size<=g/\w.heap.size<=w.heap.size+1/\w.heap.size+1≠g):=Lib.hid (by have:=HG.out;omega)
       have o0:=K5.out.c (g:=g) (t:=28) (cs:=#[.int .i64 O0,.int .i64 O1,.int .i64 O2,.int .i64 O3]) (by simp) (i:=0) rfl;have og0:=K5.out.f (g:=g) (t:=28) (cs:=#[.int .i64 O0,.int .i64 O1,.int .i64 O2,.int .i64 O3]) (by simp) 0;have z0:=K5.out.c (g:=w.heap.size+1) (t:=28) (cs:=#[.int .i64 0,.int .i64 0,.int .i64 0,.int .i64 0]) (by simp) (i:=0) rfl;have zg0:=K5.out.f (g:=w.heap.size+1) (t:=28) (cs:=#[.int .i64 0,.int .i64 0,.int .i64 0,.int .i64 0]) (by simp) 0;have o1:=K5.out.c (g:=g) (t:=28) (cs:=#[.int .i64 O0,.int .i64 O1,.int .i64 O2,.int .i64 O3]) (by simp) (i:=1) rfl;have og1:=K5.out.f (g:=g) (t:=28) (cs:=#[.int .i64 O0,.int .i64 O1,.int .i64 O2,.int .i64 O3]) (by simp) 1;have z1:=K5.out.c (g:=w.heap.size+1) (t:=28) (cs:=#[.int .i64 0,.int .i64 0,.int .i64 0,.int .i64 0]) (by simp) (i:=1) rfl;have zg1:=K5.out.f (g:=w.heap.size+1) (t:=28) (cs:=#[.int .i64 0,.int .i64 0,.int .i64 0,.int .i64 0]) (by simp) 1;have o2:=K5.out.c (g:=g) (t:=28) (cs:=#[.int .i64 O0,.int .i64 O1,.int .i64 O2,.int .i64 O3]) (by simp) (i:=2) rfl;have og2:=K5.out.f (g:=g) (t:=28) (cs:=#[.int .i64 O0,.int .i64 O1,.int .i64 O2,.int .i64 O3]) (by simp) 2;have z2:=K5.out.c (g:=w.heap.size+1) (t:=28) (cs:=#[.int .i64 0,.int .i64 0,.int .i64 0,.int .i64 0]) (by simp) (i:=2) rfl;have zg2:=K5.out.f (g:=w.heap.size+1) (t:=28) (cs:=#[.int .i64 0,.int .i64 0,.int .i64 0,.int .i64 0]) (by simp) 2;have o3:=K5.out.c (g:=g) (t:=28) (cs:=#[.int .i64 O0,.int .i64 O1,.int .i64 O2,.int .i64 O3]) (by simp) (i:=3) rfl;have og3:=K5.out.f (g:=g) (t:=28) (cs:=#[.int .i64 O0,.int .i64 O1,.int .i64 O2,.int .i64 O3]) (by simp) 3;have z3:=K5.out.c (g:=w.heap.size+1) (t:=28) (cs:=#[.int .i64 0,.int .i64 0,.int .i64 0,.int .i64 0]) (by simp) (i:=3) rfl;have zg3:=K5.out.f (g:=w.heap.size+1) (t:=28) (cs:=#[.int .i64 0,.int .i64 0,.int .i64 0,.int .i64 0]) (by simp) 3
       by_cases h4:O4=0
       . subst h4;cases T
         . go_wp2;refine bodyPost_ret (by simp [results,Tryz.results13,go_sem,z0,z1,z2,z3,zg0,zg1,zg2,zg3];try rfl) rfl ⟨by simp [*],by have:=K5.out.1;have:=HWG.out;go_light;go_grown⟩
         . go_wp2_with fail;refine (CA.out _).mono ?_;rintro e w6 ⟨rfl,hb⟩;have K6:=Lib.hid (K5.out.below hb);clear hb o0 og0 z0 zg0 o1 og1 z1 zg1 o2 og2 z2 zg2 o3 og3 z3 zg3;have o0:=K6.out.c (g:=g) (t:=28) (cs:=#[.int .i64 O0,.int .i64 O1,.int .i64 O2,.int .i64 O3]) (by simp) (i:=0) rfl;have og0:=K6.out.f (g:=g) (t:=28) (cs:=#[.int .i64 O0,.int .i64 O1,.int .i64 O2,.int .i64 O3]) (by simp) 0;have z0:=K6.out.c (g:=w.heap.size+1) (t:=28) (cs:=#[.int .i64 0,.int .i64 0,.int .i64 0,.int .i64 0]) (by simp) (i:=0) rfl;have zg0:=K6.out.f (g:=w.heap.size+1) (t:=28) (cs:=#[.int .i64 0,.int .i64 0,.int .i64 0,.int .i64 0]) (by simp) 0;have o1:=K6.out.c (g:=g) (t:=28) (cs:=#[.int .i64 O0,.int .i64 O1,.int .i64 O2,.int .i64 O3]) (by simp) (i:=1) rfl;have og1:=K6.out.f (g:=g) (t:=28) (cs:=#[.int .i64 O0,.int .i64 O1,.int .i64 O2,.int .i64 O3]) (by simp) 1;have z1:=K6.out.c (g:=w.heap.size+1) (t:=28) (cs:=#[.int .i64 0,.int .i64 0,.int .i64 0,.int .i64 0]) (by simp) (i:=1) rfl;have zg1:=K6.out.f (g:=w.heap.size+1) (t:=28) (cs:=#[.int .i64 0,.int .i64 0,.int .i64 0,.int .i64 0]) (by simp) 1;have o2:=K6.out.c (g:=g) (t:=28) (cs:=#[.int .i64 O0,.int .i64 O1,.int .i64 O2,.int .i64 O3]) (by simp) (i:=2) rfl;have og2:=K6.out.f (g:=g) (t:=28) (cs:=#[.int .i64 O0,.int .i64 O1,.int .i64 O2,.int .i64 O3]) (by simp) 2;have z2:=K6.out.c (g:=w.heap.size+1) (t:=28) (cs:=#[.int .i64 0,.int .i64 0,.int .i64 0,.int .i64 0]) (by simp) (i:=2) rfl;have zg2:=K6.out.f (g:=w.heap.size+1) (t:=28) (cs:=#[.int .i64 0,.int .i64 0,.int .i64 0,.int .i64 0]) (by simp) 2;have o3:=K6.out.c (g:=g) (t:=28) (cs:=#[.int .i64 O0,.int .i64 O1,.int .i64 O2,.int .i64 O3]) (by simp) (i:=3) rfl;have og3:=K6.out.f (g:=g) (t:=28) (cs:=#[.int .i64 O0,.int .i64 O1,.int .i64 O2,.int .i64 O3]) (by simp) 3;have z3:=K6.out.c (g:=w.heap.size+1) (t:=28) (cs:=#[.int .i64 0,.int .i64 0,.int .i64 0,.int .i64 0]) (by simp) (i:=3) rfl;have zg3:=K6.out.f (g:=w.heap.size+1) (t:=28) (cs:=#[.int .i64 0,.int .i64 0,.int .i64 0,.int .i64 0]) (by simp) 3
           cases A
           . go_wp2_with fail;refine (CN.out _).mono ?_;rintro e w7 ⟨rfl,hb⟩;have K7:=Lib.hid (K6.out.below hb);clear hb o0 og0 z0 zg0 o1 og1 z1 zg1 o2 og2 z2 zg2 o3 og3 z3 zg3;go_wp2_with fail;refine (CT.out _).mono ?_;rintro e w8 ⟨rfl,hb⟩;have K8:=Lib.hid (K7.out.below hb);clear hb;have o0:=K8.out.c (g:=g) (t:=28) (cs:=#[.int .i64 O0,.int .i64 O1,.int .i64 O2,.int .i64 O3]) (by simp) (i:=0) rfl;have og0:=K8.out.f (g:=g) (t:=28) (cs:=#[.int .i64 O0,.int .i64 O1,.int .i64 O2,.int .i64 O3]) (by simp) 0;have z0:=K8.out.c (g:=w.heap.size+1) (t:=28) (cs:=#[.int .i64 0,.int .i64 0,.int .i64 0,.int .i64 0]) (by simp) (i:=0) rfl;have zg0:=K8.out.f (g:=w.heap.size+1) (t:=28) (cs:=#[.int .i64 0,.int .i64 0,.int .i64 0,.int .i64 0]) (by simp) 0;have o1:=K8.out.c (g:=g) (t:=28) (cs:=#[.int .i64 O0,.int .i64 O1,.int .i64 O2,.int .i64 O3]) (by simp) (i:=1) rfl;have og1:=K8.out.f (g:=g) (t:=28) (cs:=#[.int .i64 O0,.int .i64 O1,.int .i64 O2,.int .i64 O3]) (by simp) 1;have z1:=K8.out.c (g:=w.heap.size+1) (t:=28) (cs:=#[.int .i64 0,.int .i64 0,.int .i64 0,.int .i64 0]) (by simp) (i:=1) rfl;have zg1:=K8.out.f (g:=w.heap.size+1) (t:=28) (cs:=#[.int .i64 0,.int .i64 0,.int .i64 0,.int .i64 0]) (by simp) 1;have o2:=K8.out.c (g:=g) (t:=28) (cs:=#[.int .i64 O0,.int .i64 O1,.int .i64 O2,.int .i64 O3]) (by simp) (i:=2) rfl;have og2:=K8.out.f (g:=g) (t:=28) (cs:=#[.int .i64 O0,.int .i64 O1,.int .i64 O2,.int .i64 O3]) (by simp) 2;have z2:=K8.out.c (g:=w.heap.size+1) (t:=28) (cs:=#[.int .i64 0,.int .i64 0,.int .i64 0,.int .i64 0]) (by simp) (i:=2) rfl;have zg2:=K8.out.f (g:=w.heap.size+1) (t:=28) (cs:=#[.int .i64 0,.int .i64 0,.int .i64 0,.int .i64 0]) (by simp) 2;have o3:=K8.out.c (g:=g) (t:=28) (cs:=#[.int .i64 O0,.int .i64 O1,.int .i64 O2,.int .i64 O3]) (by simp) (i:=3) rfl;have og3:=K8.out.f (g:=g) (t:=28) (cs:=#[.int .i64 O0,.int .i64 O1,.int .i64 O2,.int .i64 O3]) (by simp) 3;have z3:=K8.out.c (g:=w.heap.size+1) (t:=28) (cs:=#[.int .i64 0,.int .i64 0,.int .i64 0,.int .i64 0]) (by simp) (i:=3) rfl;have zg3:=K8.out.f (g:=w.heap.size+1) (t:=28) (cs:=#[.int .i64 0,.int .i64 0,.int .i64 0,.int .i64 0]) (by simp) 3
             have K9:=Lib.hid ((K8.out.set HWG.out.1 (by intro x hx;simp at hx;subst hx;exact HWG.out.2.2) 2 (.int .i64 P2)).set HWG.out.1 (by intro x hx;simp at hx;subst hx;exact HWG.out.2.2) 3 (.int .i64 P3))
             simp at K9;go_upto_region 17 with (fail)
             clear o0 og0 z0 zg0 o1 og1 z1 zg1 o2 og2 z2 zg2 o3 og3 z3 zg3;generalize ((w8.setCell ⟨g,2,none⟩ (.int .i64 P2)).setCell ⟨g,3,none⟩ (.int .i64 P3))=w9 at *
             have o0:=K9.out.c (g:=g) (t:=28) (cs:=#[.int .i64 O0,.int .i64 O1,.int .i64 P2,.int .i64 P3]) (by simp) (i:=0) rfl;have og0:=K9.out.f (g:=g) (t:=28) (cs:=#[.int .i64 O0,.int .i64 O1,.int .i64 P2,.int .i64 P3]) (by simp) 0;have z0:=K9.out.c (g:=w.heap.size+1) (t:=28) (cs:=#[.int .i64 0,.int .i64 0,.int .i64 0,.int .i64 0]) (by simp) (i:=0) rfl;have zg0:=K9.out.f (g:=w.heap.size+1) (t:=28) (cs:=#[.int .i64 0,.int .i64 0,.int .i64 0,.int .i64 0]) (by simp) 0;have o1:=K9.out.c (g:=g) (t:=28) (cs:=#[.int .i64 O0,.int .i64 O1,.int .i64 P2,.int .i64 P3]) (by simp) (i:=1) rfl;have og1:=K9.out.f (g:=g) (t:=28) (cs:=#[.int .i64 O0,.int .i64 O1,.int .i64 P2,.int .i64 P3]) (by simp) 1;have z1:=K9.out.c (g:=w.heap.size+1) (t:=28) (cs:=#[.int .i64 0,.int .i64 0,.int .i64 0,.int .i64 0]) (by simp) (i:=1) rfl;have zg1:=K9.out.f (g:=w.heap.size+1) (t:=28) (cs:=#[.int .i64 0,.int .i64 0,.int .i64 0,.int .i64 0]) (by simp) 1;have o2:=K9.out.c (g:=g) (t:=28) (cs:=#[.int .i64 O0,.int .i64 O1,.int .i64 P2,.int .i64 P3]) (by simp) (i:=2) rfl;have og2:=K9.out.f (g:=g) (t:=28) (cs:=#[.int .i64 O0,.int .i64 O1,.int .i64 P2,.int .i64 P3]) (by simp) 2;have z2:=K9.out.c (g:=w.heap.size+1) (t:=28) (cs:=#[.int .i64 0,.int .i64 0,.int .i64 0,.int .i64 0]) (by simp) (i:=2) rfl;have zg2:=K9.out.f (g:=w.heap.size+1) (t:=28) (cs:=#[.int .i64 0,.int .i64 0,.int .i64 0,.int .i64 0]) (by simp) 2;have o3:=K9.out.c (g:=g) (t:=28) (cs:=#[.int .i64 O0,.int .i64 O1,.int .i64 P2,.int .i64 P3]) (by simp) (i:=3) rfl;have og3:=K9.out.f (g:=g) (t:=28) (cs:=#[.int .i64 O0,.int .i64 O1,.int .i64 P2,.int .i64 P3]) (by simp) 3;have z3:=K9.out.c (g:=w.heap.size+1) (t:=28) (cs:=#[.int .i64 0,.int .i64 0,.int .i64 0,.int .i64 0]) (by simp) (i:=3) rfl;have zg3:=K9.out.f (g:=w.heap.size+1) (t:=28) (cs:=#[.int .i64 0,.int .i64 0,.int .i64 0,.int .i64 0]) (by simp) 3
             go_wp2;refine bodyPost_ret (by simp [results,Tryz.results13,go_sem,z0,z1,z2,z3,zg0,zg1,zg2,zg3];try rfl) rfl ⟨by simp [*],by have:=K9.out.1;have:=HWG.out;go_light;go_grown⟩
           . go_wp2;refine bodyPost_ret (by simp [results,Tryz.results13,go_sem,z0,z1,z2,z3,zg0,zg1,zg2,zg3];try rfl) rfl ⟨by simp [*],by have:=K6.out.1;have:=HWG.out;go_light;go_grown⟩
       . have h4b:(O4==0)=false:=by simpa using h4
         go_wp2;refine bodyPost_ret (by simp [results,Tryz.results13,go_sem,z0,z1,z2,z3,zg0,zg1,zg2,zg3];try rfl) rfl ⟨by simp [*],by have:=K5.out.1;have:=HWG.out;go_light;go_grown⟩
end Go.Proofs.YtdbaccfgkacffaaGreat
namespace Go.Proofs.YtdbaccfgkacffaaGreat
open Go.RowKit Alm Sx
theorem KU (a b c d m n:Int) (w:World) (h:¬ a=b):Calls Tryz.prog 13 #[.agg #[.int .i64 a,.int .i64 b,.int .i64 c,.int .i64 d,.int .i64 m,.int .i64 n]] w fun e w'=>e=.returned (.tuple #[.agg #[.int .i64 0,.int .i64 0,.int .i64 0,.int .i64 0],.int .i64 2])/\Below w.heap.size w w':=by
 have K0:=Lib.hid (((aC w).new w.heap.size rfl 25 #[.int .i64 a,.int .i64 b,.int .i64 c,.int .i64 d,.int .i64 m,.int .i64 n]).new (w.heap.size+1) (by simp) 28 #[.int .i64 0,.int .i64 0,.int .i64 0,.int .i64 0])
 go_enter Tryz.func13,Tryz.ntmps13;have t0:=K0.out.c (g:=w.heap.size) (t:=25) (cs:=#[.int .i64 a,.int .i64 b,.int .i64 c,.int .i64 d,.int .i64 m,.int .i64 n]) (by simp) (i:=0) rfl;have t1:=K0.out.c (g:=w.heap.size) (t:=25) (cs:=#[.int .i64 a,.int .i64 b,.int .i64 c,.int .i64 d,.int .i64 m,.int .i64 n]) (by simp) (i:=1) rfl
 have z0:=K0.out.c (g:=w.heap.size+1) (t:=28) (cs:=#[.int .i64 0,.int .i64 0,.int .i64 0,.int .i64 0]) (by simp) (i:=0) rfl;have zg0:=K0.out.f (g:=w.heap.size+1) (t:=28) (cs:=#[.int .i64 0,.int .i64 0,.int .i64 0,.int .i64 0]) (by simp) 0;have z1:=K0.out.c (g:=w.heap.size+1) (t:=28) (cs:=#[.int .i64 0,.int .i64 0,.int .i64 0,.int .i64 0]) (by simp) (i:=1) rfl;have zg1:=K0.out.f (g:=w.heap.size+1) (t:=28) (cs:=#[.int .i64 0,.int .i64 0,.int .i64 0,.int .i64 0]) (by simp) 1;have z2:=K0.out.c (g:=w.heap.size+1) (t:=28) (cs:=#[.int .i64 0,.int .i64 0,.int .i64 0,.int .i64 0]) (by simp) (i:=2) rfl;have zg2:=K0.out.f (g:=w.heap.size+1) (t:=28) (cs:=#[.int .i64 0,.int .i64 0,.int .i64 0,.int .i64 0]) (by simp) 2;have z3:=K0.out.c (g:=w.heap.size+1) (t:=28) (cs:=#[.int .i64 0,.int .i64 0,.int .i64 0,.int .i64 0]) (by simp) (i:=3) rfl;have zg3:=K0.out.f (g:=w.heap.size+1) (t:=28) (cs:=#[.int .i64 0,.int .i64 0,.int .i64 0,.int .i64 0]) (by simp) 3
 go_wp2;refine bodyPost_ret (by simp [results,Tryz.results13,go_sem,z0,z1,z2,z3,zg0,zg1,zg2,zg3];try rfl) rfl ⟨rfl,by have:=K0.out.1;go_light;go_grown⟩
theorem L8 (a b c d m n:Int) (w:World) (hb:a=b) (h:¬ Int.tmod a 60000=0):Calls Tryz.prog 13 #[.agg #[.int .i64 a,.int .i64 b,.int .i64 c,.int .i64 d,.int .i64 m,.int .i64 n]] w fun e w'=>e=.returned (.tuple #[.agg #[.int .i64 0,.int .i64 0,.int .i64 0,.int .i64 0],.int .i64 2])/\Below w.heap.size w w':=by
 subst hb;have K0:=Lib.hid (((aC w).new w.heap.size rfl 25 #[.int .i64 a,.int .i64 a,.int .i64 c,.int .i64 d,.int .i64 m,.int .i64 n]).new (w.heap.size+1) (by simp) 28 #[.int .i64 0,.int .i64 0,.int .i64 0,.int .i64 0])
 go_enter Tryz.func13,Tryz.ntmps13;have t0:=K0.out.c (g:=w.heap.size) (t:=25) (cs:=#[.int .i64 a,.int .i64 a,.int .i64 c,.int .i64 d,.int .i64 m,.int .i64 n]) (by simp) (i:=0) rfl;have t1:=K0.out.c (g:=w.heap.size) (t:=25) (cs:=#[.int .i64 a,.int .i64 a,.int .i64 c,.int .i64 d,.int .i64 m,.int .i64 n]) (by simp) (i:=1) rfl
 have z0:=K0.out.c (g:=w.heap.size+1) (t:=28) (cs:=#[.int .i64 0,.int .i64 0,.int .i64 0,.int .i64 0]) (by simp) (i:=0) rfl;have zg0:=K0.out.f (g:=w.heap.size+1) (t:=28) (cs:=#[.int .i64 0,.int .i64 0,.int .i64 0,.int .i64 0]) (by simp) 0;have z1:=K0.out.c (g:=w.heap.size+1) (t:=28) (cs:=#[.int .i64 0,.int .i64 0,.int .i64 0,.int .i64 0]) (by simp) (i:=1) rfl;have zg1:=K0.out.f (g:=w.heap.size+1) (t:=28) (cs:=#[.int .i64 0,.int .i64 0,.int .i64 0,.int .i64 0]) (by simp) 1;have z2:=K0.out.c (g:=w.heap.size+1) (t:=28) (cs:=#[.int .i64 0,.int .i64 0,.int .i64 0,.int .i64 0]) (by simp) (i:=2) rfl;have zg2:=K0.out.f (g:=w.heap.size+1) (t:=28) (cs:=#[.int .i64 0,.int .i64 0,.int .i64 0,.int .i64 0]) (by simp) 2;have z3:=K0.out.c (g:=w.heap.size+1) (t:=28) (cs:=#[.int .i64 0,.int .i64 0,.int .i64 0,.int .i64 0]) (by simp) (i:=3) rfl;have zg3:=K0.out.f (g:=w.heap.size+1) (t:=28) (cs:=#[.int .i64 0,.int .i64 0,.int .i64 0,.int .i64 0]) (by simp) 3
 go_wp2;refine bodyPost_ret (by simp [results,Tryz.results13,go_sem,z0,z1,z2,z3,zg0,zg1,zg2,zg3];try rfl) rfl ⟨rfl,by have:=K0.out.1;go_light;go_grown⟩
theorem yD (a c d m n J K M0 M1 u0 u1 v0 v1:Int) (T B1 B2 B3:Bool) (w:World) (ht:Int.tmod a 60000=0) (hB:(B1&&(B2&&B3))=false)
 (CM:Hid (∀ w:World,Calls Tryz.prog 53 #[.agg #[.int .i64 m,.int .i64 n]] w fun e w'=>e=.returned (.tuple #[.agg #[.int .i64 M0,.int .i64 M1],.bool T,.bool B2])/\Below w.heap.size w w'))
 (CJ:Hid (∀ w:World,Calls Tryz.prog 54 #[.agg #[.int .i64 c,.int .i64 d],.int .i64 (-90),.int .i64 90] w fun e w'=>e=.returned (.tuple #[.int .i64 J,.agg #[.int .i64 v0,.int .i64 v1],.bool B1])/\Below w.heap.size w w'))
 (CK:Hid (∀ w:World,Calls Tryz.prog 54 #[.agg #[.int .i64 M0,.int .i64 M1],.int .i64 0,.int .i64 180] w fun e w'=>e=.returned (.tuple #[.int .i64 K,.agg #[.int .i64 u0,.int .i64 u1],.bool B3])/\Below w.heap.size w w'))
 : Calls Tryz.prog 13 #[.agg #[.int .i64 a,.int .i64 a,.int .i64 c,.int .i64 d,.int .i64 m,.int .i64 n]] w fun e w'=>e=.returned (.tuple #[.agg #[.int .i64 0,.int .i64 0,.int .i64 0,.int .i64 0],.int .i64 24])/\Below w.heap.size w w':=by
 have K0:=Lib.hid (((aC w).new w.heap.size rfl 25 #[.int .i64 a,.int .i64 a,.int .i64 c,.int .i64 d,.int .i64 m,.int .i64 n]).new (w.heap.size+1) (by simp) 28 #[.int .i64 0,.int .i64 0,.int .i64 0,.int .i64 0])
 have HB:=Lib.hid hB;clear hB;go_enter Tryz.func13,Tryz.ntmps13;have t0:=K0.out.c (g:=w.heap.size) (t:=25) (cs:=#[.int .i64 a,.int .i64 a,.int .i64 c,.int .i64 d,.int .i64 m,.int .i64 n]) (by simp) (i:=0) rfl;have t1:=K0.out.c (g:=w.heap.size) (t:=25) (cs:=#[.int .i64 a,.int .i64 a,.int .i64 c,.int .i64 d,.int .i64 m,.int .i64 n]) (by simp) (i:=1) rfl;have t4:=K0.out.c (g:=w.heap.size) (t:=25) (cs:=#[.int .i64 a,.int .i64 a,.int .i64 c,.int .i64 d,.int .i64 m,.int .i64 n]) (by simp) (i:=4) rfl;have t5:=K0.out.c (g:=w.heap.size) (t:=25) (cs:=#[.int .i64 a,.int .i64 a,.int .i64 c,.int .i64 d,.int .i64 m,.int .i64 n]) (by simp) (i:=5) rfl
 go_wp2_with fail;refine (CM.out _).mono ?_;rintro e w1 ⟨rfl,hb⟩;have K1:=Lib.hid ((K0.out.below hb).new w1.heap.size rfl 23 #[.int .i64 M0,.int .i64 M1]);clear hb K0 CM t0 t1 t4 t5;have t2:=K1.out.c (g:=w.heap.size) (t:=25) (cs:=#[.int .i64 a,.int .i64 a,.int .i64 c,.int .i64 d,.int .i64 m,.int .i64 n]) (by simp) (i:=2) rfl;have t3:=K1.out.c (g:=w.heap.size) (t:=25) (cs:=#[.int .i64 a,.int .i64 a,.int .i64 c,.int .i64 d,.int .i64 m,.int .i64 n]) (by simp) (i:=3) rfl
 go_wp2_with fail;refine (CJ.out _).mono ?_;rintro e w2 ⟨rfl,hb⟩;have K2:=Lib.hid ((K1.out.below hb).new w2.heap.size rfl 23 #[.int .i64 v0,.int .i64 v1]);clear hb K1 CJ t2 t3;have l0:=K2.out.c (g:=w1.heap.size) (t:=23) (cs:=#[.int .i64 M0,.int .i64 M1]) (by simp) (i:=0) rfl;have l1:=K2.out.c (g:=w1.heap.size) (t:=23) (cs:=#[.int .i64 M0,.int .i64 M1]) (by simp) (i:=1) rfl
 go_wp2_with fail;refine (CK.out _).mono ?_;rintro e w3 ⟨rfl,hb⟩;have K3:=Lib.hid ((K2.out.below hb).new w3.heap.size rfl 23 #[.int .i64 u0,.int .i64 u1]);clear hb K2 CK l0 l1;have hne:=K3.out.lt (g:=w.heap.size+1) (t:=28) (cs:=#[.int .i64 0,.int .i64 0,.int .i64 0,.int .i64 0]) (by simp)
 have z0:=K3.out.c (g:=w.heap.size+1) (t:=28) (cs:=#[.int .i64 0,.int .i64 0,.int .i64 0,.int .i64 0]) (by simp) (i:=0) rfl;have zg0:=K3.out.f (g:=w.heap.size+1) (t:=28) (cs:=#[.int .i64 0,.int .i64 0,.int .i64 0,.int .i64 0]) (by simp) 0;have z1:=K3.out.c (g:=w.heap.size+1) (t:=28) (cs:=#[.int .i64 0,.int .i64 0,.int .i64 0,.int .i64 0]) (by simp) (i:=1) rfl;have zg1:=K3.out.f (g:=w.heap.size+1) (t:=28) (cs:=#[.int .i64 0,.int .i64 0,.int .i64 0,.int .i64 0]) (by simp) 1;have z2:=K3.out.c (g:=w.heap.size+1) (t:=28) (cs:=#[.int .i64 0,.int .i64 0,.int .i64 0,.int .i64 0]) (by simp) (i:=2) rfl;have zg2:=K3.out.f (g:=w.heap.size+1) (t:=28) (cs:=#[.int .i64 0,.int .i64 0,.int .i64 0,.int .i64 0]) (by simp) 2;have z3:=K3.out.c (g:=w.heap.size+1) (t:=28) (cs:=#[.int .i64 0,.int .i64 0,.int .i64 0,.int .i64 0]) (by simp) (i:=3) rfl;have zg3:=K3.out.f (g:=w.heap.size+1) (t:=28) (cs:=#[.int .i64 0,.int .i64 0,.int .i64 0,.int .i64 0]) (by simp) 3
 cases B1
 . go_wp2;refine bodyPost_ret (by simp [results,Tryz.results13,go_sem,z0,z1,z2,z3,zg0,zg1,zg2,zg3];try rfl) rfl ⟨rfl,by have:=K3.out.1;go_light;go_grown⟩
 . cases B2
   . go_wp2;refine bodyPost_ret (by simp [results,Tryz.results13,go_sem,z0,z1,z2,z3,zg0,zg1,zg2,zg3];try rfl) rfl ⟨rfl,by have:=K3.out.1;go_light;go_grown⟩
   . cases B3
     . go_wp2;refine bodyPost_ret (by simp [results,Tryz.results13,go_sem,z0,z1,z2,z3,zg0,zg1,zg2,zg3];try rfl) rfl ⟨rfl,by have:=K3.out.1;go_light;go_grown⟩
     . exact absurd HB.out (by decide)
theorem Zu {a0 a1 a2 a3 b0 b1 b2 b3 u v:Int} (h:(dcV a0 a1 a2 a3 b0 b1 b2 b3 u v).getD 4 0≠0):dcV a0 a1 a2 a3 b0 b1 b2 b3 u v=[0,0,0,0,24]:=by
 unfold dcV at h ⊢
 split
 . rfl
 . rename_i q
   rw [if_neg q] at h;exact absurd rfl h
theorem Yi {a0 a1 a2 a3 b0 b1 b2 b3 u v:Int} (h4:(dcV a0 a1 a2 a3 b0 b1 b2 b3 u v).getD 4 0=0) (h:(dcV a0 a1 a2 a3 b0 b1 b2 b3 u v).getD 3 0-(dcV a0 a1 a2 a3 b0 b1 b2 b3 u v).getD 2 0>=21600000):(dcV a0 a1 a2 a3 b0 b1 b2 b3 u v).getD 2 0=0/\(dcV a0 a1 a2 a3 b0 b1 b2 b3 u v).getD 3 0=21600000:=by
 unfold dcV at h4 h ⊢
 split
 . rename_i q
   rw [if_pos q] at h4;exact absurd h4 (by decide)
 . rename_i q
   rw [if_neg q] at h;have h':dcH a2 a3 b2 b3-dcL a2 a3 b2 b3>=21600000:=h;show dcL a2 a3 b2 b3=0/\dcH a2 a3 b2 b3=21600000;unfold dcL dcH trL trH at *
   generalize dcW a2 a3 b2 b3=w at *
   generalize dcF a2 a3 b2 b3=f at *
   by_cases q1:dcB a2 a3 b2 b3
   . rw [if_pos q1,if_pos q1];exact ⟨rfl,rfl⟩
   . rw [if_neg q1,if_neg q1] at h' ⊢
     by_cases q2:w<10800000
     . rw [if_pos q2,if_pos q2,if_neg (by omega),if_neg (by omega)] at h'
       omega
     . rw [if_neg q2,if_neg q2];exact ⟨rfl,rfl⟩
def lk5 (l:List Int):Value:=.tuple #[.agg #[.int .i64 (l.getD 0 0),.int .i64 (l.getD 1 0),.int .i64 (l.getD 2 0),.int .i64 (l.getD 3 0)],.int .i64 (l.getD 4 0)]
theorem Ve (a b c d m n:Int) (w:World) (h:dI a b c d m n):Calls Tryz.prog 13 #[.agg #[.int .i64 a,.int .i64 b,.int .i64 c,.int .i64 d,.int .i64 m,.int .i64 n]] w fun e w'=>e=.returned (lk5 (lkV a b c d m n))/\Below w.heap.size w w':=by
 obtain ⟨ha,hc,hm⟩:=h;unfold lkV
 by_cases hP:a≠b∨Int.tmod a 60000≠0
 . rw [if_pos hP]
   by_cases hb:a=b
   . exact L8 a b c d m n w hb (hP.elim (fun q=>absurd hb q) id)
   . exact KU a b c d m n w hb
 . rw [if_neg hP];have hb:a=b:=Decidable.byContradiction fun q=>hP (.inl q)
   have ht:Int.tmod a 60000=0:=Decidable.byContradiction fun q=>hP (.inr q)
   subst hb;clear hP;have TB:=xE hm.2.1
   have MB:(-50000000<=dP m n/\dP m n<=50000000)/\(-50000000<=gJ m n/\gJ m n<=50000000):=by
    unfold dP gJ;split<;>omega
   have CM:=fun w=>SF m n w hm
   have CJ:=fun w=>Dc c d (-90) 90 w (by omega) (by omega) (by omega) (by omega)
   have CK:=fun w=>Dc (dP m n) (gJ m n) 0 180 w (by omega) (by omega) (by omega) (by omega)
   rw [(H9 hc).2,(H9 hc).1] at CJ
   by_cases hS:jT m n
   . rw [if_pos hS];have d1:decide (¬ jT m n)=false:=decide_eq_false (fun q=>q hS)
     rw [d1] at CM;exact yD a c d m n _ _ _ _ _ _ _ _ _ _ _ _ w ht (by simp) (Lib.hid CM) (Lib.hid CJ) (Lib.hid CK)
   . rw [if_neg hS];have d1:decide (¬ jT m n)=true:=decide_eq_true hS;rw [d1] at CM;rw [(Hw hm.2.1 hS).2,(Hw hm.2.1 hS).1] at CK
     by_cases hO:pY c d/\l8 m n
     . rw [if_pos hO];rw [decide_eq_true hO.1] at CJ;rw [decide_eq_true hO.2] at CK;obtain ⟨⟨j1,j2,j3⟩,⟨k1,k2,k3⟩⟩:=hO;have j4:lkJ c<=89:=by unfold lkJ;omega
       have k4:lkK m n<=179:=by unfold lkK;omega
       have uo:dP m n<=gJ m n:=by unfold dP gJ;split<;>omega
       generalize hT:decide (lkM m n)=T at *
       generalize lkJ c=J at *
       generalize lkK m n=K at *
       generalize dP m n=M0 at *
       generalize gJ m n=M1 at *
       have PB:=fun D1 D2=>Pf a a J K (u0:=M0-K*60000) (u1:=M1-K*60000) (v0:=c-J*60000) (v1:=d-J*60000) (by omega) (by omega) (by omega) (by omega) D1 D2
       have OB:=WG (PB (J*60000) ((J+1)*60000));have OE:=fun q=>Zu (a0:=lkR a a (J*60000) K (K*60000) ((K+1)*60000) (M0-K*60000) (M1-K*60000) 0) (a1:=lkR a a (J*60000) K (K*60000) ((K+1)*60000) (M0-K*60000) (M1-K*60000) 1) (a2:=lkR a a (J*60000) K (K*60000) ((K+1)*60000) (M0-K*60000) (M1-K*60000) 2) (a3:=lkR a a (J*60000) K (K*60000) ((K+1)*60000) (M0-K*60000) (M1-K*60000) 3) (b0:=lkR a a ((J+1)*60000) K (K*60000) ((K+1)*60000) (M0-K*60000) (M1-K*60000) 0) (b1:=lkR a a ((J+1)*60000) K (K*60000) ((K+1)*60000) (M0-K*60000) (M1-K*60000) 1) (b2:=lkR a a ((J+1)*60000) K (K*60000) ((K+1)*60000) (M0-K*60000) (M1-K*60000) 2) (b3:=lkR a a ((J+1)*60000) K (K*60000) ((K+1)*60000) (M0-K*60000) (M1-K*60000) 3) (u:=c-J*60000) (v:=d-J*60000) q
       have CD:∀ w:World,Calls Tryz.prog 59 #[.agg #[.int .i64 (lkR a a ((J+((0:Nat):Int))*60000) K (K*60000) ((K+1)*60000) (M0-K*60000) (M1-K*60000) 0),.int .i64 (lkR a a ((J+((0:Nat):Int))*60000) K (K*60000) ((K+1)*60000) (M0-K*60000) (M1-K*60000) 1),.int .i64 (lkR a a ((J+((0:Nat):Int))*60000) K (K*60000) ((K+1)*60000) (M0-K*60000) (M1-K*60000) 2),.int .i64 (lkR a a ((J+((0:Nat):Int))*60000) K (K*60000) ((K+1)*60000) (M0-K*60000) (M1-K*60000) 3)],.agg #[.int .i64 (lkR a a ((J+((1:Nat):Int))*60000) K (K*60000) ((K+1)*60000) (M0-K*60000) (M1-K*60000) 0),.int .i64 (lkR a a ((J+((1:Nat):Int))*60000) K (K*60000) ((K+1)*60000) (M0-K*60000) (M1-K*60000) 1),.int .i64 (lkR a a ((J+((1:Nat):Int))*60000) K (K*60000) ((K+1)*60000) (M0-K*60000) (M1-K*60000) 2),.int .i64 (lkR a a ((J+((1:Nat):Int))*60000) K (K*60000) ((K+1)*60000) (M0-K*60000) (M1-K*60000) 3)],.agg #[.int .i64 (c-J*60000),.int .i64 (d-J*60000)]] w fun e w'=>e=.returned (lk5 (lkC a a J K (M0-K*60000) (M1-K*60000) (c-J*60000) (d-J*60000)))/\Below w.heap.size w w':=by
        intro w;rw [show J+((0:Nat):Int)=J by simp,show J+((1:Nat):Int)=J+1 by simp]
        exact XQ _ _ _ _ _ _ _ _ _ _ w (PB _ _)
       have AL:=Yi (a0:=lkR a a (J*60000) K (K*60000) ((K+1)*60000) (M0-K*60000) (M1-K*60000) 0) (a1:=lkR a a (J*60000) K (K*60000) ((K+1)*60000) (M0-K*60000) (M1-K*60000) 1) (a2:=lkR a a (J*60000) K (K*60000) ((K+1)*60000) (M0-K*60000) (M1-K*60000) 2) (a3:=lkR a a (J*60000) K (K*60000) ((K+1)*60000) (M0-K*60000) (M1-K*60000) 3) (b0:=lkR a a ((J+1)*60000) K (K*60000) ((K+1)*60000) (M0-K*60000) (M1-K*60000) 0) (b1:=lkR a a ((J+1)*60000) K (K*60000) ((K+1)*60000) (M0-K*60000) (M1-K*60000) 1) (b2:=lkR a a ((J+1)*60000) K (K*60000) ((K+1)*60000) (M0-K*60000) (M1-K*60000) 2) (b3:=lkR a a ((J+1)*60000) K (K*60000) ((K+1)*60000) (M0-K*60000) (M1-K*60000) 3) (u:=c-J*60000) (v:=d-J*60000);have LC:dcV (lkR a a (J*60000) K (K*60000) ((K+1)*60000) (M0-K*60000) (M1-K*60000) 0) (lkR a a (J*60000) K (K*60000) ((K+1)*60000) (M0-K*60000) (M1-K*60000) 1) (lkR a a (J*60000) K (K*60000) ((K+1)*60000) (M0-K*60000) (M1-K*60000) 2) (lkR a a (J*60000) K (K*60000) ((K+1)*60000) (M0-K*60000) (M1-K*60000) 3) (lkR a a ((J+1)*60000) K (K*60000) ((K+1)*60000) (M0-K*60000) (M1-K*60000) 0) (lkR a a ((J+1)*60000) K (K*60000) ((K+1)*60000) (M0-K*60000) (M1-K*60000) 1) (lkR a a ((J+1)*60000) K (K*60000) ((K+1)*60000) (M0-K*60000) (M1-K*60000) 2) (lkR a a ((J+1)*60000) K (K*60000) ((K+1)*60000) (M0-K*60000) (M1-K*60000) 3) (c-J*60000) (d-J*60000)=lkC a a J K (M0-K*60000) (M1-K*60000) (c-J*60000) (d-J*60000):=rfl;rw [LC] at OB OE AL;generalize lkC a a J K (M0-K*60000) (M1-K*60000) (c-J*60000) (d-J*60000)=O at *
       have CA:=fun w=>KX (O.getD 2 0) (O.getD 3 0) w (by omega) (by omega)
       have CN:=fun w=>Vb (O.getD 2 0) (O.getD 3 0) w (by omega) (by omega)
       have CT:=fun w=>NU (-(O.getD 3 0)) (-(O.getD 2 0)) w (by omega) (by omega)
       refine (Lv a c d m n J K M0 M1 (M0-K*60000) (M1-K*60000) (c-J*60000) (d-J*60000) (O.getD 0 0) (O.getD 1 0) (O.getD 2 0) (O.getD 3 0) (O.getD 4 0) _ _ _ _ T _ (fun i k=>lkI a a ((J+(i:Int))*60000) (K*60000) k) (fun i k=>lkI a a ((J+(i:Int))*60000) ((K+1)*60000) k) (fun i k=>lkR a a ((J+(i:Int))*60000) K (K*60000) ((K+1)*60000) (M0-K*60000) (M1-K*60000) k) (fun i=>(wrV a a ((J+(i:Int))*60000) ((J+(i:Int))*60000) K).getD 0 0) (fun i=>(wrV a a ((J+(i:Int))*60000) ((J+(i:Int))*60000) K).getD 1 0) w ht ⟨by omega,by omega⟩ ⟨by omega,by omega⟩ (Lib.hid CM) (Lib.hid CJ) (Lib.hid CK) (Lib.hid fun i hi w=>Wn _ w (by omega)) (Lib.hid fun i hi w=>Lj _ _ _ _ _ w ⟨by omega,by omega,by omega⟩ ⟨by omega,by omega,by omega⟩ ⟨by omega,by omega⟩) (Lib.hid fun i hi w=>Cf _ _ _ _ w ⟨by omega,by omega,by omega⟩ (by omega) (by omega)) (Lib.hid fun i hi w=>Cf _ _ _ _ w ⟨by omega,by omega,by omega⟩ (by omega) (by omega)) (Lib.hid fun i hi w=>UW _ _ _ _ _ _ _ _ _ _ _ _ w (xn (fD _ _ _ _) (fD _ _ _ _) (jy _ _ _ _).1 (jy _ _ _ _).2 (by omega) (by omega)).1) (Lib.hid CD) (Lib.hid CA) (Lib.hid CN) (Lib.hid CT)).mono ?_
       rintro e w' ⟨he,hb⟩;refine ⟨?_,hb⟩;rw [he]
       by_cases h4:O.getD 4 0=0
       . have EF:lkF O (lkM m n)=[O.getD 0 0,O.getD 1 0,if lkM m n then trL (-(O.getD 3 0)) (-(O.getD 2 0)) else O.getD 2 0,if lkM m n then trH (-(O.getD 3 0)) (-(O.getD 2 0)) else O.getD 3 0,0]:=if_neg (fun q=>q h4)
         rw [EF];subst hT;have AL':=AL h4;clear OE AL EF CA CN CT CD;unfold lk5;generalize O.getD 0 0=o0 at *
         generalize O.getD 1 0=o1 at *
         generalize O.getD 2 0=o2 at *
         generalize O.getD 3 0=o3 at *
         generalize O.getD 4 0=o4 at *
         subst h4
         by_cases hM:lkM m n
         . by_cases hA:o3-o2>=21600000
           . obtain ⟨x2,x3⟩:=AL' hA;subst x2 x3;simp [hM,trL,trH]
           . simp [hM,hA]
         . simp [hM]
       . have EF:lkF O (lkM m n)=[0,0,0,0,O.getD 4 0]:=if_pos h4;rw [EF];have E:=OE h4;clear OE AL EF CA CN CT CD;subst E;simp [lk5]
     . rw [if_neg hO];refine yD a c d m n _ _ _ _ _ _ _ _ _ _ _ _ w ht ?_ (Lib.hid CM) (Lib.hid CJ) (Lib.hid CK)
       by_cases q1:pY c d
       . have q2:¬ l8 m n:=fun q=>hO ⟨q1,q⟩
         simp [q1,q2]
       . simp [q1]
