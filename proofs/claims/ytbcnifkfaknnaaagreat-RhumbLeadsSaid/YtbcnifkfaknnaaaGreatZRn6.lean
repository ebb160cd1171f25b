/- Package rhumb's sine. -/
import Derived.Test.YtbcnifkfaknnaaaGreatZRn1
set_option linter.unusedVariables false
set_option linter.unusedSimpArgs false
set_option maxRecDepth 100000
set_option maxHeartbeats 4000000
namespace Go.Proofs.YtbcnifkfaknnaaaGreat
open Go.RowKit Alm
def Zz (Y R:Nat) (w:World) (b4:Nat) (v7 v8:Value) (wr:World):Prop :=
 ∃ (f T k P M b7:Nat),v7=.pointer (some ⟨b7,0,none⟩)/\v8=.int .u64 (k:Int)/\okS f Y T k P M=true/\xk f Y T k P M=R/\k+4*f=242/\0<k/\T<W/\P<W/\M<W /\
  KS w wr [(b7,80,nv (T)),(b4+1,80,nv (P)),(b4+1+1,80,nv (M)),(b4,80,nv (Y)),(w.heap.size,80,nv (0))]/\b4+1+1<b7/\w.heap.size<b4
theorem KT (n:Nat) (hn:n<=5400000) (h:yc n=true) (w:World):Calls Tryz.prog 54 #[.int .i64 (n:Int)] w fun e w'=>e=.returned (.agg #[.int .u64 (nl (bL n) 3),.int .u64 (nl (bL n) 2),.int .u64 (nl (bL n) 1),.int .u64 (nl (bL n) 0)])/\Below w.heap.size w w':=by
 have H:Hid (n*PiA<W/\aY n*aY n<2^448/\aC (aY n) (aY n)<W/\okS 60 (aC (aY n) (aY n)) (aY n) 2 0 0=true):=by
  unfold yc at h;simp only [Bool.and_eq_true,decide_eq_true_eq] at h;exact ⟨h.1.1.1,h.1.1.2,h.1.2,h.2⟩
 clear h;have hR:Hid (aY n<W):=Lib.hid (by have h:=H.out.1;unfold aY;exact Nat.lt_of_le_of_lt (Nat.div_le_self _ _) h)
 have C1:=fun w=>Lx PiA (n:Int) Nb (by unfold U64;omega) (by rw [Int.toNat_natCast,Nat.mul_comm];exact H.out.1) w
 rw [Int.toNat_natCast,Nat.mul_comm] at C1;replace C1:=Lib.hid C1;have C2:=fun w=>mD (n*PiA) 10800000 H.out.1 (by unfold U64;omega) (by omega) w
 rw [show n*PiA/(10800000:Int).toNat=aY n from by unfold aY;rfl] at C2
 replace C2:=Lib.hid C2;have C3:=Lib.hid (fun w=>lN (aY n) (aY n) hR.out hR.out H.out.2.1 w)
 have hF:xk 60 (aC (aY n) (aY n)) (aY n) 2 0 0=bL n:=by unfold bL;rfl
 obtain ⟨H1,H2,H3,H4⟩:=H.out;clear H;generalize bL n=R at *
 have HX:=hR.out;clear hR;generalize aY n=x at *
 generalize aC x x=Y at *
 generalize n*PiA=np at *
 have HF:=Lib.hid hF;have HO:=Lib.hid H4;have HY:=Lib.hid H3;replace HX:=Lib.hid HX;clear hF H1 H2 H3 H4;have K0:=Lib.hid ((fB w).new w.heap.size rfl 80 (nv 0));go_enter Tryz.func54,Tryz.ntmps54;go_wp2_with fail;refine (RP _).mono ?_;rintro e w1 ⟨rfl,hb1⟩;have K1:=Lib.hid (K0.out.below hb1);clear hb1 K0;go_wp2_with fail;refine (C1.out _).mono ?_;rintro e w2 ⟨rfl,hb2⟩;have K2:=Lib.hid (K1.out.below hb2);clear hb2 K1 C1;go_wp2_with fail;refine (C2.out _).mono ?_;rintro e w3 ⟨rfl,hb3⟩;have K3:=Lib.hid ((K2.out.below hb3).new w3.heap.size rfl 80 (nv x));clear hb3 K2 C2;obtain ⟨⟨q0,q1,q2,q3⟩,_⟩:=K3.out.n4 (g:=w3.heap.size) (A:=x) (t:=80) (by simp)
 go_wp2_with fail;refine (C3.out _).mono ?_;rintro e w4 ⟨rfl,hb4⟩;have K4:=Lib.hid (K3.out.below hb4);clear hb4 q0 q1 q2 q3 K3 C3;have QA:∀ o1 o2 o3:Obj,_:=fun o1 o2 o3=>(((((K4.out.alloc o1).alloc o2).alloc o3).n4 (g:=w3.heap.size) (A:=x) (t:=80) (by simp)).1)
 have Q0:=fun o1 o2 o3=>(QA o1 o2 o3).1
 have Q1:=fun o1 o2 o3=>(QA o1 o2 o3).2.1
 have Q2:=fun o1 o2 o3=>(QA o1 o2 o3).2.2.1
 have Q3:=fun o1 o2 o3=>(QA o1 o2 o3).2.2.2
 clear QA;have S1:Hid (w.heap.size<w4.heap.size):=Lib.hid (K4.out.lt (g:=w.heap.size) (t:=80) (cs:=nv 0) (by simp))
 have K5:=Lib.hid ((((K4.out.new (w4.heap.size) rfl 80 (nv Y)).new (w4.heap.size+1) (by simp) 80 (nv 0)).new (w4.heap.size+1+1) (by simp) 80 (nv 0)).new (w4.heap.size+1+1+1) (by simp) 80 (nv x))
 clear K4;go_wp2;clear Q0 Q1 Q2 Q3;go_loopw [7,8] (fun v7 v8 wr=>Zz Y R w w4.heap.size v7 v8 wr) (fun _ v8 _=>(242-intOf v8).toNat)
 case atStart =>
  exact ⟨60,x,2,0,0,w4.heap.size+1+1+1,rfl,rfl,HO.out,HF.out,by omega,by omega,HX.out,by unfold W;decide +kernel,by unfold W;decide +kernel,K5.out.sub (by intro p hp;simp at hp ⊢;rcases hp with rfl|rfl|rfl|rfl|rfl<;>simp),by omega,S1.out⟩
 case round =>
  obtain ⟨f,T,k,P,M,b7,rfl,rfl,hok,hR,hk,hk0,hT,hP,hM,hK,n1,n2⟩:=hrel;have KA:=Lib.hid hK;clear hK K5;have AN:=fun w=>FP w T hT
  obtain ⟨⟨t0,t1,t2,t3⟩,tf0,tf1,tf2,tf3⟩:=KA.out.n4 (g:=b7) (A:=T) (t:=80) (by simp)
  by_cases hz:T=0
  . subst hz;have FIN:Hid (P-M=R/\M<=P):=Lib.hid (by cases f<;>simp [xk] at hR<;>simp [okS] at hok<;>exact ⟨hR,hok⟩)
    simp only [decide_true,Bool.not_true] at AN;clear hok hR;obtain ⟨⟨s0,s1,s2,s3⟩,_⟩:=KA.out.n4 (g:=w4.heap.size+1) (A:=P) (t:=80) (by simp)
    obtain ⟨⟨m0,m1,m2,m3⟩,_⟩:=KA.out.n4 (g:=w4.heap.size+1+1) (A:=M) (t:=80) (by simp)
    have D1:=Lib.hid (fun w=>jI P M hP FIN.out.2 w)
    go_wp2_with fail;refine (D1.out _).mono ?_;rintro e w5 ⟨rfl,hb5⟩;have KB:=Lib.hid (KA.out.below hb5);clear hb5 KA t0 t1 t2 t3 tf0 tf1 tf2 tf3 s0 s1 s2 s3 m0 m1 m2 m3;obtain ⟨⟨r0,r1,r2,r3⟩,rf0,rf1,rf2,rf3⟩:=KB.out.n4 (g:=w.heap.size) (A:=0) (t:=80) (by simp)
    have HB:=Lib.hid KB.out.1;go_wp2;refine bodyPost_ret (v:=.agg #[.int .u64 (nl (P-M) 3),.int .u64 (nl (P-M) 2),.int .u64 (nl (P-M) 1),.int .u64 (nl (P-M) 0)]) (by simp [results,Tryz.results54,go_sem,r0,r1,r2,r3]) rfl ⟨by rw [FIN.out.1],by have:=HB.out;go_light;go_grown⟩
  . cases f with
    | zero=>simp [okS] at hok;exact absurd hok.1 hz
    | succ f =>
     simp only [okS,if_neg hz,Bool.and_eq_true,decide_eq_true_eq] at hok;obtain ⟨⟨⟨⟨⟨⟨ok1,ok2⟩,ok3⟩,ok4⟩,ok5⟩,ok6⟩,ok7⟩:=hok;simp only [xk,if_neg hz] at hR;simp only [hz,decide_false,Bool.not_false] at AN;have hD:∃ D:Nat,D=k*(k+1)/\0<D/\D<=242*243:=⟨_,rfl,Nat.mul_pos hk0 (by omega),Nat.mul_le_mul (by omega) (by omega)⟩
     have hE:∃ E:Nat,E=(k+2)*(k+3)/\0<E/\E<=244*245:=⟨_,rfl,Nat.mul_pos (by omega) (by omega),Nat.mul_le_mul (by omega) (by omega)⟩
     obtain ⟨D,hD,hD0,hD1⟩:=hD;obtain ⟨E,hE,hE0,hE1⟩:=hE;rw [<-hD] at ok3 ok4 ok6 ok7 hR;rw [<-hE] at ok7 hR
     have eD:IntKind.u64.wrap ((k:Int)*((k:Int)+1))=(D:Int):=by
      have e:(k:Int)*((k:Int)+1)=(D:Int):=by rw [hD,Int.natCast_mul];rfl
      rw [e];exact w64 _ (by unfold U64;omega)
     have eE:IntKind.u64.wrap (((k:Int)+2)*((k:Int)+3))=(E:Int):=by
      have e:((k:Int)+2)*((k:Int)+3)=(E:Int):=by rw [hE,Int.natCast_mul];rfl
      rw [e];exact w64 _ (by unfold U64;omega)
     have e4:IntKind.u64.wrap ((k:Int)+4)=((k+4:Nat):Int):=by rw [w64 _ (by unfold U64;omega)];rfl
     clear hD hE;have D1:=Lib.hid (fun w=>jf P T ok5 w)
     have D2:=Lib.hid (fun w=>lN T Y hT HY.out ok1 w)
     have D3:=fun w=>mD (aC T Y) (D:Int) ok2 (by unfold U64;omega) (by omega) w
     rw [Int.toNat_natCast] at D3;replace D3:=Lib.hid D3;generalize aC T Y=A1 at *
     have hT1:A1/D<W:=Nat.lt_of_le_of_lt (Nat.div_le_self _ _) ok2;generalize A1/D=T1 at *
     have D4:=Lib.hid (fun w=>jf M T1 ok6 w)
     have D5:=Lib.hid (fun w=>lN T1 Y hT1 HY.out ok3 w)
     have D6:=fun w=>mD (aC T1 Y) (E:Int) ok4 (by unfold U64;omega) (by omega) w
     rw [Int.toNat_natCast] at D6;replace D6:=Lib.hid D6;generalize aC T1 Y=A2 at *
     have hT2:A2/E<W:=Nat.lt_of_le_of_lt (Nat.div_le_self _ _) ok4;generalize A2/E=T2 at *
     have HH:=Lib.hid (And.intro hR (And.intro ok7 (And.intro hT2 (And.intro ok5 ok6))));clear hR ok1 ok2 ok3 ok4 ok5 ok6 ok7 hT1 hT2;obtain ⟨⟨s0,s1,s2,s3⟩,sf0,sf1,sf2,sf3⟩:=KA.out.n4 (g:=w4.heap.size+1) (A:=P) (t:=80) (by simp)
     go_wp2_with fail;refine (D1.out _).mono ?_;rintro e w5 ⟨rfl,hb5⟩;have KB:=Lib.hid (KA.out.below hb5);clear hb5 KA D1 t0 t1 t2 t3 tf0 tf1 tf2 tf3 s0 s1 s2 s3 sf0 sf1 sf2 sf3;obtain ⟨_,sf0,sf1,sf2,sf3⟩:=KB.out.n4 (g:=w4.heap.size+1) (A:=P) (t:=80) (by simp)
     have KC:=Lib.hid (fQ (t:=80) (l':=[(b7,80,nv (T)),(w4.heap.size+1+1,80,nv (M)),(w4.heap.size,80,nv (Y)),(w.heap.size,80,nv (0))]) KB.out (g:=w4.heap.size+1) (A:=P) (by simp) (by omega) (by intro p hp;simp at hp;rcases hp with rfl|rfl|rfl|rfl<;>(simp only [];omega)) (by intro p hp;simp at hp ⊢;rcases hp with rfl|rfl|rfl|rfl<;>simp) (P+T))
     obtain ⟨⟨t0,t1,t2,t3⟩,_⟩:=KC.out.n4 (g:=b7) (A:=T) (t:=80) (by simp)
     obtain ⟨⟨y0,y1,y2,y3⟩,_⟩:=KC.out.n4 (g:=w4.heap.size) (A:=Y) (t:=80) (by simp)
     go_wp2_with fail;refine (D2.out _).mono ?_;rintro e w6 ⟨rfl,hb6⟩;have KD:=Lib.hid (KC.out.below hb6);clear hb6 KB KC D2 t0 t1 t2 t3 y0 y1 y2 y3 sf0 sf1 sf2 sf3;go_wp2_with fail;refine (D3.out _).mono ?_;rintro e w7 ⟨rfl,hb7⟩;have KE:=Lib.hid (KD.out.below hb7);clear hb7 KD D3;obtain ⟨_,tf0,tf1,tf2,tf3⟩:=KE.out.n4 (g:=b7) (A:=T) (t:=80) (by simp)
     have KF:=Lib.hid (fQ (t:=80) (l':=[(w4.heap.size+1,80,nv (P+T)),(w4.heap.size+1+1,80,nv (M)),(w4.heap.size,80,nv (Y)),(w.heap.size,80,nv (0))]) KE.out (g:=b7) (A:=T) (by simp) (by omega) (by intro p hp;simp at hp;rcases hp with rfl|rfl|rfl|rfl<;>(simp only [];omega)) (by intro p hp;simp at hp ⊢;rcases hp with rfl|rfl|rfl|rfl<;>simp) (T1))
     obtain ⟨⟨m0,m1,m2,m3⟩,_⟩:=KF.out.n4 (g:=w4.heap.size+1+1) (A:=M) (t:=80) (by simp)
     obtain ⟨⟨t0,t1,t2,t3⟩,_⟩:=KF.out.n4 (g:=b7) (A:=T1) (t:=80) (by simp)
     go_wp2_with fail;refine (D4.out _).mono ?_;rintro e w8 ⟨rfl,hb8⟩;have KG:=Lib.hid (KF.out.below hb8);clear hb8 KE KF D4 m0 m1 m2 m3 t0 t1 t2 t3 tf0 tf1 tf2 tf3;obtain ⟨_,mf0,mf1,mf2,mf3⟩:=KG.out.n4 (g:=w4.heap.size+1+1) (A:=M) (t:=80) (by simp)
     have KH:=Lib.hid (fQ (t:=80) (l':=[(b7,80,nv (T1)),(w4.heap.size+1,80,nv (P+T)),(w4.heap.size,80,nv (Y)),(w.heap.size,80,nv (0))]) KG.out (g:=w4.heap.size+1+1) (A:=M) (by simp) (by omega) (by intro p hp;simp at hp;rcases hp with rfl|rfl|rfl|rfl<;>(simp only [];omega)) (by intro p hp;simp at hp ⊢;rcases hp with rfl|rfl|rfl|rfl<;>simp) (M+T1))
     obtain ⟨⟨t0,t1,t2,t3⟩,_⟩:=KH.out.n4 (g:=b7) (A:=T1) (t:=80) (by simp)
     obtain ⟨⟨y0,y1,y2,y3⟩,_⟩:=KH.out.n4 (g:=w4.heap.size) (A:=Y) (t:=80) (by simp)
     go_wp2_with fail;refine (D5.out _).mono ?_;rintro e w9 ⟨rfl,hb9⟩;have KI:=Lib.hid (KH.out.below hb9);clear hb9 KG KH D5 t0 t1 t2 t3 y0 y1 y2 y3 mf0 mf1 mf2 mf3;go_wp2_with fail;refine (D6.out _).mono ?_;rintro e wa ⟨rfl,hba⟩;have KJ:=Lib.hid (KI.out.below hba);clear hba KI D6;obtain ⟨_,tf0,tf1,tf2,tf3⟩:=KJ.out.n4 (g:=b7) (A:=T1) (t:=80) (by simp)
     have KK:=Lib.hid (fQ (t:=80) (l':=[(w4.heap.size+1,80,nv (P+T)),(w4.heap.size+1+1,80,nv (M+T1)),(w4.heap.size,80,nv (Y)),(w.heap.size,80,nv (0))]) KJ.out (g:=b7) (A:=T1) (by simp) (by omega) (by intro p hp;simp at hp;rcases hp with rfl|rfl|rfl|rfl<;>(simp only [];omega)) (by intro p hp;simp at hp ⊢;rcases hp with rfl|rfl|rfl|rfl<;>simp) (T2))
     have KL:=Lib.hid (KK.out.new wa.heap.size (by simp [Gc]) 80 (nv T2))
     have L1:Hid (w4.heap.size+1+1<wa.heap.size):=Lib.hid (KJ.out.lt (g:=w4.heap.size+1+1) (t:=80) (cs:=nv (M+T1)) (by simp))
     clear KJ KK;go_wp2;obtain ⟨g1,g2,g3,g4,g5⟩:=HH.out;exact ⟨⟨f,T2,k+4,P+T,M+T1,wa.heap.size,rfl,rfl,g2,g1,by omega,by omega,g3,g4,g5,KL.out.sub (by intro p hp;simp at hp ⊢;rcases hp with rfl|rfl|rfl|rfl|rfl<;>simp),L1.out,n2⟩,by simp only [intOf];omega⟩
