/- The walk of Distance of composite sailing, and of the reference's. -/
import Derived.Test.YtknhbpnclokciaaGreatZRwL
import Derived.Test.YtknhbpnclokciaaGreatZComO
set_option linter.unusedVariables false
set_option linter.unusedSimpArgs false
set_option maxRecDepth 100000
set_option maxHeartbeats 8000000
namespace Go.Proofs.YtknhbpnclokciaaGreat
open Go.RowKit Alm Sx
theorem OE (a b c d l:Int) (w:World) (h:bS l [[a,b],[c,d]]≠0):Calls Tryz.prog 21 #[.agg #[.int .i64 a,.int .i64 b],.agg #[.int .i64 c,.int .i64 d],.int .i64 l] w fun e w'=>e=.returned (.tuple #[.agg #[.int .i64 0,.int .i64 0],.int .i64 (bS l [[a,b],[c,d]])])/\Below w.heap.size w w':=by
 have K0:=Lib.hid ((((av w).new w.heap.size rfl 23 #[.int .i64 a,.int .i64 b]).new (w.heap.size+1) (by simp) 23 #[.int .i64 c,.int .i64 d]).new (w.heap.size+1+1) (by simp) 40 #[.int .i64 0,.int .i64 0])
 have CP:=Lib.hid (fun w=>wW a b c d l w h)
 generalize bS l [[a,b],[c,d]]=q at *
 go_enter Tryz.func21,Tryz.ntmps21;go_wp2_with fail;refine (CP.out _).mono ?_;rintro e w1 ⟨rfl,hb⟩;have K1:=Lib.hid (K0.out.below hb);clear hb K0;have z0:=K1.out.c (g:=w.heap.size+1+1) (t:=40) (cs:=#[.int .i64 0,.int .i64 0]) (by simp) (i:=0) rfl;have z1:=K1.out.c (g:=w.heap.size+1+1) (t:=40) (cs:=#[.int .i64 0,.int .i64 0]) (by simp) (i:=1) rfl;have zf0:=K1.out.f (g:=w.heap.size+1+1) (t:=40) (cs:=#[.int .i64 0,.int .i64 0]) (by simp) 0;have zf1:=K1.out.f (g:=w.heap.size+1+1) (t:=40) (cs:=#[.int .i64 0,.int .i64 0]) (by simp) 1
 go_wp2;refine bodyPost_ret (v:=.tuple #[.agg #[.int .i64 0,.int .i64 0],.int .i64 q]) (by simp [results,Tryz.results21,go_sem,z0,z1];try rfl) rfl ⟨rfl,(K1.out.1.setCell (p:=⟨w.heap.size+1+1,0,none⟩) (by show w.heap.size<=w.heap.size+1+1;omega) _).setCell (p:=⟨w.heap.size+1+1,1,none⟩) (by show w.heap.size<=w.heap.size+1+1;omega) _⟩
theorem Og (a b c d l:Int) (w:World) (h:bS l [[a,b],[c,d]]≠0):Calls Tryz.prog 22 #[.agg #[.int .i64 a,.int .i64 b],.agg #[.int .i64 c,.int .i64 d],.int .i64 l] w fun e w'=>e=.returned (.tuple #[.agg #[.int .i64 0,.int .i64 0],.int .i64 (bS l [[a,b],[c,d]])])/\Below w.heap.size w w':=by
 have K0:=Lib.hid ((((av w).new w.heap.size rfl 23 #[.int .i64 a,.int .i64 b]).new (w.heap.size+1) (by simp) 23 #[.int .i64 c,.int .i64 d]).new (w.heap.size+1+1) (by simp) 40 #[.int .i64 0,.int .i64 0])
 have CG:Hid (∀ (g cap:Nat) (w:World),gJ 2 w g 0 [[a,b],[c,d]]->Calls Tryz.prog 15 #[.slice (some ⟨g,0,none⟩) 2 cap,.int .i64 l] w fun e w'=>e=.returned (.int .i64 (bS l [[a,b],[c,d]]))/\Below w.heap.size w w'):=Lib.hid (fun g cap w hR=>lW (some ⟨g,0,none⟩) cap [[a,b],[c,d]] l w (.inr ⟨g,0,rfl,hR⟩) (by simp))
 generalize bS l [[a,b],[c,d]]=q at *
 go_enter Tryz.func22,Tryz.ntmps22;go_wp2_with fail;refine (CG.out _ _ _ (fE _ _ [[a,b],[c,d]] _ rfl (by intro x hx;simp at hx;rcases hx with rfl|rfl<;>rfl) _ (by simp))).mono ?_
 rintro e w1 ⟨rfl,hb⟩;have K1:=Lib.hid ((K0.out.alloc _).below hb);clear hb K0;have z0:=K1.out.c (g:=w.heap.size+1+1) (t:=40) (cs:=#[.int .i64 0,.int .i64 0]) (by simp) (i:=0) rfl;have z1:=K1.out.c (g:=w.heap.size+1+1) (t:=40) (cs:=#[.int .i64 0,.int .i64 0]) (by simp) (i:=1) rfl;have zf0:=K1.out.f (g:=w.heap.size+1+1) (t:=40) (cs:=#[.int .i64 0,.int .i64 0]) (by simp) 0;have zf1:=K1.out.f (g:=w.heap.size+1+1) (t:=40) (cs:=#[.int .i64 0,.int .i64 0]) (by simp) 1
 go_wp2;refine bodyPost_ret (v:=.tuple #[.agg #[.int .i64 0,.int .i64 0],.int .i64 q]) (by simp [results,Tryz.results22,go_sem,z0,z1];try rfl) rfl ⟨rfl,(K1.out.1.setCell (p:=⟨w.heap.size+1+1,0,none⟩) (by show w.heap.size<=w.heap.size+1+1;omega) _).setCell (p:=⟨w.heap.size+1+1,1,none⟩) (by show w.heap.size<=w.heap.size+1+1;omega) _⟩
theorem IR (a b c d l:Int) (w:World) (h:bS l [[a,b],[c,d]]=0):Calls Tryz.prog 21 #[.agg #[.int .i64 a,.int .i64 b],.agg #[.int .i64 c,.int .i64 d],.int .i64 l] w fun e w'=>e=.returned (.tuple #[.agg #[.int .i64 (dtR 2 a b c d l),.int .i64 (dtR 3 a b c d l)],.int .i64 0])/\Below w.heap.size w w':=by
 have K0:=Lib.hid ((((av w).new w.heap.size rfl 23 #[.int .i64 a,.int .i64 b]).new (w.heap.size+1) (by simp) 23 #[.int .i64 c,.int .i64 d]).new (w.heap.size+1+1) (by simp) 40 #[.int .i64 0,.int .i64 0])
 have bd:=oN h;have four:=wH l (aF a b c d l) (aF a b c d l).length;have ln:=kN l (aF a b c d l) (aF a b c d l).length;have pl:=ky a b c d l;have EQ:=oh h;have D2:dtR 2 a b c d l=smA 2 (lgA l (aF a b c d l) (aF a b c d l).length) (lgA l (aF a b c d l) (aF a b c d l).length).length:=by unfold dtR dtE;rw [h,if_neg (by decide)]
 have D3:dtR 3 a b c d l=smA 3 (lgA l (aF a b c d l) (aF a b c d l).length) (lgA l (aF a b c d l) (aF a b c d l).length).length:=by unfold dtR dtE;rw [h,if_neg (by decide)]
 rw [D2,D3]
 have CL:Hid (∀ (ad:Option Addr) (cap:Nat) (w:World),SlI 2 w ad (aF a b c d l)->Calls Tryz.prog 18 #[.slice ad (aF a b c d l).length cap,.int .i64 l] w fun e w'=>(∃ u,e=.returned (.tuple #[u,.int .i64 0])/\bJ 4 42 w.heap.size w' u (lgA l (aF a b c d l) (aF a b c d l).length))/\Below w.heap.size w w'):=Lib.hid (fun ad cap w hS=>by
  have:=BR ad cap (aF a b c d l) l w hS (by omega)
  rw [EQ.1,EQ.2] at this;exact this)
 have CP:=Lib.hid (fun w=>kg a b c d l w h)
 generalize lgA l (aF a b c d l) (aF a b c d l).length=M at *
 generalize aF a b c d l=P at *
 have hM:M.length<=3:=by omega
 have BD:=Lib.hid bd;have FO:=Lib.hid four;clear D2 D3 EQ bd four ln h;go_enter Tryz.func21,Tryz.ntmps21;go_wp2_with fail;refine (CP.out _).mono ?_;rintro e w1 ⟨⟨v,rfl,O⟩,hb⟩;have K1:=Lib.hid (K0.out.below hb);obtain ⟨ad1,cap1,rfl,_,_,S1,_⟩:=O.out (by decide)
 have H1:=Lib.hid S1;clear hb K0 O S1 CP;go_wp2_with fail;refine (CL.out _ _ _ H1.out).mono ?_;rintro e w2 ⟨⟨v,rfl,O⟩,hb⟩;have K2:=Lib.hid (K1.out.below hb);obtain ⟨ad2,cap2,rfl,_,_,S2,_⟩:=O.out (by decide)
 have H2:=Lib.hid S2;clear hb K1 H1 O S2 CL;obtain ⟨w3,hw3⟩:∃ x,x=w2:=⟨_,rfl⟩;subst hw3;have KZ:=Lib.hid ((av w3).new w3.heap.size rfl 40 #[.int .i64 0,.int .i64 0]);go_wp2;go_loopw [37] (fun v wr=>∃ i:Nat,v=.int .i64 (i:Int)/\i<=M.length/\KS w3 wr [(w3.heap.size,40,#[.int .i64 (smA 2 M i),.int .i64 (smA 3 M i)])]) (fun v _=>((M.length:Int)-intOf v).toNat)
 case atStart=>exact ⟨0,rfl,by omega,KZ.out⟩
 case round =>
  obtain ⟨i,rfl,hi,hK⟩:=hrel;have K:=Lib.hid hK;clear hK KZ
  by_cases hl:i<M.length
  . rcases H2.out.below K.out.1 with h0|⟨q,off,rfl,hR⟩
    . rw [h0] at hl;simp at hl
    . obtain ⟨q0,q1,q2,q3,hq,e0,e1,e2,e3⟩:=hR.at4 i hl;have gq:M.getD i []=[q0,q1,q2,q3]:=by rw [<-hq,List.getD_eq_getElem?_getD,List.getElem?_eq_getElem hl];rfl
      have sb:=Cq BD.out i (by omega)
      have lb:=BD.out _ (List.getElem_mem hl);rw [hq] at lb;simp only [List.getD_cons_succ,List.getD_cons_zero] at lb;have N2:Hid (smA 2 M (i+1)=smA 2 M i+q2):=Lib.hid (by show smA 2 M i+(M.getD i []).getD 2 0=_;rw [gq];rfl)
      have N3:Hid (smA 3 M (i+1)=smA 3 M i+q3):=Lib.hid (by show smA 3 M i+(M.getD i []).getD 3 0=_;rw [gq];rfl)
      have CA:=Lib.hid (fun w=>FJ (smA 2 M i) (smA 3 M i) q2 q3 w (by omega) (by omega))
      have hl':(i:Int)<(M.length:Int):=by omega
      have s0:=K.out.c (g:=w3.heap.size) (t:=40) (cs:=#[.int .i64 (smA 2 M i),.int .i64 (smA 3 M i)]) (by simp) (i:=0) rfl;have s1:=K.out.c (g:=w3.heap.size) (t:=40) (cs:=#[.int .i64 (smA 2 M i),.int .i64 (smA 3 M i)]) (by simp) (i:=1) rfl
      have sf0:=K.out.f (g:=w3.heap.size) (t:=40) (cs:=#[.int .i64 (smA 2 M i),.int .i64 (smA 3 M i)]) (by simp) 0;have sf1:=K.out.f (g:=w3.heap.size) (t:=40) (cs:=#[.int .i64 (smA 2 M i),.int .i64 (smA 3 M i)]) (by simp) 1
      generalize smA 2 M i=m2 at *
      generalize smA 3 M i=m3 at *
      have s0o:=fun o:Obj=>(Lib.cell?_alloc_some o s0:World.cell? _ _=some (.int .i64 m2));have s1o:=fun o:Obj=>(Lib.cell?_alloc_some o s1:World.cell? _ _=some (.int .i64 m3))
      clear sb lb gq hq;go_wp2_with fail;refine (CA.out _).mono ?_;rintro e w4 ⟨rfl,hb⟩;have K4:=Lib.hid ((K.out.alloc _).below hb);clear hb K e0 e1 e2 e3 s0 s1 sf0 sf1 s0o s1o CA hR;have s0:=K4.out.c (g:=w3.heap.size) (t:=40) (cs:=#[.int .i64 m2,.int .i64 m3]) (by simp) (i:=0) rfl;have s1:=K4.out.c (g:=w3.heap.size) (t:=40) (cs:=#[.int .i64 m2,.int .i64 m3]) (by simp) (i:=1) rfl
      have sf0:=K4.out.f (g:=w3.heap.size) (t:=40) (cs:=#[.int .i64 m2,.int .i64 m3]) (by simp) 0;have sf1:=K4.out.f (g:=w3.heap.size) (t:=40) (cs:=#[.int .i64 m2,.int .i64 m3]) (by simp) 1
      go_wp2;go_light;exact ⟨⟨i+1,by rw [show ((i+1:Nat):Int)=(i:Int)+1 by omega],by omega,by rw [N2.out,N3.out];exact iK K4.out (.head _) (Nat.le_refl _) (fun p hp=>by cases hp) (fun p hp=>by cases hp) _ _⟩,by simp only [intOf];omega⟩
  . obtain rfl:i=M.length:=by omega
    have hl':¬ (M.length:Int)<(M.length:Int):=by omega
    have s0:=K.out.c (g:=w3.heap.size) (t:=40) (cs:=#[.int .i64 (smA 2 M M.length),.int .i64 (smA 3 M M.length)]) (by simp) (i:=0) rfl;have s1:=K.out.c (g:=w3.heap.size) (t:=40) (cs:=#[.int .i64 (smA 2 M M.length),.int .i64 (smA 3 M M.length)]) (by simp) (i:=1) rfl
    have KF:=Lib.hid (K2.out.upto (B:=w3.heap.size) K.out.1 K2.out.1.size (xn K2.out));have z0:=KF.out.c (g:=w.heap.size+1+1) (t:=40) (cs:=#[.int .i64 0,.int .i64 0]) (by simp) (i:=0) rfl;have z1:=KF.out.c (g:=w.heap.size+1+1) (t:=40) (cs:=#[.int .i64 0,.int .i64 0]) (by simp) (i:=1) rfl;have zf0:=KF.out.f (g:=w.heap.size+1+1) (t:=40) (cs:=#[.int .i64 0,.int .i64 0]) (by simp) 0;have zf1:=KF.out.f (g:=w.heap.size+1+1) (t:=40) (cs:=#[.int .i64 0,.int .i64 0]) (by simp) 1
    clear K K2 H2;go_wp2;refine bodyPost_ret (v:=.tuple #[.agg #[.int .i64 (smA 2 M M.length),.int .i64 (smA 3 M M.length)],.int .i64 0]) (by simp [results,Tryz.results21,go_sem,z0,z1];try rfl) rfl ⟨rfl,(KF.out.1.setCell (p:=⟨w.heap.size+1+1,0,none⟩) (by show w.heap.size<=w.heap.size+1+1;omega) _).setCell (p:=⟨w.heap.size+1+1,1,none⟩) (by show w.heap.size<=w.heap.size+1+1;omega) _⟩
theorem Vg (a b c d l:Int) (w:World) (h:bS l [[a,b],[c,d]]=0):Calls Tryz.prog 22 #[.agg #[.int .i64 a,.int .i64 b],.agg #[.int .i64 c,.int .i64 d],.int .i64 l] w fun e w'=>e=.returned (.tuple #[.agg #[.int .i64 (dtR 2 a b c d l),.int .i64 (dtR 3 a b c d l)],.int .i64 0])/\Below w.heap.size w w':=by
 have K0:=Lib.hid ((((av w).new w.heap.size rfl 23 #[.int .i64 a,.int .i64 b]).new (w.heap.size+1) (by simp) 23 #[.int .i64 c,.int .i64 d]).new (w.heap.size+1+1) (by simp) 40 #[.int .i64 0,.int .i64 0])
 have bd:=oN h;have four:=wH l (aF a b c d l) (aF a b c d l).length;have ln:=kN l (aF a b c d l) (aF a b c d l).length;have pl:=ky a b c d l;have EQ:=oh h;have D2:dtR 2 a b c d l=smA 2 (lgA l (aF a b c d l) (aF a b c d l).length) (lgA l (aF a b c d l) (aF a b c d l).length).length:=by unfold dtR dtE;rw [h,if_neg (by decide)]
 have D3:dtR 3 a b c d l=smA 3 (lgA l (aF a b c d l) (aF a b c d l).length) (lgA l (aF a b c d l) (aF a b c d l).length).length:=by unfold dtR dtE;rw [h,if_neg (by decide)]
 rw [D2,D3]
 have CL:Hid (∀ (ad:Option Addr) (cap:Nat) (w:World),SlI 2 w ad (aF a b c d l)->Calls Tryz.prog 19 #[.slice ad (aF a b c d l).length cap,.int .i64 l] w fun e w'=>(∃ u,e=.returned (.tuple #[u,.int .i64 0])/\bJ 4 42 w.heap.size w' u (lgA l (aF a b c d l) (aF a b c d l).length))/\Below w.heap.size w w'):=Lib.hid (fun ad cap w hS=>by
  have:=KO ad cap (aF a b c d l) l w hS (by omega)
  rw [EQ.1,EQ.2] at this;exact this)
 have CP:=Lib.hid (fun w=>Ki a b c d l w h)
 have CG:Hid (∀ (g cap:Nat) (w:World),gJ 2 w g 0 [[a,b],[c,d]]->Calls Tryz.prog 15 #[.slice (some ⟨g,0,none⟩) 2 cap,.int .i64 l] w fun e w'=>e=.returned (.int .i64 0)/\Below w.heap.size w w'):=Lib.hid (fun g cap w hR=>by
  have:=lW (some ⟨g,0,none⟩) cap [[a,b],[c,d]] l w (.inr ⟨g,0,rfl,hR⟩) (by simp)
  rw [h] at this;exact this)
 generalize lgA l (aF a b c d l) (aF a b c d l).length=M at *
 generalize aF a b c d l=P at *
 have hM:M.length<=3:=by omega
 have BD:=Lib.hid bd;have FO:=Lib.hid four;clear D2 D3 EQ bd four ln h;go_enter Tryz.func22,Tryz.ntmps22;go_wp2_with fail;refine (CG.out _ _ _ (fE _ _ [[a,b],[c,d]] _ rfl (by intro x hx;simp at hx;rcases hx with rfl|rfl<;>rfl) _ (by simp))).mono ?_
 rintro e w0 ⟨rfl,hb⟩;have KA:=Lib.hid ((K0.out.alloc _).below hb);clear hb K0 CG;have a0:=KA.out.c (g:=w.heap.size) (t:=23) (cs:=#[.int .i64 a,.int .i64 b]) (by simp) (i:=0) rfl;have a1:=KA.out.c (g:=w.heap.size) (t:=23) (cs:=#[.int .i64 a,.int .i64 b]) (by simp) (i:=1) rfl;have c0:=KA.out.c (g:=w.heap.size+1) (t:=23) (cs:=#[.int .i64 c,.int .i64 d]) (by simp) (i:=0) rfl;have c1:=KA.out.c (g:=w.heap.size+1) (t:=23) (cs:=#[.int .i64 c,.int .i64 d]) (by simp) (i:=1) rfl
 go_wp2_with fail;refine (CP.out _).mono ?_;rintro e w1 ⟨⟨v,rfl,O⟩,hb⟩;have K1:=Lib.hid (KA.out.below hb);obtain ⟨ad1,cap1,rfl,_,_,S1,_⟩:=O.out (by decide)
 have H1:=Lib.hid S1;clear hb KA O S1 CP a0 a1 c0 c1;go_wp2_with fail;refine (CL.out _ _ _ H1.out).mono ?_;rintro e w2 ⟨⟨v,rfl,O⟩,hb⟩;have K2:=Lib.hid (K1.out.below hb);obtain ⟨ad2,cap2,rfl,_,_,S2,_⟩:=O.out (by decide)
 have H2:=Lib.hid S2;clear hb K1 H1 O S2 CL;go_wp2_with fail;refine (Py 0 _).mono ?_;rintro e w3 ⟨rfl,hb⟩;replace H2:=Lib.hid (H2.out.below hb);replace K2:=Lib.hid (K2.out.below hb);clear hb;have KZ:=Lib.hid ((av w3).new w3.heap.size rfl 40 #[.int .i64 0,.int .i64 0]);go_wp2;go_loopw [12] (fun v wr=>∃ i:Nat,v=.int .i64 (i:Int)/\i<=M.length/\KS w3 wr [(w3.heap.size,40,#[.int .i64 (smA 2 M i),.int .i64 (smA 3 M i)])]) (fun v _=>((M.length:Int)-intOf v).toNat)
 case atStart=>exact ⟨0,rfl,by omega,KZ.out⟩
 case round =>
  obtain ⟨i,rfl,hi,hK⟩:=hrel;have K:=Lib.hid hK;clear hK KZ
  by_cases hl:i<M.length
  . rcases H2.out.below K.out.1 with h0|⟨q,off,rfl,hR⟩
    . rw [h0] at hl;simp at hl
    . obtain ⟨q0,q1,q2,q3,hq,e0,e1,e2,e3⟩:=hR.at4 i hl;have gq:M.getD i []=[q0,q1,q2,q3]:=by rw [<-hq,List.getD_eq_getElem?_getD,List.getElem?_eq_getElem hl];rfl
      have sb:=Cq BD.out i (by omega)
      have lb:=BD.out _ (List.getElem_mem hl);rw [hq] at lb;simp only [List.getD_cons_succ,List.getD_cons_zero] at lb;have N2:Hid (smA 2 M (i+1)=smA 2 M i+q2):=Lib.hid (by show smA 2 M i+(M.getD i []).getD 2 0=_;rw [gq];rfl)
      have N3:Hid (smA 3 M (i+1)=smA 3 M i+q3):=Lib.hid (by show smA 3 M i+(M.getD i []).getD 3 0=_;rw [gq];rfl)
      have CA:=Lib.hid (fun w=>Qa (smA 2 M i) (smA 3 M i) q2 q3 w (by omega) (by omega))
      have hl':(i:Int)<(M.length:Int):=by omega
      have s0:=K.out.c (g:=w3.heap.size) (t:=40) (cs:=#[.int .i64 (smA 2 M i),.int .i64 (smA 3 M i)]) (by simp) (i:=0) rfl;have s1:=K.out.c (g:=w3.heap.size) (t:=40) (cs:=#[.int .i64 (smA 2 M i),.int .i64 (smA 3 M i)]) (by simp) (i:=1) rfl
      have sf0:=K.out.f (g:=w3.heap.size) (t:=40) (cs:=#[.int .i64 (smA 2 M i),.int .i64 (smA 3 M i)]) (by simp) 0;have sf1:=K.out.f (g:=w3.heap.size) (t:=40) (cs:=#[.int .i64 (smA 2 M i),.int .i64 (smA 3 M i)]) (by simp) 1
      generalize smA 2 M i=m2 at *
      generalize smA 3 M i=m3 at *
      have s0o:=fun o:Obj=>(Lib.cell?_alloc_some o s0:World.cell? _ _=some (.int .i64 m2));have s1o:=fun o:Obj=>(Lib.cell?_alloc_some o s1:World.cell? _ _=some (.int .i64 m3))
      clear sb lb gq hq;go_upto_region 11 with (fail)
      replace K:=Lib.hid K.out.drew
      go_region_with (first
       | ((go_at_call 71;with_reducible refine (CA.out _).mono ?_);rintro r w4 ⟨rfl,hb⟩;replace K:=Lib.hid (K.out.below hb);clear hb e0 e1 e2 e3 s0 s1 sf0 sf1;have s0:=K.out.c (g:=w3.heap.size) (t:=40) (cs:=#[.int .i64 m2,.int .i64 m3]) (by simp) (i:=0) rfl;have s1:=K.out.c (g:=w3.heap.size) (t:=40) (cs:=#[.int .i64 m2,.int .i64 m3]) (by simp) (i:=1) rfl;have sf0:=K.out.f (g:=w3.heap.size) (t:=40) (cs:=#[.int .i64 m2,.int .i64 m3]) (by simp) 0;have sf1:=K.out.f (g:=w3.heap.size) (t:=40) (cs:=#[.int .i64 m2,.int .i64 m3]) (by simp) 1))
      all_goals
       go_wp2;go_light;exact ⟨⟨i+1,by rw [show ((i+1:Nat):Int)=(i:Int)+1 by omega],by omega,by rw [N2.out,N3.out];exact iK K.out (.head _) (Nat.le_refl _) (fun p hp=>by cases hp) (fun p hp=>by cases hp) _ _⟩,by simp only [intOf];omega⟩
  . obtain rfl:i=M.length:=by omega
    have hl':¬ (M.length:Int)<(M.length:Int):=by omega
    have s0:=K.out.c (g:=w3.heap.size) (t:=40) (cs:=#[.int .i64 (smA 2 M M.length),.int .i64 (smA 3 M M.length)]) (by simp) (i:=0) rfl;have s1:=K.out.c (g:=w3.heap.size) (t:=40) (cs:=#[.int .i64 (smA 2 M M.length),.int .i64 (smA 3 M M.length)]) (by simp) (i:=1) rfl
    have KF:=Lib.hid (K2.out.upto (B:=w3.heap.size) K.out.1 K2.out.1.size (xn K2.out));have z0:=KF.out.c (g:=w.heap.size+1+1) (t:=40) (cs:=#[.int .i64 0,.int .i64 0]) (by simp) (i:=0) rfl;have z1:=KF.out.c (g:=w.heap.size+1+1) (t:=40) (cs:=#[.int .i64 0,.int .i64 0]) (by simp) (i:=1) rfl;have zf0:=KF.out.f (g:=w.heap.size+1+1) (t:=40) (cs:=#[.int .i64 0,.int .i64 0]) (by simp) 0;have zf1:=KF.out.f (g:=w.heap.size+1+1) (t:=40) (cs:=#[.int .i64 0,.int .i64 0]) (by simp) 1
    clear K K2 H2;go_wp2;refine bodyPost_ret (v:=.tuple #[.agg #[.int .i64 (smA 2 M M.length),.int .i64 (smA 3 M M.length)],.int .i64 0]) (by simp [results,Tryz.results22,go_sem,z0,z1];try rfl) rfl ⟨rfl,(KF.out.1.setCell (p:=⟨w.heap.size+1+1,0,none⟩) (by show w.heap.size<=w.heap.size+1+1;omega) _).setCell (p:=⟨w.heap.size+1+1,1,none⟩) (by show w.heap.size<=w.heap.size+1+1;omega) _⟩
