/- Package rhumb's meridional parts. -/
import Derived.Test.YtbcnifkfaknnaaaGreatZRn4
import Derived.Test.YtbcnifkfaknnaaaGreatZRn5
import Derived.Test.YtbcnifkfaknnaaaGreatZRn6
import Derived.Deep.RegionHeld3
import Derived.Test.YtbcnifkfaknnaaaGreatZRgn
import Derived.Deep.DeepCutAuto
set_option linter.unusedVariables false
set_option linter.unusedSimpArgs false
set_option maxRecDepth 100000
set_option maxHeartbeats 8000000
namespace Go.Proofs.YtbcnifkfaknnaaaGreat
open Go.RowKit Alm
theorem iQ (w:World) (o:Obj):w.heap.size<=(w.alloc o).heap.size:=by simp
theorem DC (w:World) (g b j:Nat) (u0 u1 u2 u3:Value) {v:Option Value} (h:g≠b) (hc:w.cell? ⟨b,j,none⟩=v):((((w.setCell ⟨g,0,none⟩ u0).setCell ⟨g,1,none⟩ u1).setCell ⟨g,2,none⟩ u2).setCell ⟨g,3,none⟩ u3).cell? ⟨b,j,none⟩=v:=by
 rw [cell_far _ _ _ _ _ _ h,cell_far _ _ _ _ _ _ h,cell_far _ _ _ _ _ _ h,cell_far _ _ _ _ _ _ h];exact hc
theorem iy {w:World} {p:Addr} {v:Option Value} (h:w.cell? p=v):w.drew.cell? p=v:=h
theorem Dt:QA<W:=by unfold QA W;decide +kernel
theorem RO:QA+QA/2<W:=by
 have:=Dt;have:QA*2^64=W:=by unfold QA W;decide +kernel
 omega
theorem Ai {X Y:Nat} (h:okQ X Y=true):X<W/\0<Y/\2*Y<=W/\bD X Y<W:=by
 unfold okQ at h;simp only [Bool.and_eq_true,decide_eq_true_eq] at h;exact ⟨h.1.1.1,h.1.1.2,h.1.2,h.2⟩
def VX (U K lim:Nat) (w:World) (g b6:Nat) (v5:Value) (wr:World):Prop :=
 ∃ (f k u:Nat),v5=.int .u64 (k:Int)/\okH f u=true/\jE f u=U/\eG f u+k=K/\k+f=200/\u<W/\KS w wr [(g,80,nv (u)),(b6,80,nv (lim))]
theorem I6 {U K lim:Nat} {w wr:World} {g b6 f u0:Nat} (hf:f=200) (h1:okH f u0=true) (h2:jE f u0=U) (h3:eG f u0=K) (h4:u0<W) (hk:KS w wr [(g,80,nv (u0)),(b6,80,nv (lim))]):VX U K lim w g b6 (.int .u64 0) wr :=
 ⟨f,0,u0,rfl,h1,h2,by rw [Nat.add_zero];exact h3,by omega,h4,hk⟩
theorem UI {u k:Nat} (h:okL u k=true):lU (QA/3)=true/\bI (QA/3)<W/\bI (QA/3)*(2*k)<W/\u+QA<W /\
 (if u<QA then okQ (QA-u) (u+QA)=true/\lU (bD (QA-u) (u+QA))=true/\bI (bD (QA-u) (u+QA))+bI (bD (QA-u) (u+QA))<=bI (QA/3)*(2*k)
  else okQ (u-QA) (u+QA)=true/\lU (bD (u-QA) (u+QA))=true/\bI (QA/3)*(2*k)+(bI (bD (u-QA) (u+QA))+bI (bD (u-QA) (u+QA)))<W):=by
 unfold okL at h;simp only [Bool.and_eq_true,decide_eq_true_eq] at h;obtain ⟨⟨⟨⟨a,b⟩,c⟩,d⟩,e⟩:=h;refine ⟨a,b,c,d,?_⟩;split
 . rename_i h;rw [if_pos h] at e;simp only [Bool.and_eq_true,decide_eq_true_eq] at e;exact ⟨e.1.1,e.1.2,e.2⟩
 . rename_i h;rw [if_neg h] at e;simp only [Bool.and_eq_true,decide_eq_true_eq] at e;exact ⟨e.1.1,e.1.2,e.2⟩
theorem QO (R:Nat) (h:R<W):nl R 0=((R/QA:Nat):Int):=by
 rw [(jo R).1,<-dD];have e:QA*18446744073709551616=W:=by unfold QA W;decide +kernel
 rw [Nat.mod_eq_of_lt (Nat.div_lt_of_lt_mul (by rw [e];exact h))]
theorem QQ (n:Nat) (hn:n<=5400000) (h:okW n=true) (w:World):Calls Tryz.prog 33 #[.int .i64 (n:Int)] w fun e w'=>e=.returned (.int .i64 ((wpN n:Nat):Int))/\Below w.heap.size w w':=by
 have HW:Hid (yc n=true/\bL n<QA/\okQ (QA+bL n) (QA-bL n)=true/\okH 200 (bD (QA+bL n) (QA-bL n))=true /\
  okL (jE 200 (bD (QA+bL n) (QA-bL n))) (eG 200 (bD (QA+bL n) (QA-bL n)))=true/\nD n<W/\nD n/2*10800000<W/\okQ (nD n/2*10800000) PiA=true/\wpN n<2^63):=by
  unfold okW at h;simp only [Bool.and_eq_true,decide_eq_true_eq] at h;obtain ⟨⟨⟨⟨⟨⟨⟨⟨a,b⟩,c⟩,d⟩,e⟩,f⟩,g⟩,i⟩,j⟩:=h;exact ⟨a,b,c,d,e,f,g,i,j⟩
 clear h;obtain ⟨h1,h2,h3,h4,h5,h6,h7,h8,h9⟩:=HW.out;clear HW;have CS:=Lib.hid (fun w=>KT n hn h1 w)
 have hlu:nD n=PO (jE 200 (bD (QA+bL n) (QA-bL n))) (eG 200 (bD (QA+bL n) (QA-bL n))):=by unfold nD;rfl
 have hwp:wpN n=bD (nD n/2*10800000) PiA/QA:=by unfold wpN;rfl
 generalize bL n=s at *
 have q3:=Ai h3;have CQ:=Lib.hid (fun w=>zP (QA+s) (QA-s) q3 w)
 have CA:=fun w=>jf QA s q3.1 w
 have CM:=fun w=>jI QA s Dt (by omega) w
 have CU:=fun w=>TI w
 generalize QA+s=sa at *
 generalize QA-s=sm at *
 have hu0:bD sa sm<W:=q3.2.2.2;generalize bD sa sm=u0 at *
 generalize hU:jE 200 u0=U at *
 generalize hK:eG 200 u0=K at *
 have HH:Hid (∃ f,f=200/\okH f u0=true/\jE f u0=U/\eG f u0=K/\u0<W):=Lib.hid ⟨200,rfl,h4,hU,hK,hu0⟩;have HL:=Lib.hid (And.intro h5 (And.intro hlu (And.intro h6 (And.intro h7 (And.intro h8 (And.intro h9 hwp))))));generalize nD n=lg at *
 generalize wpN n=res at *
 clear h1 h2 h3 h4 h5 h6 h7 h8 h9 hlu hwp q3 hu0 hU hK;have CH:=fun w=>zU QA Dt w
 have CL:=fun w=>jf QA (QA/2) RO w
 have CT:=fun w=>mD QA 3 Dt (by unfold U64;omega) (by omega) w
 rw [show QA/(3:Int).toNat=QA/3 from rfl] at CT
 obtain ⟨lim,hlim⟩:∃ l,QA+QA/2=l:=⟨_,rfl⟩;obtain ⟨q2,hq2⟩:∃ l,QA/2=l:=⟨_,rfl⟩;obtain ⟨q3,hq3⟩:∃ l,QA/3=l:=⟨_,rfl⟩;obtain ⟨q1,hq1⟩:∃ l,QA=l:=⟨_,rfl⟩;have hlW:lim<W:=by rw [<-hlim];exact RO
 have h1W:q1<W:=by rw [<-hq1];exact Dt
 rw [hlim,hq2,hq1] at CL;rw [hq2,hq1] at CH;rw [hq3,hq1] at CT;rw [hq1] at CA CM CU;replace CU:=Lib.hid CU;replace CA:=Lib.hid CA;replace CM:=Lib.hid CM;replace CH:=Lib.hid CH;replace CL:=Lib.hid CL;replace CT:=Lib.hid CT;replace hlim:=Lib.hid hlim;replace hq1:=Lib.hid hq1;replace hq3:=Lib.hid hq3;replace hlW:=Lib.hid hlW;replace h1W:=Lib.hid h1W;clear hq2;go_enter Tryz.func33,Tryz.ntmps33;go_wp2_with fail;refine (CS.out _).mono ?_;rintro e w1 ⟨rfl,hb1⟩;have K1:=Lib.hid (((fB w).below hb1).new w1.heap.size rfl 80 (nv s));clear hb1 CS;go_upto_region 2 with (fail)
 obtain ⟨W1,hW1⟩:∃ W1,w1.alloc (.cells (nv s) 80)=W1:=⟨_,rfl⟩;obtain ⟨b3,hb3⟩:∃ b3,w1.heap.size=b3:=⟨_,rfl⟩;have HB3:Hid (b3<W1.heap.size):=by rw [<-hW1,<-hb3];exact Lib.hid (by simp)
 have K2:Hid (KS w W1 [(b3,80,nv (s))]):=by rw [<-hW1,<-hb3];exact K1
 change Code.wp _ _ _ _ (w1.alloc (.cells (nv s) 80));rw [hW1,hb3];clear hW1 hb3 K1;obtain ⟨⟨t0,t1,t2,t3⟩,_⟩:=K2.out.n4 (g:=b3) (A:=s) (t:=80) (by simp)
 go_cut [4] (fun v wx=>∃ g,v=.pointer (some ⟨g,0,none⟩)/\w.heap.size<=g/\KS w wx [(g,80,nv (u0))])
 case first =>
  have HM:Hid (W1.heap.size<=W1.drew.heap.size):=Lib.hid (Nat.le_refl _);have HWS:Hid (w.heap.size<=W1.heap.size):=Lib.hid K2.out.1.size;have KB0:=K2;replace K2:=Lib.hid K2.out.drew;have hb3:=HB3.out;have hgw0:=Nat.ne_of_gt HB3.out;have bt0:=t0;have bt1:=t1;have bt2:=t2;have bt3:=t3;clear t0 t1 t2 t3;obtain ⟨⟨t0,t1,t2,t3⟩,_⟩:=K2.out.n4 (g:=b3) (A:=s) (t:=80) (by simp)
  go_region_held3 (fun w'=>w'.cell? ⟨b3,0,none⟩=some (.int .u64 (nl (s) 3))/\w'.cell? ⟨b3,1,none⟩=some (.int .u64 (nl (s) 2))/\w'.cell? ⟨b3,2,none⟩=some (.int .u64 (nl (s) 1))/\w'.cell? ⟨b3,3,none⟩=some (.int .u64 (nl (s) 0)))
   (first|with_reducible exact ⟨t0,t1,t2,t3⟩|with_reducible exact ⟨Lib.cell?_alloc_some _ t0,Lib.cell?_alloc_some _ t1,Lib.cell?_alloc_some _ t2,Lib.cell?_alloc_some _ t3⟩|with_reducible exact ⟨iy (Lib.cell?_alloc_some _ bt0),iy (Lib.cell?_alloc_some _ bt1),iy (Lib.cell?_alloc_some _ bt2),iy (Lib.cell?_alloc_some _ bt3)⟩|(refine ⟨?_,?_,?_,?_⟩<;>(with_reducible refine DC _ _ _ _ _ _ _ _ ?_ ?_<;>with_reducible assumption))|(refine ⟨?_,?_,?_,?_⟩<;>(with_reducible refine DC _ _ _ _ _ _ _ _ ?_ (Lib.cell?_alloc_some _ ?_)<;>with_reducible assumption))|(with_reducible refine DC _ _ _ _ _ _ _ _ ?_ ?_<;>with_reducible assumption)|(with_reducible refine DC _ _ _ _ _ _ _ _ ?_ (Lib.cell?_alloc_some _ ?_)<;>with_reducible assumption))
   (first
   | ((go_at_call 55;with_reducible refine (CU.out _).mono ?_);rintro r wm ⟨rfl,hk⟩;(first|(with_reducible have hs1:=Nat.le_trans HM.out hk.size;with_reducible have hk3:=K2.out.below hk;replace K2:=Lib.hid hk3;clear hk3;replace HM:=Lib.hid hs1;clear hs1;(try (clear rf0 rf1 rf2 rf3;obtain ⟨_,rf0,rf1,rf2,rf3⟩:=K2.out.n4 (A:=0) (by with_reducible exact List.mem_cons_self ..))))|((first|have hk2:=((KB0.out.new W1.heap.size rfl 80 (nv 0)).drew.below hk)|have hk2:=((K2.out.new _ rfl 80 (nv 0)).below hk));have hg:=HM.out;have hgn:=Nat.ne_of_gt (Nat.lt_of_lt_of_le hb3 HM.out);have hs1:=Nat.le_trans (Nat.le_trans HM.out (iQ _ _)) hk.size;replace K2:=Lib.hid hk2;clear hk2;replace HM:=Lib.hid hs1;clear hs1;obtain ⟨_,rf0,rf1,rf2,rf3⟩:=K2.out.n4 (A:=0) (List.mem_cons_self ..)));clear hk t0 t1 t2 t3;obtain ⟨⟨t0,t1,t2,t3⟩,_⟩:=K2.out.n4 (g:=b3) (A:=s) (t:=80) (by simp);have hgw:=Nat.ne_of_gt (Nat.lt_of_lt_of_le hb3 HM.out))
   | ((go_at_call 56;with_reducible refine (CA.out _).mono ?_);rintro r wm ⟨rfl,hk⟩;(first|(with_reducible have hs1:=Nat.le_trans HM.out hk.size;with_reducible have hk3:=K2.out.below hk;replace K2:=Lib.hid hk3;clear hk3;replace HM:=Lib.hid hs1;clear hs1;(try (clear rf0 rf1 rf2 rf3;obtain ⟨_,rf0,rf1,rf2,rf3⟩:=K2.out.n4 (A:=0) (by with_reducible exact List.mem_cons_self ..))))|((first|have hk2:=((KB0.out.new W1.heap.size rfl 80 (nv 0)).drew.below hk)|have hk2:=((K2.out.new _ rfl 80 (nv 0)).below hk));have hg:=HM.out;have hgn:=Nat.ne_of_gt (Nat.lt_of_lt_of_le hb3 HM.out);have hs1:=Nat.le_trans (Nat.le_trans HM.out (iQ _ _)) hk.size;replace K2:=Lib.hid hk2;clear hk2;replace HM:=Lib.hid hs1;clear hs1;obtain ⟨_,rf0,rf1,rf2,rf3⟩:=K2.out.n4 (A:=0) (List.mem_cons_self ..)));clear hk t0 t1 t2 t3;obtain ⟨⟨t0,t1,t2,t3⟩,_⟩:=K2.out.n4 (g:=b3) (A:=s) (t:=80) (by simp);have hgw:=Nat.ne_of_gt (Nat.lt_of_lt_of_le hb3 HM.out))
   | ((go_at_call 58;with_reducible refine (CM.out _).mono ?_);rintro r wm ⟨rfl,hk⟩;(first|(with_reducible have hs1:=Nat.le_trans HM.out hk.size;with_reducible have hk3:=K2.out.below hk;replace K2:=Lib.hid hk3;clear hk3;replace HM:=Lib.hid hs1;clear hs1;(try (clear rf0 rf1 rf2 rf3;obtain ⟨_,rf0,rf1,rf2,rf3⟩:=K2.out.n4 (A:=0) (by with_reducible exact List.mem_cons_self ..))))|((first|have hk2:=((KB0.out.new W1.heap.size rfl 80 (nv 0)).drew.below hk)|have hk2:=((K2.out.new _ rfl 80 (nv 0)).below hk));have hg:=HM.out;have hgn:=Nat.ne_of_gt (Nat.lt_of_lt_of_le hb3 HM.out);have hs1:=Nat.le_trans (Nat.le_trans HM.out (iQ _ _)) hk.size;replace K2:=Lib.hid hk2;clear hk2;replace HM:=Lib.hid hs1;clear hs1;obtain ⟨_,rf0,rf1,rf2,rf3⟩:=K2.out.n4 (A:=0) (List.mem_cons_self ..)));clear hk t0 t1 t2 t3;obtain ⟨⟨t0,t1,t2,t3⟩,_⟩:=K2.out.n4 (g:=b3) (A:=s) (t:=80) (by simp);have hgw:=Nat.ne_of_gt (Nat.lt_of_lt_of_le hb3 HM.out))
   | ((go_at_call 57;with_reducible refine (CQ.out _).mono ?_);rintro r wm ⟨rfl,hk⟩;(first|(with_reducible have hs1:=Nat.le_trans HM.out hk.size;with_reducible have hk3:=K2.out.below hk;replace K2:=Lib.hid hk3;clear hk3;replace HM:=Lib.hid hs1;clear hs1;(try (clear rf0 rf1 rf2 rf3;obtain ⟨_,rf0,rf1,rf2,rf3⟩:=K2.out.n4 (A:=0) (by with_reducible exact List.mem_cons_self ..))))|((first|have hk2:=((KB0.out.new W1.heap.size rfl 80 (nv 0)).drew.below hk)|have hk2:=((K2.out.new _ rfl 80 (nv 0)).below hk));have hg:=HM.out;have hgn:=Nat.ne_of_gt (Nat.lt_of_lt_of_le hb3 HM.out);have hs1:=Nat.le_trans (Nat.le_trans HM.out (iQ _ _)) hk.size;replace K2:=Lib.hid hk2;clear hk2;replace HM:=Lib.hid hs1;clear hs1;obtain ⟨_,rf0,rf1,rf2,rf3⟩:=K2.out.n4 (A:=0) (List.mem_cons_self ..)));clear hk t0 t1 t2 t3;obtain ⟨⟨t0,t1,t2,t3⟩,_⟩:=K2.out.n4 (g:=b3) (A:=s) (t:=80) (by simp);have hgw:=Nat.ne_of_gt (Nat.lt_of_lt_of_le hb3 HM.out)))
  all_goals (go_wp2_with fail)
  all_goals go_meet
  all_goals
   have hws:=HWS.out
   first
    | exact ⟨_,rfl,K2.out.1.size,(K2.out.new _ rfl 80 (nv u0)).sub (by intro p hp;simp at hp ⊢;left;exact hp)⟩
    | exact ⟨_,rfl,by omega,fQ (A:=0) (l':=[]) K2.out (List.mem_cons_self ..) (by omega) (by simp) (by simp) u0⟩
    | trace_state
 case rest =>
  obtain ⟨g4,rfl,hg4,hK⟩:=hcut;have K5:=Lib.hid hK;clear hK t0 t1 t2 t3 K2 HB3 CA CM CQ;go_wp2_with fail;refine (CU.out _).mono ?_;rintro e w2 ⟨rfl,hb⟩;replace K5:=Lib.hid (K5.out.below hb);clear hb;go_wp2_with fail;refine (CU.out _).mono ?_;rintro e w3 ⟨rfl,hb⟩;replace K5:=Lib.hid (K5.out.below hb);clear hb;go_wp2_with fail;refine (CH.out _).mono ?_;rintro e w4 ⟨rfl,hb⟩;replace K5:=Lib.hid (K5.out.below hb);clear hb;go_wp2_with fail;refine (CL.out _).mono ?_;rintro e w5 ⟨rfl,hb⟩;have HG:Hid (g4<w5.heap.size):=Lib.hid ((K5.out.below hb).lt (g:=g4) (t:=80) (cs:=nv u0) (by simp))
  replace K5:=Lib.hid ((K5.out.below hb).new w5.heap.size rfl 80 (nv lim));clear hb CH CL;go_wp2;go_loopw [5] (fun v5 wr=>VX U K lim w g4 w5.heap.size v5 wr) (fun v5 _=>(200-intOf v5).toNat)
  case atStart =>
   obtain ⟨f0,hf0,a,b,c,d⟩:=HH.out;exact I6 hf0 a b c d (K5.out.sub (by intro p hp;simp at hp ⊢;rcases hp with rfl|rfl<;>simp))
  case round =>
   obtain ⟨f,k,u,rfl,hok,hu,hk,hkf,huW,hK⟩:=hrel;have KA:=Lib.hid hK;clear hK K5;obtain ⟨⟨u0,u1,u2,u3⟩,uf0,uf1,uf2,uf3⟩:=KA.out.n4 (g:=g4) (A:=u) (t:=80) (by simp)
   obtain ⟨⟨l0,l1,l2,l3⟩,_⟩:=KA.out.n4 (g:=w5.heap.size) (A:=lim) (t:=80) (by simp)
   have CC:=Lib.hid (fun w=>AL u lim huW hlW.out w)
   go_wp2_with fail;refine (CC.out _).mono ?_;rintro e w6 ⟨rfl,hb⟩;replace KA:=Lib.hid (KA.out.below hb);clear hb CC u0 u1 u2 u3 uf0 uf1 uf2 uf3 l0 l1 l2 l3
   by_cases hlt:u<lim
   . rw [decide_eq_true hlt];have hlt2:u<QA+QA/2:=by rw [hlim.out];exact hlt
     have hUK:U=u/\K=k:=by
      cases f
      . simp [jE] at hu;simp [eG] at hk;exact ⟨hu.symm,hk.symm⟩
      . simp [jE,if_pos hlt2] at hu;simp [eG,if_pos hlt2] at hk;exact ⟨hu.symm,hk.symm⟩
     obtain ⟨rfl,rfl⟩:=hUK;obtain ⟨g1,g2,g3,g4',g5,g6,g7⟩:=HL.out;clear hok hu hk HH;obtain ⟨m1,m2,m3,m4,m5⟩:=UI g1;rw [hq3.out] at m1 m2 m3 m5;have hlg:lg=if U<q1 then bI q3*(2*K)-(bI (bD (q1-U) (U+q1))+bI (bD (q1-U) (U+q1))) else bI q3*(2*K)+(bI (bD (U-q1) (U+q1))+bI (bD (U-q1) (U+q1))):=by rw [g2,<-hq1.out,<-hq3.out];rfl
     rw [hq1.out] at m4 m5;have CA1:=Lib.hid (fun w=>wB q3 m1 w)
     have CB1:=fun w=>Lx (bI q3) ((2*K:Nat):Int) m2 (by unfold U64;omega) (by rw [Int.toNat_natCast];exact m3) w
     rw [Int.toNat_natCast] at CB1;replace CB1:=Lib.hid CB1;have e2k:IntKind.u64.wrap (2*(K:Int))=((2*K:Nat):Int):=by rw [w64 _ (by unfold U64;omega)];rfl
     have CS1:=Lib.hid (fun w=>jf U q1 m4 w)
     have CC1:=Lib.hid (fun w=>AL U q1 huW h1W.out w)
     have M5:=Lib.hid m5;have HLG:=Lib.hid hlg;have M3:=Lib.hid m3;have CH1:=Lib.hid (fun w=>zU lg g3 w)
     have CH2:=fun w=>Lx (lg/2) 10800000 (by omega) (by unfold U64;omega) g4' w
     rw [show lg/2*(10800000:Int).toNat=lg/2*10800000 from rfl] at CH2
     replace CH2:=Lib.hid CH2;have q5:=Ai g5;have CH3:=fun w=>zP (lg/2*10800000) PiA q5 w
     have e0:nl (bD (lg/2*10800000) PiA) 0=(res:Int):=by rw [QO _ q5.2.2.2,g7]
     rw [e0] at CH3;replace CH3:=Lib.hid CH3;have hres:(res:Int)<9223372036854775808:=by omega
     generalize bD (lg/2*10800000) PiA=rr at *
     generalize lg/2*10800000=lh at *
     generalize lg/2=lq at *
     clear g1 g2 g3 g4' g5 g6 g7 m1 m2 m3 m4 m5 hlg q5 e0 HL hlt hlt2 HG;go_wp2_with fail;refine (CU.out _).mono ?_;rintro e w7 ⟨rfl,hb⟩;replace KA:=Lib.hid (KA.out.below hb);clear hb;go_wp2_with fail;refine (CT.out _).mono ?_;rintro e w8 ⟨rfl,hb⟩;replace KA:=Lib.hid ((KA.out.below hb).new w8.heap.size rfl 80 (nv q3));clear hb CT;obtain ⟨⟨t0,t1,t2,t3⟩,_⟩:=KA.out.n4 (g:=w8.heap.size) (A:=q3) (t:=80) (by simp)
     go_wp2_with fail;refine (CA1.out _).mono ?_;rintro e w9 ⟨rfl,hb⟩;replace KA:=Lib.hid (KA.out.below hb);clear hb CA1 t0 t1 t2 t3;go_wp2_with fail;refine (CB1.out _).mono ?_;rintro e wa ⟨rfl,hb⟩;have HWA:Hid (w.heap.size<=wa.heap.size):=Lib.hid (KA.out.below hb).1.size;have HG4:Hid (g4<wa.heap.size):=Lib.hid ((KA.out.below hb).lt (g:=g4) (t:=80) (cs:=nv U) (by simp))
     replace KA:=Lib.hid ((KA.out.below hb).new wa.heap.size rfl 80 (nv (bI q3*(2*K))));clear hb CB1;go_upto_region 10 with (fail)
     generalize bI q3*(2*K)=l0 at *
     obtain ⟨W2,hW2⟩:∃ W2,wa.alloc (.cells (nv l0) 80)=W2:=⟨_,rfl⟩;obtain ⟨b8,hb8⟩:∃ b8,wa.heap.size=b8:=⟨_,rfl⟩;have K2:Hid (KS w W2 [(b8,80,nv (l0)),(g4,80,nv (U))]):=by rw [<-hW2,<-hb8];exact Lib.hid (KA.out.sub (by intro p hp;simp at hp ⊢;rcases hp with rfl|rfl<;>simp))
     change Code.wp _ _ _ _ (wa.alloc (.cells (nv l0) 80));rw [hW2,hb8]
     have hn84:g4≠b8:=by
      have h2:g4<wa.heap.size:=HG4.out;omega
     obtain ⟨⟨t0,t1,t2,t3⟩,_⟩:=K2.out.n4 (g:=g4) (A:=U) (t:=80) (by simp)
     have HB4:Hid (g4<W2.heap.size):=Lib.hid (K2.out.lt (g:=g4) (t:=80) (cs:=nv U) (by simp))
     have HWS8:Hid (w.heap.size<=b8):=Lib.hid (by rw [<-hb8];exact HWA.out)
     have HB8:Hid (b8<W2.heap.size):=Lib.hid (K2.out.lt (g:=b8) (t:=80) (cs:=nv l0) (by simp))
     clear KA;generalize hsm:U+q1=sm2 at *
     replace hsm:=Lib.hid hsm;go_cut [9] (fun v wx=>∃ g,v=.pointer (some ⟨g,0,none⟩)/\W2.heap.size<=g/\KS w wx [(g,80,nv (sm2)),(b8,80,nv (l0)),(g4,80,nv (U))])
     case first =>
      have HM:Hid (W2.heap.size<=W2.drew.heap.size):=Lib.hid (Nat.le_refl _);have HWS:Hid (w.heap.size<=W2.heap.size):=Lib.hid K2.out.1.size;have KB0:=K2;replace K2:=Lib.hid K2.out.drew;have hb3:=HB4.out;have hgw0:=Nat.ne_of_gt HB4.out;have bt0:=t0;have bt1:=t1;have bt2:=t2;have bt3:=t3;clear t0 t1 t2 t3;obtain ⟨⟨t0,t1,t2,t3⟩,_⟩:=K2.out.n4 (g:=g4) (A:=U) (t:=80) (by simp)
      go_region_held3 (fun w'=>w'.cell? ⟨g4,0,none⟩=some (.int .u64 (nl (U) 3))/\w'.cell? ⟨g4,1,none⟩=some (.int .u64 (nl (U) 2))/\w'.cell? ⟨g4,2,none⟩=some (.int .u64 (nl (U) 1))/\w'.cell? ⟨g4,3,none⟩=some (.int .u64 (nl (U) 0)))
       (first|with_reducible exact ⟨t0,t1,t2,t3⟩|with_reducible exact ⟨Lib.cell?_alloc_some _ t0,Lib.cell?_alloc_some _ t1,Lib.cell?_alloc_some _ t2,Lib.cell?_alloc_some _ t3⟩|with_reducible exact ⟨iy (Lib.cell?_alloc_some _ bt0),iy (Lib.cell?_alloc_some _ bt1),iy (Lib.cell?_alloc_some _ bt2),iy (Lib.cell?_alloc_some _ bt3)⟩|(refine ⟨?_,?_,?_,?_⟩<;>(with_reducible refine DC _ _ _ _ _ _ _ _ ?_ ?_<;>with_reducible assumption))|(refine ⟨?_,?_,?_,?_⟩<;>(with_reducible refine DC _ _ _ _ _ _ _ _ ?_ (Lib.cell?_alloc_some _ ?_)<;>with_reducible assumption))|(with_reducible refine DC _ _ _ _ _ _ _ _ ?_ ?_<;>with_reducible assumption)|(with_reducible refine DC _ _ _ _ _ _ _ _ ?_ (Lib.cell?_alloc_some _ ?_)<;>with_reducible assumption))
       (first
       | ((go_at_call 55;with_reducible refine (CU.out _).mono ?_);rintro r wm ⟨rfl,hk⟩;(first|(with_reducible have hs1:=Nat.le_trans HM.out hk.size;with_reducible have hk3:=K2.out.below hk;replace K2:=Lib.hid hk3;clear hk3;replace HM:=Lib.hid hs1;clear hs1;(try (clear rf0 rf1 rf2 rf3;obtain ⟨_,rf0,rf1,rf2,rf3⟩:=K2.out.n4 (A:=0) (by with_reducible exact List.mem_cons_self ..))))|((first|have hk2:=((KB0.out.new W2.heap.size rfl 80 (nv 0)).drew.below hk)|have hk2:=((K2.out.new _ rfl 80 (nv 0)).below hk));have hg:=HM.out;have hgn:=Nat.ne_of_gt (Nat.lt_of_lt_of_le hb3 HM.out);have hs1:=Nat.le_trans (Nat.le_trans HM.out (iQ _ _)) hk.size;replace K2:=Lib.hid hk2;clear hk2;replace HM:=Lib.hid hs1;clear hs1;obtain ⟨_,rf0,rf1,rf2,rf3⟩:=K2.out.n4 (A:=0) (List.mem_cons_self ..)));clear hk t0 t1 t2 t3;obtain ⟨⟨t0,t1,t2,t3⟩,_⟩:=K2.out.n4 (g:=g4) (A:=U) (t:=80) (by simp);have hgw:=Nat.ne_of_gt (Nat.lt_of_lt_of_le hb3 HM.out))
       | ((go_at_call 56;with_reducible refine (CS1.out _).mono ?_);rintro r wm ⟨rfl,hk⟩;(first|(with_reducible have hs1:=Nat.le_trans HM.out hk.size;with_reducible have hk3:=K2.out.below hk;replace K2:=Lib.hid hk3;clear hk3;replace HM:=Lib.hid hs1;clear hs1;(try (clear rf0 rf1 rf2 rf3;obtain ⟨_,rf0,rf1,rf2,rf3⟩:=K2.out.n4 (A:=0) (by with_reducible exact List.mem_cons_self ..))))|((first|have hk2:=((KB0.out.new W2.heap.size rfl 80 (nv 0)).drew.below hk)|have hk2:=((K2.out.new _ rfl 80 (nv 0)).below hk));have hg:=HM.out;have hgn:=Nat.ne_of_gt (Nat.lt_of_lt_of_le hb3 HM.out);have hs1:=Nat.le_trans (Nat.le_trans HM.out (iQ _ _)) hk.size;replace K2:=Lib.hid hk2;clear hk2;replace HM:=Lib.hid hs1;clear hs1;obtain ⟨_,rf0,rf1,rf2,rf3⟩:=K2.out.n4 (A:=0) (List.mem_cons_self ..)));clear hk t0 t1 t2 t3;obtain ⟨⟨t0,t1,t2,t3⟩,_⟩:=K2.out.n4 (g:=g4) (A:=U) (t:=80) (by simp);have hgw:=Nat.ne_of_gt (Nat.lt_of_lt_of_le hb3 HM.out)))
      all_goals (go_wp2_with fail)
      all_goals go_meet
      all_goals
       have hws:=HWS.out;have hb8:=HB8.out
       first
        | exact ⟨_,rfl,HM.out,(K2.out.new _ rfl 80 (nv sm2)).sub (by intro p hp;simp at hp ⊢;rcases hp with rfl|rfl|rfl<;>simp)⟩
        | exact ⟨_,rfl,hg,fQ (A:=0) (l':=[(b8,80,nv (l0)),(g4,80,nv (U))]) K2.out (List.mem_cons_self ..) (by omega) (by intro p hp;simp at hp;rcases hp with rfl|rfl<;>(simp only [];omega)) (by intro p hp;simp at hp ⊢;rcases hp with rfl|rfl<;>simp) sm2⟩
        | trace_state
     case rest =>
      obtain ⟨g9,rfl,hg9,hK⟩:=hcut;have K3:=Lib.hid hK;clear hK K2 t0 t1 t2 t3 CS1;go_upto_region 11 with (fail)
      go_cut [43] (fun v wx=>v=.bool (decide (U<q1))/\KS w wx [(g9,80,nv (sm2)),(b8,80,nv (l0)),(g4,80,nv (U))])
      case first =>
       replace K3:=Lib.hid K3.out.drew;obtain ⟨⟨t0,t1,t2,t3⟩,_⟩:=K3.out.n4 (g:=g4) (A:=U) (t:=80) (by simp)
       go_region_held3 (fun w'=>w'.cell? ⟨g4,0,none⟩=some (.int .u64 (nl (U) 3))/\w'.cell? ⟨g4,1,none⟩=some (.int .u64 (nl (U) 2))/\w'.cell? ⟨g4,2,none⟩=some (.int .u64 (nl (U) 1))/\w'.cell? ⟨g4,3,none⟩=some (.int .u64 (nl (U) 0)))
        (first|with_reducible exact ⟨t0,t1,t2,t3⟩)
        (first
        | ((go_at_call 55;with_reducible refine (CU.out _).mono ?_);rintro r wm ⟨rfl,hk⟩;replace K3:=Lib.hid (K3.out.below hk);clear hk t0 t1 t2 t3;obtain ⟨⟨t0,t1,t2,t3⟩,_⟩:=K3.out.n4 (g:=g4) (A:=U) (t:=80) (by simp))
        | ((go_at_call 60;with_reducible refine (CC1.out _).mono ?_);rintro r wm ⟨rfl,hk⟩;replace K3:=Lib.hid (K3.out.below hk);clear hk t0 t1 t2 t3;obtain ⟨⟨t0,t1,t2,t3⟩,_⟩:=K3.out.n4 (g:=g4) (A:=U) (t:=80) (by simp)))
       all_goals (go_wp2_with fail)
       all_goals go_meet
       all_goals exact ⟨rfl,K3.out⟩
      case rest =>
       obtain ⟨rfl,hK⟩:=hcut;have K4:=Lib.hid hK;clear hK K3 CC1;go_upto_if 43 with (fail)
       have HWb:Hid (w.heap.size<=b8):=Lib.hid HWS8.out;go_cut [43] (fun v wx=>KS w wx [(b8,80,nv (lg))])
       case first =>
        by_cases hU:U<q1
        . rw [decide_eq_true hU];have m5:=M5.out;have hlg:=HLG.out;rw [if_pos hU] at m5 hlg;have CM1:=Lib.hid (fun w=>jI q1 U h1W.out (by omega) w)
          have CQ1:=Lib.hid (fun w=>zP (q1-U) sm2 (Ai m5.1) w)
          have CA2:=Lib.hid (fun w=>wB (bD (q1-U) sm2) m5.2.1 w)
          have l0W:=M3.out;have CT2:=Lib.hid (fun w=>om (bI (bD (q1-U) sm2)) (by have:=m5.2.2;omega) w)
          have CF2:=fun w=>jI l0 (bI (bD (q1-U) sm2)+bI (bD (q1-U) sm2)) M3.out m5.2.2 w
          rw [<-hlg] at CF2;replace CF2:=Lib.hid CF2;clear m5 hlg M5 HLG;generalize bI (bD (q1-U) sm2)+bI (bD (q1-U) sm2)=aa at *
          generalize bI (bD (q1-U) sm2)=ar at *
          generalize bD (q1-U) sm2=rq at *
          generalize q1-U=dd at *
          have hn1:=hn84.symm;have hn2:b8≠g9:=by have:=HB8.out;omega
          go_wp2_with fail;have HB:Hid (Below wc.heap.size wc wc.drew):=Lib.hid (Below.refl _ _).drew;refine su (fun wx=>Below wc.heap.size wc wx) 9 (by kernel_rfl) ?_
          refine fI (i:=0) (v:=.agg #[.int .u64 (nl (l0) 3),.int .u64 (nl (l0) 2),.int .u64 (nl (l0) 1),.int .u64 (nl (l0) 0)]) rfl (by kernel_rfl) (by kernel_rfl) (by kernel_rfl) (by kernel_rfl) (fun _ _ _ h=>h) (Or.inl ⟨by rfl,?_⟩) HB.out ?_
          . intro wx hSw;obtain ⟨⟨z0,z1,z2,z3⟩,_⟩:=(K4.out.below hSw).n4 (g:=b8) (A:=l0) (t:=80) (by simp)
            go_simp
          try simp only [Act.put,List.setIfInBounds_toArray,List.set_cons_zero,List.set_cons_succ]
          refine fI (i:=2) (v:=.agg #[.int .u64 (nl (U) 3),.int .u64 (nl (U) 2),.int .u64 (nl (U) 1),.int .u64 (nl (U) 0)]) rfl (by kernel_rfl) (by kernel_rfl) (by kernel_rfl) (by kernel_rfl) (fun _ _ _ h=>h) (Or.inl ⟨by rfl,?_⟩) HB.out ?_
          . intro wx hSw;obtain ⟨⟨z0,z1,z2,z3⟩,_⟩:=(K4.out.below hSw).n4 (g:=g4) (A:=U) (t:=80) (by simp)
            go_simp
          try simp only [Act.put,List.setIfInBounds_toArray,List.set_cons_zero,List.set_cons_succ]
          refine fI (i:=4) (v:=.agg #[.int .u64 (nl (sm2) 3),.int .u64 (nl (sm2) 2),.int .u64 (nl (sm2) 1),.int .u64 (nl (sm2) 0)]) rfl (by kernel_rfl) (by kernel_rfl) (by kernel_rfl) (by kernel_rfl) (fun _ _ _ h=>h) (Or.inl ⟨by rfl,?_⟩) HB.out ?_
          . intro wx hSw;obtain ⟨⟨z0,z1,z2,z3⟩,_⟩:=(K4.out.below hSw).n4 (g:=g9) (A:=sm2) (t:=80) (by simp)
            go_simp
          try simp only [Act.put,List.setIfInBounds_toArray,List.set_cons_zero,List.set_cons_succ]
          refine bV (i:=1) (by kernel_rfl) rfl (by rfl) (fun Kx hKx=>?_)
          go_simp;go_at_call 55;refine (CU.out _).mono ?_;rintro r wm ⟨rfl,hk⟩;replace HB:=Lib.hid (HB.out.trans (hk.mono HB.out.size));go_wp2_with fail;refine hKx _ _ (fun _=>HB.out) ?_
          clear hKx Kx hk
          try simp only [Act.put,List.setIfInBounds_toArray,List.set_cons_zero,List.set_cons_succ]
          refine bV (i:=3) (by kernel_rfl) rfl (by rfl) (fun Kx hKx=>?_)
          go_simp;go_at_call 58;refine (CM1.out _).mono ?_;rintro r wm ⟨rfl,hk⟩;replace HB:=Lib.hid (HB.out.trans (hk.mono HB.out.size));go_wp2_with fail;refine hKx _ _ (fun _=>HB.out) ?_
          clear hKx Kx hk
          try simp only [Act.put,List.setIfInBounds_toArray,List.set_cons_zero,List.set_cons_succ]
          refine bV (i:=5) (by kernel_rfl) rfl (by rfl) (fun Kx hKx=>?_)
          go_simp;go_at_call 57;refine (CQ1.out _).mono ?_;rintro r wm ⟨rfl,hk⟩;replace HB:=Lib.hid (HB.out.trans (hk.mono HB.out.size));go_wp2_with fail;refine hKx _ _ (fun _=>HB.out) ?_
          clear hKx Kx hk
          try simp only [Act.put,List.setIfInBounds_toArray,List.set_cons_zero,List.set_cons_succ]
          refine bV (i:=6) (by kernel_rfl) rfl (by rfl) (fun Kx hKx=>?_)
          go_simp;go_at_call 62;refine (CA2.out _).mono ?_;rintro r wm ⟨rfl,hk⟩;replace HB:=Lib.hid (HB.out.trans (hk.mono HB.out.size));go_wp2_with fail;refine hKx _ _ (fun _=>HB.out) ?_
          clear hKx Kx hk
          try simp only [Act.put,List.setIfInBounds_toArray,List.set_cons_zero,List.set_cons_succ]
          refine bV (i:=7) (by kernel_rfl) rfl (by rfl) (fun Kx hKx=>?_)
          go_simp;go_at_call 64;refine (CT2.out _).mono ?_;rintro r wm ⟨rfl,hk⟩;replace HB:=Lib.hid (HB.out.trans (hk.mono HB.out.size));go_wp2_with fail;refine hKx _ _ (fun _=>HB.out) ?_
          clear hKx Kx hk
          try simp only [Act.put,List.setIfInBounds_toArray,List.set_cons_zero,List.set_cons_succ]
          refine bV (i:=8) (by kernel_rfl) rfl (by rfl) (fun Kx hKx=>?_)
          go_simp;go_at_call 58;refine (CF2.out _).mono ?_;rintro r wm ⟨rfl,hk⟩;replace HB:=Lib.hid (HB.out.trans (hk.mono HB.out.size));go_wp2_with fail;refine hKx _ _ (fun _=>HB.out) ?_
          clear hKx Kx hk
          try simp only [Act.put,List.setIfInBounds_toArray,List.set_cons_zero,List.set_cons_succ]
          obtain ⟨⟨v0,v1,v2,v3⟩,vf0,vf1,vf2,vf3⟩:=(K4.out.below HB.out).n4 (g:=b8) (A:=l0) (t:=80) (by simp)
          refine bV (i:=9) (by kernel_rfl) rfl (by rfl) (fun Kx hKx=>?_)
          go_simp;refine hKx _ _ (fun h=>absurd rfl h) ?_
          clear hKx Kx;refine tH (by kernel_rfl) ?_ _
          go_wp2_with fail;go_meet;exact fQ (t:=80) (l':=[]) (K4.out.below HB.out) (g:=b8) (A:=l0) (by simp) (by have:=HWb.out;omega) (by simp) (by simp) lg
        . rw [decide_eq_false hU];have m5:=M5.out;have hlg:=HLG.out;rw [if_neg hU] at m5 hlg;have CM1:=Lib.hid (fun w=>jI U q1 huW (by omega) w)
          have CQ1:=Lib.hid (fun w=>zP (U-q1) sm2 (Ai m5.1) w)
          have CA2:=Lib.hid (fun w=>wB (bD (U-q1) sm2) m5.2.1 w)
          have l0W:=M3.out;have CT2:=Lib.hid (fun w=>om (bI (bD (U-q1) sm2)) (by have:=m5.2.2;omega) w)
          have CF2:=fun w=>jf l0 (bI (bD (U-q1) sm2)+bI (bD (U-q1) sm2)) m5.2.2 w
          rw [<-hlg] at CF2;replace CF2:=Lib.hid CF2;clear m5 hlg M5 HLG;generalize bI (bD (U-q1) sm2)+bI (bD (U-q1) sm2)=aa at *
          generalize bI (bD (U-q1) sm2)=ar at *
          generalize bD (U-q1) sm2=rq at *
          generalize U-q1=dd at *
          have hn1:=hn84.symm;have hn2:b8≠g9:=by have:=HB8.out;omega
          go_wp2_with fail;have HB:Hid (Below wc.heap.size wc wc.drew):=Lib.hid (Below.refl _ _).drew;refine su (fun wx=>Below wc.heap.size wc wx) 9 (by kernel_rfl) ?_
          refine fI (i:=0) (v:=.agg #[.int .u64 (nl (l0) 3),.int .u64 (nl (l0) 2),.int .u64 (nl (l0) 1),.int .u64 (nl (l0) 0)]) rfl (by kernel_rfl) (by kernel_rfl) (by kernel_rfl) (by kernel_rfl) (fun _ _ _ h=>h) (Or.inl ⟨by rfl,?_⟩) HB.out ?_
          . intro wx hSw;obtain ⟨⟨z0,z1,z2,z3⟩,_⟩:=(K4.out.below hSw).n4 (g:=b8) (A:=l0) (t:=80) (by simp)
            go_simp
          try simp only [Act.put,List.setIfInBounds_toArray,List.set_cons_zero,List.set_cons_succ]
          refine fI (i:=1) (v:=.agg #[.int .u64 (nl (U) 3),.int .u64 (nl (U) 2),.int .u64 (nl (U) 1),.int .u64 (nl (U) 0)]) rfl (by kernel_rfl) (by kernel_rfl) (by kernel_rfl) (by kernel_rfl) (fun _ _ _ h=>h) (Or.inl ⟨by rfl,?_⟩) HB.out ?_
          . intro wx hSw;obtain ⟨⟨z0,z1,z2,z3⟩,_⟩:=(K4.out.below hSw).n4 (g:=g4) (A:=U) (t:=80) (by simp)
            go_simp
          try simp only [Act.put,List.setIfInBounds_toArray,List.set_cons_zero,List.set_cons_succ]
          refine fI (i:=4) (v:=.agg #[.int .u64 (nl (sm2) 3),.int .u64 (nl (sm2) 2),.int .u64 (nl (sm2) 1),.int .u64 (nl (sm2) 0)]) rfl (by kernel_rfl) (by kernel_rfl) (by kernel_rfl) (by kernel_rfl) (fun _ _ _ h=>h) (Or.inl ⟨by rfl,?_⟩) HB.out ?_
          . intro wx hSw;obtain ⟨⟨z0,z1,z2,z3⟩,_⟩:=(K4.out.below hSw).n4 (g:=g9) (A:=sm2) (t:=80) (by simp)
            go_simp
          try simp only [Act.put,List.setIfInBounds_toArray,List.set_cons_zero,List.set_cons_succ]
          refine bV (i:=2) (by kernel_rfl) rfl (by rfl) (fun Kx hKx=>?_)
          go_simp;go_at_call 55;refine (CU.out _).mono ?_;rintro r wm ⟨rfl,hk⟩;replace HB:=Lib.hid (HB.out.trans (hk.mono HB.out.size));go_wp2_with fail;refine hKx _ _ (fun _=>HB.out) ?_
          clear hKx Kx hk
          try simp only [Act.put,List.setIfInBounds_toArray,List.set_cons_zero,List.set_cons_succ]
          refine bV (i:=3) (by kernel_rfl) rfl (by rfl) (fun Kx hKx=>?_)
          go_simp;go_at_call 58;refine (CM1.out _).mono ?_;rintro r wm ⟨rfl,hk⟩;replace HB:=Lib.hid (HB.out.trans (hk.mono HB.out.size));go_wp2_with fail;refine hKx _ _ (fun _=>HB.out) ?_
          clear hKx Kx hk
          try simp only [Act.put,List.setIfInBounds_toArray,List.set_cons_zero,List.set_cons_succ]
          refine bV (i:=5) (by kernel_rfl) rfl (by rfl) (fun Kx hKx=>?_)
          go_simp;go_at_call 57;refine (CQ1.out _).mono ?_;rintro r wm ⟨rfl,hk⟩;replace HB:=Lib.hid (HB.out.trans (hk.mono HB.out.size));go_wp2_with fail;refine hKx _ _ (fun _=>HB.out) ?_
          clear hKx Kx hk
          try simp only [Act.put,List.setIfInBounds_toArray,List.set_cons_zero,List.set_cons_succ]
          refine bV (i:=6) (by kernel_rfl) rfl (by rfl) (fun Kx hKx=>?_)
          go_simp;go_at_call 62;refine (CA2.out _).mono ?_;rintro r wm ⟨rfl,hk⟩;replace HB:=Lib.hid (HB.out.trans (hk.mono HB.out.size));go_wp2_with fail;refine hKx _ _ (fun _=>HB.out) ?_
          clear hKx Kx hk
          try simp only [Act.put,List.setIfInBounds_toArray,List.set_cons_zero,List.set_cons_succ]
          refine bV (i:=7) (by kernel_rfl) rfl (by rfl) (fun Kx hKx=>?_)
          go_simp;go_at_call 64;refine (CT2.out _).mono ?_;rintro r wm ⟨rfl,hk⟩;replace HB:=Lib.hid (HB.out.trans (hk.mono HB.out.size));go_wp2_with fail;refine hKx _ _ (fun _=>HB.out) ?_
          clear hKx Kx hk
          try simp only [Act.put,List.setIfInBounds_toArray,List.set_cons_zero,List.set_cons_succ]
          refine bV (i:=8) (by kernel_rfl) rfl (by rfl) (fun Kx hKx=>?_)
          go_simp;go_at_call 56;refine (CF2.out _).mono ?_;rintro r wm ⟨rfl,hk⟩;replace HB:=Lib.hid (HB.out.trans (hk.mono HB.out.size));go_wp2_with fail;refine hKx _ _ (fun _=>HB.out) ?_
          clear hKx Kx hk
          try simp only [Act.put,List.setIfInBounds_toArray,List.set_cons_zero,List.set_cons_succ]
          obtain ⟨⟨v0,v1,v2,v3⟩,vf0,vf1,vf2,vf3⟩:=(K4.out.below HB.out).n4 (g:=b8) (A:=l0) (t:=80) (by simp)
          refine bV (i:=9) (by kernel_rfl) rfl (by rfl) (fun Kx hKx=>?_)
          go_simp;refine hKx _ _ (fun h=>absurd rfl h) ?_
          clear hKx Kx;refine tH (by kernel_rfl) ?_ _
          go_wp2_with fail;go_meet;exact fQ (t:=80) (l':=[]) (K4.out.below HB.out) (g:=b8) (A:=l0) (by simp) (by have:=HWb.out;omega) (by simp) (by simp) lg
       case rest =>
        have K5:=Lib.hid hcut;clear hcut K4;obtain ⟨⟨l0,l1,l2,l3⟩,_⟩:=K5.out.n4 (g:=b8) (A:=lg) (t:=80) (by simp)
        go_wp2_with fail;refine (CH1.out _).mono ?_;rintro e we ⟨rfl,hb⟩;replace K5:=Lib.hid (K5.out.below hb);clear hb l0 l1 l2 l3 CH1;go_wp2_with fail;refine (CH2.out _).mono ?_;rintro e wf ⟨rfl,hb⟩;replace K5:=Lib.hid (K5.out.below hb);clear hb CH2;go_wp2_with fail;refine (RP _).mono ?_;rintro e wg ⟨rfl,hb⟩;replace K5:=Lib.hid (K5.out.below hb);clear hb;go_wp2_with fail;refine (CH3.out _).mono ?_;rintro e wh ⟨rfl,hb⟩;have HB:Hid (Below w.heap.size w wh):=Lib.hid (K5.out.below hb).1;clear hb CH3 K5;have IX:∀ (a b c d:Int) (w:World),(Instr.index 80 (.agg #[.int .u64 a,.int .u64 b,.int .u64 c,.int .u64 d]) (.int .i64 3)).run Tryz.prog w=.ok (.int .u64 d) w:=fun _ _ _ _ _=>by kernel_rfl
        go_wp2;go_ret;exact ⟨rfl,HB.out⟩
   . rw [decide_eq_false hlt];have hlt2:¬ u<QA+QA/2:=by rw [hlim.out];exact hlt
     cases f with
     | zero=>simp only [okH,decide_eq_true_eq] at hok;exact absurd hok hlt2
     | succ f =>
      simp only [okH,if_neg hlt2] at hok;simp only [jE,if_neg hlt2] at hu;simp only [eG,if_neg hlt2] at hk;obtain ⟨⟨u0,u1,u2,u3⟩,_⟩:=KA.out.n4 (g:=g4) (A:=u) (t:=80) (by simp)
      have CB:=Lib.hid (fun w=>zU u huW w)
      go_wp2_with fail;refine (CB.out _).mono ?_;rintro e w7 ⟨rfl,hb⟩;have KB:=Lib.hid (KA.out.below hb);clear hb CB KA u0 u1 u2 u3;obtain ⟨_,uf0,uf1,uf2,uf3⟩:=KB.out.n4 (g:=g4) (A:=u) (t:=80) (by simp)
      have hne:g4≠w5.heap.size:=by
       intro he;have:=HG.out;omega
      have KC:=Lib.hid (fQ (t:=80) (l':=[(w5.heap.size,80,nv (lim))]) KB.out (g:=g4) (A:=u) (by simp) hg4 (by intro p hp;simp at hp;subst hp;simp only [];omega) (by intro p hp;simp at hp ⊢;subst hp;simp) (u/2))
      have e1:IntKind.u64.wrap ((k:Int)+1)=((k+1:Nat):Int):=by rw [w64 _ (by unfold U64;omega)];rfl
      clear KB;go_wp2;exact ⟨⟨f,k+1,u/2,rfl,hok,hu,by omega,by omega,by omega,KC.out⟩,by simp only [intOf];omega⟩
