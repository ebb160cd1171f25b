/- Package rhumb's quotient, bit by bit. -/
import Derived.Test.YtbcnifkfaknnaaaGreatZRn1
import Derived.Deep.DeepCutAuto
set_option linter.unusedVariables false
set_option linter.unusedSimpArgs false
set_option maxRecDepth 100000
set_option maxHeartbeats 1000000
namespace Go.Proofs.YtbcnifkfaknnaaaGreat
open Go.RowKit Alm
theorem MG (X i:Nat) (h:i<448):(i<192->ig X i%2=0)/\(192<=i->∃ j s:Nat,j<=3/\s<64/\Int.tdiv ((i:Int)-192) 64=(j:Int)/\Int.tmod ((i:Int)-192) 64=(s:Int)/\bits .and .u64 (nl X (3-j)/2^s) 1=((ig X i%2:Nat):Int)):=by
 refine ⟨fun h1=>MO X i h1,fun h1=>⟨(i-192)/64,(i-192)%64,by omega,by omega,by rw [Int.tdiv_eq_ediv_of_nonneg (by omega)];omega,by rw [Int.tmod_eq_emod_of_nonneg (by omega)];omega,?_⟩⟩
 rw [yT X i h1];have e:=Sr X ((i-192)/64) ((i-192)%64) (by omega) (by omega)
 rw [show 64*((i-192)/64)+(i-192)%64=i-192 by omega] at e
 rw [<-e];have hN:nl X (3-(i-192)/64)/2^((i-192)%64)=((X/2^(64*(3-(3-(i-192)/64)))%2^64/2^((i-192)%64):Nat):Int):=by unfold nl;norm_cast
 have lt:X/2^(64*(3-(3-(i-192)/64)))%2^64/2^((i-192)%64)<2^64:=Nat.lt_of_le_of_lt (Nat.div_le_self _ _) (Nat.mod_lt _ (Nat.two_pow_pos _));rw [hN];generalize X/2^(64*(3-(3-(i-192)/64)))%2^64/2^((i-192)%64)=c at *
 have hm:=bits_mask .u64 64 (by decide) (fun n h0 h1=>w64 n ⟨h0,by omega⟩) 1 (by decide) (c:Int) (by omega) (by omega)
 rw [show ((1:Int))=2^1-1 from rfl,hm]
 omega
theorem AY (A:Nat):bits .or .u64 (nl (A+A) 3) 1=nl (A+A+1) 3/\nl (A+A+1) 0=nl (A+A) 0/\nl (A+A+1) 1=nl (A+A) 1/\nl (A+A+1) 2=nl (A+A) 2:=by
 have e:∀ k:Nat,0<k->(A+A+1)/2^k=(A+A)/2^k:=by
  intro k hk;obtain ⟨m,rfl⟩:∃ m,k=m+1:=⟨k-1,by omega⟩
  rw [Nat.pow_succ',<-Nat.div_div_eq_div_mul,<-Nat.div_div_eq_div_mul]
  congr 1
  omega
 refine ⟨?_,?_,?_,?_⟩
 . obtain ⟨_,_,_,h3⟩:=jo (A+A);obtain ⟨_,_,_,g3⟩:=jo (A+A+1);rw [h3,g3];have:=bits_join .u64 64 (by decide) (fun n h0 h1=>w64 n ⟨h0,by omega⟩) 1 (((A+A)%18446744073709551616:Nat):Int) 1 (by omega) (by omega) (by omega) (by omega) (by omega) (by omega)
   rw [this];omega
 . unfold nl;rw [e _ (by omega)]
 . unfold nl;rw [e _ (by omega)]
 . unfold nl;rw [e _ (by omega)]
theorem Rh {w wr:World} {l l':List (Nat × TypeId × Array Value)} {g A:Nat} {t:TypeId} (h:KS w wr l) (hm:(g,t,nv (A+A))∈l) (hn:w.heap.size<=g) (hd:∀ p∈l',p.1≠g) (hl:∀ p∈l',p∈l) :
 KS w (wr.setCell ⟨g,0,none⟩ (.int .u64 (nl (A+A+1) 3))) ((g,t,nv (A+A+1))::l'):=by
 have h1:=(h.sub (l':=(g,t,nv (A+A))::l') (fun p hp=>by
  rcases List.mem_cons.1 hp with rfl|hp
  . exact hm
  . exact hl p hp)).set hn hd 0 (.int .u64 (nl (A+A+1) 3))
 obtain ⟨_,e0,e1,e2⟩:=AY A;have e:(nv (A+A)).setIfInBounds 0 (.int .u64 (nl (A+A+1) 3))=nv (A+A+1):=by unfold nv;rw [<-e0,<-e1,<-e2];rfl
 rw [e] at h1;exact h1
theorem zP (X Y:Nat) (h:X<W/\0<Y/\2*Y<=W/\bD X Y<W) (w:World):Calls Tryz.prog 57 #[.agg #[.int .u64 (nl (X) 3),.int .u64 (nl (X) 2),.int .u64 (nl (X) 1),.int .u64 (nl (X) 0)],.agg #[.int .u64 (nl (Y) 3),.int .u64 (nl (Y) 2),.int .u64 (nl (Y) 1),.int .u64 (nl (Y) 0)]] w fun e w'=>e=.returned (.agg #[.int .u64 (nl (bD X Y) 3),.int .u64 (nl (bD X Y) 2),.int .u64 (nl (bD X Y) 1),.int .u64 (nl (bD X Y) 0)])/\Below w.heap.size w w':=by
 have H:=Lib.hid h;clear h;have K0:=Lib.hid ((((((fB w).new w.heap.size rfl 80 (nv X)).new (w.heap.size+1) (by simp) 80 (nv Y)).new (w.heap.size+1+1) (by simp) 80 (nv 0)).new (w.heap.size+1+1+1) (by simp) 80 (nv 0)).new (w.heap.size+1+1+1+1) (by simp) 80 (nv 0))
 go_enter Tryz.func57,Tryz.ntmps57;go_wp2;go_loopw [7] (fun v wr=>∃ m:Nat,v=.int .i64 ((m:Int)-1)/\m<=448/\KS w wr [(w.heap.size+1+1+1,80,nv (ig X m/Y)),(w.heap.size+1+1+1+1,80,nv (ig X m%Y)),(w.heap.size,80,nv (X)),(w.heap.size+1,80,nv (Y)),(w.heap.size+1+1,80,nv (0))]) (fun v _=>(intOf v+1).toNat)
 case atStart =>
  refine ⟨448,rfl,by omega,?_⟩
  rw [LW X H.out.1,Nat.zero_div,Nat.zero_mod];exact K0.out.sub (by intro p hp;simp at hp ⊢;rcases hp with rfl|rfl|rfl|rfl|rfl<;>simp)
 case round =>
  obtain ⟨m,rfl,hm,hK⟩:=hrel;have K1:=Lib.hid hK;clear hK;cases m with
  | zero =>
   rw [J9,show X*QA/Y=bD X Y from by unfold bD;rfl] at K1
   generalize hR:bD X Y=R at K1;replace hR:=Lib.hid hR;generalize X*QA%Y=R2 at K1;obtain ⟨⟨q0,q1,q2,q3⟩,_⟩:=K1.out.n4 (g:=w.heap.size+1+1+1) (A:=R) (t:=80) (by simp)
   obtain ⟨⟨z0,z1,z2,z3⟩,zf0,zf1,zf2,zf3⟩:=K1.out.n4 (g:=w.heap.size+1+1) (A:=0) (t:=80) (by simp)
   have HB:=Lib.hid K1.out.1;go_wp2;refine bodyPost_ret (v:=.agg #[.int .u64 (nl (R) 3),.int .u64 (nl (R) 2),.int .u64 (nl (R) 1),.int .u64 (nl (R) 0)]) (by simp [results,Tryz.results57,go_sem,z0,z1,z2,z3]) rfl ⟨by rw [hR.out],by have:=HB.out;go_light;go_grown⟩
  | succ i =>
   have ST:=Nk (ig X (i+1)) Y (ig X i%2) H.out.2.1 (by omega)
   rw [<-IE] at ST;have hr:ig X (i+1)%Y<Y:=Nat.mod_lt _ H.out.2.1
   have hq:ig X i/Y<W:=by
    have h1:=H.out.2.2.2;unfold bD at h1;exact Nat.lt_of_le_of_lt (Nat.div_le_div_right (QC X i)) h1
   have hb:ig X i%2<=1:=by omega
   have BT:=MG X i (by omega)
   generalize ig X (i+1)/Y=q at *
   generalize ig X (i+1)%Y=r at *
   generalize hqq:ig X i/Y=q' at *
   generalize hrr:ig X i%Y=r' at *
   replace hqq:=Lib.hid hqq;replace hrr:=Lib.hid hrr;generalize ig X i%2=b at *
   have HY:Hid (2*Y<=W):=H.out.2.2.1;have C1:=Lib.hid (fun w=>om r (by have:=HY.out;omega) w)
   have ST:=Lib.hid ST;have hq2:q+q<W/\2*q<=q'/\q'<=2*q+1:=by have:=ST.out;split at this<;>omega
   have C2:=Lib.hid (fun w=>om q hq2.1 w)
   have e0:IntKind.i64.wrap (((i+1:Nat):Int)-1-1)=(i:Int)-1:=by rw [IntWalk.i64_in _ (by omega)];omega
   rw [show ((i+1:Nat):Int)-1=(i:Int) by omega]
   obtain ⟨⟨r0,r1,r2,r3⟩,_⟩:=K1.out.n4 (g:=w.heap.size+1+1+1+1) (A:=r) (t:=80) (by simp)
   go_wp2_with fail;refine (C1.out _).mono ?_;rintro e w1 ⟨rfl,hb1⟩;have K2:=Lib.hid (K1.out.below hb1);clear hb1 r0 r1 r2 r3 K1 C1;obtain ⟨_,r0,r1,r2,r3⟩:=K2.out.n4 (g:=w.heap.size+1+1+1+1) (A:=r) (t:=80) (by simp)
   have K3:=Lib.hid (fQ (t:=80) (l':=[(w.heap.size+1+1+1,80,nv (q)),(w.heap.size,80,nv (X)),(w.heap.size+1,80,nv (Y)),(w.heap.size+1+1,80,nv (0))]) K2.out (g:=w.heap.size+1+1+1+1) (A:=r) (by simp) (by omega) (by intro p hp;simp at hp;rcases hp with rfl|rfl|rfl|rfl<;>(simp only [];omega)) (by intro p hp;simp at hp ⊢;rcases hp with rfl|rfl|rfl|rfl<;>simp) (r+r))
   have OR:=Lib.hid (AY r);have HQ2:=Lib.hid hq2;have HRY:=Lib.hid hr;have HQW:=Lib.hid hq;have HBT:=Lib.hid BT;have HB1:=Lib.hid hb;clear BT hq2 hr hq hb;go_upto_region 6 with (fail)
   go_cut [28] (fun s wx=>s=.bool (decide (b=1))/\wx=((((w1.setCell ⟨w.heap.size+1+1+1+1,0,none⟩ (.int .u64 (nl (r+r) 3))).setCell ⟨w.heap.size+1+1+1+1,1,none⟩ (.int .u64 (nl (r+r) 2))).setCell ⟨w.heap.size+1+1+1+1,2,none⟩ (.int .u64 (nl (r+r) 1))).setCell ⟨w.heap.size+1+1+1+1,3,none⟩ (.int .u64 (nl (r+r) 0))))
   case first =>
    by_cases hi:192<=i
    . obtain ⟨j,s,hj,hs,ht,hm,hbit⟩:=HBT.out.2 hi;have hi':(192:Int)<=(i:Int):=by omega
      have hX:=K3.out.n4 (g:=w.heap.size) (A:=X) (t:=80) (by simp)
      have xj:((((w1.setCell ⟨w.heap.size+1+1+1+1,0,none⟩ (.int .u64 (nl (r+r) 3))).setCell ⟨w.heap.size+1+1+1+1,1,none⟩ (.int .u64 (nl (r+r) 2))).setCell ⟨w.heap.size+1+1+1+1,2,none⟩ (.int .u64 (nl (r+r) 1))).setCell ⟨w.heap.size+1+1+1+1,3,none⟩ (.int .u64 (nl (r+r) 0))).cell? ⟨w.heap.size,j,none⟩=some (.int .u64 (nl X (3-j))):=by
       have:j=0∨j=1∨j=2∨j=3:=by omega
       rcases this with rfl|rfl|rfl|rfl
       . exact hX.1.1
       . exact hX.1.2.1
       . exact hX.1.2.2.1
       . exact hX.1.2.2.2
      clear hX;generalize nl X (3-j)=xw at *
      have HSH:Op.shift .shr .u64 xw .i64 (s:Int)=pure (.int .u64 (xw/2^s)):=by rw [shift_shr .u64 .i64 xw s (by omega) (by show (s:Int)<=64;omega),Int.toNat_natCast]
      generalize xw/2^s=z at *
      have HBIT:=Lib.hid hbit;clear hs hbit;go_wp2_with fail;go_meet;refine ⟨?_,rfl⟩;rw [HBIT.out];have hb1:=HB1.out;refine congrArg Value.bool ?_;rw [Bool.eq_iff_iff];simp;try omega
    . have hi':¬ (192:Int)<=(i:Int):=by omega
      have hb0:b=0:=HBT.out.1 (by omega)
      go_wp2_with fail
      all_goals (go_meet;refine ⟨?_,rfl⟩;subst hb0;rfl)
   case rest =>
    obtain ⟨rfl,hwc⟩:=hcut;have K4:Hid (KS w wc [(w.heap.size+1+1+1+1,80,nv (r+r)),(w.heap.size+1+1+1,80,nv (q)),(w.heap.size,80,nv (X)),(w.heap.size+1,80,nv (Y)),(w.heap.size+1+1,80,nv (0))]):=Lib.hid (by rw [hwc];exact K3.out)
    clear hwc K3 K2 r0 r1 r2 r3;obtain ⟨r1,hr1⟩:∃ r1,r+r+b=r1:=⟨_,rfl⟩;replace hr1:=Lib.hid hr1;go_upto_if 28 with (fail)
    go_cut [28] (fun s wx=>KS w wx [(w.heap.size+1+1+1+1,80,nv (r1)),(w.heap.size+1+1+1,80,nv (q)),(w.heap.size,80,nv (X)),(w.heap.size+1,80,nv (Y)),(w.heap.size+1+1,80,nv (0))])
    case first =>
     obtain ⟨⟨a0,_,_,_⟩,af0,_,_,_⟩:=K4.out.n4 (g:=w.heap.size+1+1+1+1) (A:=r+r) (t:=80) (by simp)
     have hb':b=0∨b=1:=by have:=HB1.out;omega
     rcases hb' with rfl|rfl
     . go_wp2_with fail;go_meet;have e:r1=r+r:=by have:=hr1.out;omega
       rw [e];exact K4.out
     . have K5:=Lib.hid (Rh (t:=80) (l':=[(w.heap.size+1+1+1,80,nv (q)),(w.heap.size,80,nv (X)),(w.heap.size+1,80,nv (Y)),(w.heap.size+1+1,80,nv (0))]) K4.out (g:=w.heap.size+1+1+1+1) (A:=r) (by simp) (by omega) (by intro p hp;simp at hp;rcases hp with rfl|rfl|rfl|rfl<;>(simp only [];omega)) (by intro p hp;simp at hp ⊢;rcases hp with rfl|rfl|rfl|rfl<;>simp))
       have OR1:=OR.out.1;generalize nl (r+r) 3=x0 at *
       generalize nl (r+r+1) 3=y0 at *
       go_wp2_with fail;go_meet;rw [<-hr1.out];exact K5.out
    case rest =>
     have K5:=Lib.hid hcut;clear hcut K4;obtain ⟨⟨q0,q1,q2,q3⟩,_⟩:=K5.out.n4 (g:=w.heap.size+1+1+1) (A:=q) (t:=80) (by simp)
     go_wp2_with fail;refine (C2.out _).mono ?_;rintro e w2 ⟨rfl,hb2⟩;have K6:=Lib.hid (K5.out.below hb2);clear hb2 q0 q1 q2 q3 K5 C2;obtain ⟨_,qf0,qf1,qf2,qf3⟩:=K6.out.n4 (g:=w.heap.size+1+1+1) (A:=q) (t:=80) (by simp)
     have K7:=Lib.hid (fQ (t:=80) (l':=[(w.heap.size+1+1+1+1,80,nv (r1)),(w.heap.size,80,nv (X)),(w.heap.size+1,80,nv (Y)),(w.heap.size+1+1,80,nv (0))]) K6.out (g:=w.heap.size+1+1+1) (A:=q) (by simp) (by omega) (by intro p hp;simp at hp;rcases hp with rfl|rfl|rfl|rfl<;>(simp only [];omega)) (by intro p hp;simp at hp ⊢;rcases hp with rfl|rfl|rfl|rfl<;>simp) (q+q))
     obtain ⟨⟨s0,s1,s2,s3⟩,_⟩:=K7.out.n4 (g:=w.heap.size+1+1+1+1) (A:=r1) (t:=80) (by simp)
     obtain ⟨⟨y0,y1,y2,y3⟩,_⟩:=K7.out.n4 (g:=w.heap.size+1) (A:=Y) (t:=80) (by simp)
     have hY:Y<W/\r1<W:=by have:=HY.out;have:=HRY.out;have:=HB1.out;have:=H.out.2.1;have:=hr1.out;omega
     have C3:=Lib.hid (fun w=>AL r1 Y hY.2 hY.1 w)
     clear hY;go_wp2_with fail;refine (C3.out _).mono ?_;rintro e w3 ⟨rfl,hb3⟩;have K8:=Lib.hid (K7.out.below hb3);clear hb3 s0 s1 s2 s3 y0 y1 y2 y3 qf0 qf1 qf2 qf3 K6 K7 C3
     have ST2:Hid ((r1<Y->q'=q+q/\r'=r1)/\(¬ r1<Y->q'=q+q+1/\r'=r1-Y)):=Lib.hid (by
      have h:=ST.out;have h1:=hr1.out;split at h
      . exact ⟨fun _=>by omega,fun hn=>by omega⟩
      . exact ⟨fun hn=>by omega,fun _=>by omega⟩)
     have R1W:Hid (r1<W/\i<=447):=Lib.hid (by have:=HY.out;have:=HRY.out;have:=HB1.out;have:=H.out.2.1;have:=hr1.out;omega)
     clear ST HQ2 HRY HQW HBT OR hr1 HY
     by_cases hlt:r1<Y
     . obtain ⟨rfl,rfl⟩:=ST2.out.1 hlt;rw [decide_eq_true hlt];go_wp2;exact ⟨⟨i,rfl,by omega,by rw [hqq.out,hrr.out];exact K8.out.sub (by intro p hp;simp at hp ⊢;rcases hp with rfl|rfl|rfl|rfl|rfl<;>simp)⟩,by simp only [intOf];omega⟩
     . obtain ⟨rfl,rfl⟩:=ST2.out.2 hlt;rw [decide_eq_false hlt];obtain ⟨⟨s0,s1,s2,s3⟩,_⟩:=K8.out.n4 (g:=w.heap.size+1+1+1+1) (A:=r1) (t:=80) (by simp)
       obtain ⟨⟨y0,y1,y2,y3⟩,_⟩:=K8.out.n4 (g:=w.heap.size+1) (A:=Y) (t:=80) (by simp)
       have C4:=Lib.hid (fun w=>jI r1 Y R1W.out.1 (by omega) w)
       go_wp2_with fail;refine (C4.out _).mono ?_;rintro e w4 ⟨rfl,hb4⟩;have K9:=Lib.hid (K8.out.below hb4);clear hb4 s0 s1 s2 s3 y0 y1 y2 y3 K8 C4;obtain ⟨_,rf0,rf1,rf2,rf3⟩:=K9.out.n4 (g:=w.heap.size+1+1+1+1) (A:=r1) (t:=80) (by simp)
       have K10:=Lib.hid (fQ (t:=80) (l':=[(w.heap.size+1+1+1,80,nv (q+q)),(w.heap.size,80,nv (X)),(w.heap.size+1,80,nv (Y)),(w.heap.size+1+1,80,nv (0))]) K9.out (g:=w.heap.size+1+1+1+1) (A:=r1) (by simp) (by omega) (by intro p hp;simp at hp;rcases hp with rfl|rfl|rfl|rfl<;>(simp only [];omega)) (by intro p hp;simp at hp ⊢;rcases hp with rfl|rfl|rfl|rfl<;>simp) (r1-Y))
       have K11:=Lib.hid (Rh (t:=80) (l':=[(w.heap.size+1+1+1+1,80,nv (r1-Y)),(w.heap.size,80,nv (X)),(w.heap.size+1,80,nv (Y)),(w.heap.size+1+1,80,nv (0))]) K10.out (g:=w.heap.size+1+1+1) (A:=q) (by simp) (by omega) (by intro p hp;simp at hp;rcases hp with rfl|rfl|rfl|rfl<;>(simp only [];omega)) (by intro p hp;simp at hp ⊢;rcases hp with rfl|rfl|rfl|rfl<;>simp))
       obtain ⟨⟨a0,_,_,_⟩,af0,_,_,_⟩:=K10.out.n4 (g:=w.heap.size+1+1+1) (A:=q+q) (t:=80) (by simp)
       have OR1:=(AY q).1;clear K9;generalize nl (q+q) 3=x0 at *
       generalize nl (q+q+1) 3=yy at *
       go_wp2;exact ⟨⟨i,rfl,by omega,by rw [hqq.out,hrr.out];exact K11.out.sub (by intro p hp;simp at hp ⊢;rcases hp with rfl|rfl|rfl|rfl|rfl<;>simp)⟩,by simp only [intOf];omega⟩
