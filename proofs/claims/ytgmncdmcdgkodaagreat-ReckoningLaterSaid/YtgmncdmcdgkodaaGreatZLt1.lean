/- Reckoning: the leg of any motion. -/
import Derived.Test.YtgmncdmcdgkodaaGreatZTm1
import Derived.Test.YtgmncdmcdgkodaaGreatZRk9
import Derived.Deep.DeepCutAuto
set_option linter.unusedVariables false
set_option linter.unusedSimpArgs false
set_option maxRecDepth 100000
set_option maxHeartbeats 4000000
namespace Go.Proofs.YtgmncdmcdgkodaaGreat
open Go.RowKit Alm Sx
def lgA (c0 c1 v0 v1 f0 f1 t0 t1:Int):Bool:=spB v0 v1&&(aC c0 c1&&(tmB f0 f1&&tmB t0 t1))
def lgE (c0 c1 v0 v1 f0 f1 t0 t1:Int):Int:=if lgA c0 c1 v0 v1 f0 f1 t0 t1=false then 1 else if t1<f0 then 17 else if t1-f0>34560000000 then 2 else 0
def aA (v0 f1 t0:Int):Int:=v0*(if 0<t0-f1 then t0-f1 else 0)/3600000
def az (v1 f0 t1:Int):Int:=(v1*(t1-f0)+3600000-1)/3600000
theorem CW (a b q:Int) (w:World) (ha:0<=a/\a<=9000000000000000000) (hb:0<b/\b<=100000000) (hq:(a+b-1)/b=q) :
 Calls Tryz.prog 29 #[.int .i64 a,.int .i64 b] w fun e w'=>e=.returned (.int .i64 q)/\w=w':=by
 obtain ⟨h1,h2,h3⟩:=nI (a:=a+b-1) (by omega) hb.1
 rw [hq] at h1 h2 h3;have h4:b≠0:=by omega
 have h5:IntKind.i64.wrap q=q:=Go.IntWalk.i64_in _ (by omega)
 have h6:IntKind.i64.wrap (a+b)=a+b:=Go.IntWalk.i64_in _ (by omega)
 have h7:IntKind.i64.wrap (a+b-1)=a+b-1:=Go.IntWalk.i64_in _ (by omega)
 clear hq;go_enter Tryz.func29,Tryz.ntmps29;go_wp2;go_ret;exact ⟨by simp [h1,h5,h6,h7],rfl⟩
theorem cZ {a b A B:Int} (ha:0<=a/\a<=A) (hb:0<=b/\b<=B):0<=a*b/\a*b<=A*B :=
 ⟨Int.mul_nonneg ha.1 hb.1,Int.mul_le_mul ha.2 hb.2 hb.1 (by omega)⟩
theorem jl {c0 c1 v0 v1 f0 f1 t0 t1:Int} (h:lgE c0 c1 v0 v1 f0 f1 t0 t1=0):(0<=v0/\v0<=v1/\v1<=200000)/\aC c0 c1=true/\tmB f0 f1=true/\tmB t0 t1=true/\f0<=t1/\t1-f0<=34560000000:=by
 unfold lgE at h;split at h
 . cases h
 . rename_i ha
   have ha:lgA c0 c1 v0 v1 f0 f1 t0 t1=true:=by cases k:lgA c0 c1 v0 v1 f0 f1 t0 t1<;>simp_all
   unfold lgA spB at ha;rw [Bool.and_eq_true,Bool.and_eq_true,Bool.and_eq_true,decide_eq_true_eq] at ha;split at h
   . cases h
   . split at h
     . cases h
     . exact ⟨ha.1,ha.2.1,ha.2.2.1,ha.2.2.2,by omega,by omega⟩
theorem jU (c0 c1 v0 v1 f0 f1 t0 t1:Int) (w:World) (h:lgE c0 c1 v0 v1 f0 f1 t0 t1=0) :
 Calls Tryz.prog 9 #[.agg #[.int .i64 c0,.int .i64 c1,.int .i64 v0,.int .i64 v1],.agg #[.int .i64 f0,.int .i64 f1],.agg #[.int .i64 t0,.int .i64 t1]] w fun e w'=>e=.returned (.tuple #[.agg #[.int .i64 c0,.int .i64 c1,.int .i64 (aA v0 f1 t0),.int .i64 (az v1 f0 t1)],.int .i64 0])/\Below w.heap.size w w':=by
 obtain ⟨h1,h2,h3,h4,h5,h6⟩:=jl h;have k3:=(dF _ _).1 h3;have k4:=(dF _ _).1 h4;have CS:Hid (∀ w,Calls Tryz.prog 25 #[.agg #[.int .i64 v0,.int .i64 v1]] w fun e w'=>e=.returned (.bool true)/\Below w.heap.size w w'):=Lib.hid (fun w=>by have:=pq v0 v1 w;rw [decide_eq_true h1] at this;exact this)
 have CV:=Lib.hid (fun w=>bX c0 c1 w)
 rw [h2] at CV;have C1:=Lib.hid (fun w=>ma f0 f1 w)
 rw [h3] at C1;have C2:=Lib.hid (fun w=>ma t0 t1 w)
 rw [h4] at C2;have e1:IntKind.i64.wrap (t0-f1)=t0-f1:=Go.IntWalk.i64_in _ (by omega)
 have e2:IntKind.i64.wrap (t1-f0)=t1-f0:=Go.IntWalk.i64_in _ (by omega)
 have hD:0<=(if 0<t0-f1 then t0-f1 else 0)/\(if 0<t0-f1 then t0-f1 else 0)<=34560000000:=by split<;>omega
 have LO:=Lib.hid (show v0*(if 0<t0-f1 then t0-f1 else 0)/3600000=aA v0 f1 t0 from rfl)
 have HI:=Lib.hid (show (v1*(t1-f0)+3600000-1)/3600000=az v1 f0 t1 from rfl)
 have D1:Hid ((if 0<t0-f1 then t0-f1 else 0)=0∨0<t0-f1):=Lib.hid (by by_cases q:0<t0-f1;exact .inr q;exact .inl (if_neg q))
 have hm1:=cZ (a:=v0) (b:=if 0<t0-f1 then t0-f1 else 0) (A:=200000) (B:=34560000000) (by omega) hD
 have hm2:=cZ (a:=v1) (b:=t1-f0) (A:=200000) (B:=34560000000) (by omega) (by omega)
 have e3:IntKind.i64.wrap (v0*(if 0<t0-f1 then t0-f1 else 0))=v0*(if 0<t0-f1 then t0-f1 else 0):=Go.IntWalk.i64_in _ (by omega)
 have e4:IntKind.i64.wrap (v1*(t1-f0))=v1*(t1-f0):=Go.IntWalk.i64_in _ (by omega)
 have F1:=Lib.hid (fun w=>Bu (v0*(if 0<t0-f1 then t0-f1 else 0)) 3600000 (aA v0 f1 t0) w (by omega) (by decide) LO.out)
 have F2:=Lib.hid (fun w=>CW (v1*(t1-f0)) 3600000 (az v1 f0 t1) w (by omega) (by decide) HI.out)
 have n5:¬ t1<f0:=by omega
 have n6:¬ t1-f0>34560000000:=by omega
 have K0:=Lib.hid ((((au w).new w.heap.size rfl 25 #[.int .i64 c0,.int .i64 c1,.int .i64 v0,.int .i64 v1]).new (w.heap.size+1) (by simp) 26 #[.int .i64 f0,.int .i64 f1]).new (w.heap.size+1+1) (by simp) 26 #[.int .i64 t0,.int .i64 t1] |>.new (w.heap.size+1+1+1) (by simp) 35 #[.int .i64 0,.int .i64 0,.int .i64 0,.int .i64 0])
 have KC:Hid (∀ wr:World,KS w wr [(w.heap.size+1+1+1,35,#[.int .i64 0,.int .i64 0,.int .i64 0,.int .i64 0]),(w.heap.size+1+1,26,#[.int .i64 t0,.int .i64 t1]),(w.heap.size+1,26,#[.int .i64 f0,.int .i64 f1]),(w.heap.size,25,#[.int .i64 c0,.int .i64 c1,.int .i64 v0,.int .i64 v1])] ->
  (wr.cell? ⟨w.heap.size,0,none⟩=some (.int .i64 c0)/\wr.cell? ⟨w.heap.size,1,none⟩=some (.int .i64 c1)/\wr.cell? ⟨w.heap.size,2,none⟩=some (.int .i64 v0)/\wr.cell? ⟨w.heap.size,3,none⟩=some (.int .i64 v1))/\(wr.cell? ⟨w.heap.size+1,0,none⟩=some (.int .i64 f0)/\wr.cell? ⟨w.heap.size+1,1,none⟩=some (.int .i64 f1))/\(wr.cell? ⟨w.heap.size+1+1,0,none⟩=some (.int .i64 t0)/\wr.cell? ⟨w.heap.size+1+1,1,none⟩=some (.int .i64 t1))/\((wr.cell? ⟨w.heap.size+1+1+1,0,none⟩=some (.int .i64 0)/\wr.cell? ⟨w.heap.size+1+1+1,1,none⟩=some (.int .i64 0)/\wr.cell? ⟨w.heap.size+1+1+1,2,none⟩=some (.int .i64 0)/\wr.cell? ⟨w.heap.size+1+1+1,3,none⟩=some (.int .i64 0))/\wr.frozen? ⟨w.heap.size+1+1+1,0,none⟩=false/\wr.frozen? ⟨w.heap.size+1+1+1,1,none⟩=false/\wr.frozen? ⟨w.heap.size+1+1+1,2,none⟩=false/\wr.frozen? ⟨w.heap.size+1+1+1,3,none⟩=false)):=Lib.hid (fun wr K=>by
  have m:=fun i v q=>K.c (g:=w.heap.size) (t:=25) (cs:=#[.int .i64 c0,.int .i64 c1,.int .i64 v0,.int .i64 v1]) (by simp) (i:=i) (v:=v) q
  have f:=fun i v q=>K.c (g:=w.heap.size+1) (t:=26) (cs:=#[.int .i64 f0,.int .i64 f1]) (by simp) (i:=i) (v:=v) q
  have t:=fun i v q=>K.c (g:=w.heap.size+1+1) (t:=26) (cs:=#[.int .i64 t0,.int .i64 t1]) (by simp) (i:=i) (v:=v) q
  have l:=fun i v q=>K.c (g:=w.heap.size+1+1+1) (t:=35) (cs:=#[.int .i64 0,.int .i64 0,.int .i64 0,.int .i64 0]) (by simp) (i:=i) (v:=v) q
  have z:=fun i=>K.f (g:=w.heap.size+1+1+1) (t:=35) (cs:=#[.int .i64 0,.int .i64 0,.int .i64 0,.int .i64 0]) (by simp) i
  exact ⟨⟨m 0 _ rfl,m 1 _ rfl,m 2 _ rfl,m 3 _ rfl⟩,⟨f 0 _ rfl,f 1 _ rfl⟩,⟨t 0 _ rfl,t 1 _ rfl⟩,⟨l 0 _ rfl,l 1 _ rfl,l 2 _ rfl,l 3 _ rfl⟩,z 0,z 1,z 2,z 3⟩)
 clear h h1 h2 h3 h4 h5 h6 k3 k4 hD hm1 hm2 LO HI;go_enter Tryz.func9,Tryz.ntmps9;go_wp2_with fail;refine (CS.out _).mono ?_;rintro e w1 ⟨rfl,hb⟩;have K1:=Lib.hid (K0.out.below hb);clear hb K0 CS;obtain ⟨⟨m0,m1,m2,m3⟩,⟨f0',f1'⟩,⟨t0',t1'⟩,⟨l0,l1,l2,l3⟩,z0,z1,z2,z3⟩:=KC.out _ K1.out;go_wp2_with fail;refine (CV.out _).mono ?_;rintro e w2 ⟨rfl,hb⟩;have K2:=Lib.hid (K1.out.below hb);clear hb K1 CV m0 m1 m2 m3 f0' f1' t0' t1' l0 l1 l2 l3 z0 z1 z2 z3;obtain ⟨⟨m0,m1,m2,m3⟩,⟨f0',f1'⟩,⟨t0',t1'⟩,⟨l0,l1,l2,l3⟩,z0,z1,z2,z3⟩:=KC.out _ K2.out;go_wp2_with fail;refine (C1.out _).mono ?_;rintro e w3 ⟨rfl,hb⟩;have K3:=Lib.hid (K2.out.below hb);clear hb K2 C1 m0 m1 m2 m3 f0' f1' t0' t1' l0 l1 l2 l3 z0 z1 z2 z3;obtain ⟨⟨m0,m1,m2,m3⟩,⟨f0',f1'⟩,⟨t0',t1'⟩,⟨l0,l1,l2,l3⟩,z0,z1,z2,z3⟩:=KC.out _ K3.out;go_wp2_with fail;refine (C2.out _).mono ?_;rintro e w4 ⟨rfl,hb⟩;have K4:=Lib.hid (K3.out.below hb);clear hb K3 C2 m0 m1 m2 m3 f0' f1' t0' t1' l0 l1 l2 l3 z0 z1 z2 z3;obtain ⟨⟨m0,m1,m2,m3⟩,⟨f0',f1'⟩,⟨t0',t1'⟩,⟨l0,l1,l2,l3⟩,z0,z1,z2,z3⟩:=KC.out _ K4.out;go_upto_region 7 with (fail)
 go_cut [8,9] (fun s8 s9 wx=>s8=.int .i64 (if 0<t0-f1 then t0-f1 else 0)/\s9=.int .i64 (t1-f0)/\KS w wx [(w.heap.size+1+1+1,35,#[.int .i64 0,.int .i64 0,.int .i64 0,.int .i64 0]),(w.heap.size+1+1,26,#[.int .i64 t0,.int .i64 t1]),(w.heap.size+1,26,#[.int .i64 f0,.int .i64 f1]),(w.heap.size,25,#[.int .i64 c0,.int .i64 c1,.int .i64 v0,.int .i64 v1])])
 case first =>
  have KD:=Lib.hid K4.out.drew;clear m0 m1 m2 m3 f0' f1' t0' t1' l0 l1 l2 l3 z0 z1 z2 z3;obtain ⟨⟨m0,m1,m2,m3⟩,⟨f0',f1'⟩,⟨t0',t1'⟩,⟨l0,l1,l2,l3⟩,z0,z1,z2,z3⟩:=KC.out _ KD.out;rcases D1.out with d1|d1
  . go_region
    all_goals (go_wp2_with fail)
    all_goals go_meet
    all_goals exact ⟨by rw [d1],rfl,KD.out⟩
  . go_region
    all_goals (go_wp2_with fail)
    all_goals go_meet
    all_goals exact ⟨by rw [if_pos d1],rfl,KD.out⟩
 case rest =>
 generalize wc=W at *
 obtain ⟨rfl,rfl,hK⟩:=hcut;have K5:=Lib.hid hK;clear hK K4 m0 m1 m2 m3 f0' f1' t0' t1' l0 l1 l2 l3 z0 z1 z2 z3;go_upto_region 8 with (fail)
 have KD:=Lib.hid K5.out.drew;obtain ⟨⟨m0,m1,m2,m3⟩,⟨f0',f1'⟩,⟨t0',t1'⟩,⟨l0,l1,l2,l3⟩,z0,z1,z2,z3⟩:=KC.out _ KD.out;obtain ⟨-,-,-,⟨y0,y1,y2,y3⟩,x0,x1,x2,x3⟩:=KC.out _ K5.out;have KP:=Lib.hid (fun u0 u1 u2 u3:Value=>KS.drew <| fC (l':=[(w.heap.size+1+1,26,#[.int .i64 t0,.int .i64 t1]),(w.heap.size+1,26,#[.int .i64 f0,.int .i64 f1]),(w.heap.size,25,#[.int .i64 c0,.int .i64 c1,.int .i64 v0,.int .i64 v1])]) K5.out (g:=w.heap.size+1+1+1) (t:=35) (c0:=.int .i64 0) (c1:=.int .i64 0) (c2:=.int .i64 0) (c3:=.int .i64 0) (by simp) (by omega) (by intro p hp;simp at hp;rcases hp with rfl|rfl|rfl<;>simp only []<;>omega) (by intro p hp;simp at hp;rcases hp with rfl|rfl|rfl<;>simp) u0 u1 u2 u3)
 have M:=fun u0 u1 u2 u3 i v q=>(KP.out u0 u1 u2 u3).c (g:=w.heap.size) (t:=25) (cs:=#[.int .i64 c0,.int .i64 c1,.int .i64 v0,.int .i64 v1]) (by simp) (i:=i) (v:=v) q
 have M0:=fun u0 u1 u2 u3=>M u0 u1 u2 u3 0 _ rfl;have M1:=fun u0 u1 u2 u3=>M u0 u1 u2 u3 1 _ rfl;have M2:=fun u0 u1 u2 u3=>M u0 u1 u2 u3 2 _ rfl;have M3:=fun u0 u1 u2 u3=>M u0 u1 u2 u3 3 _ rfl
 clear M;generalize (if 0<t0-f1 then t0-f1 else 0)=D at *
 generalize t1-f0=G at *
 go_region_held3 (fun w'=>w'.cell? ⟨w.heap.size,0,none⟩=some (.int .i64 c0)/\w'.cell? ⟨w.heap.size,1,none⟩=some (.int .i64 c1)/\w'.cell? ⟨w.heap.size,2,none⟩=some (.int .i64 v0)/\w'.cell? ⟨w.heap.size,3,none⟩=some (.int .i64 v1))
  (first
   | (refine ⟨?_,?_,?_,?_⟩<;>with_reducible assumption)
   | with_reducible exact ⟨M0 _ _ _ _,M1 _ _ _ _,M2 _ _ _ _,M3 _ _ _ _⟩
   | fail)
  (first
   | ((go_at_call 28;with_reducible refine (F1.out _).mono ?_);rintro r wm ⟨rfl,rfl⟩)
   | ((go_at_call 29;with_reducible refine (F2.out _).mono ?_);rintro r wm ⟨rfl,rfl⟩)
   | fail)
 go_wp2;have KE:=Lib.hid (KP.out (.int .i64 c0) (.int .i64 c1) (.int .i64 (aA v0 f1 t0)) (.int .i64 (az v1 f0 t1)));clear KP M0 M1 M2 M3 KD K5;generalize World.drew _=X at KE ⊢
 have r0:=KE.out.c (g:=w.heap.size+1+1+1) (t:=35) (cs:=#[.int .i64 c0,.int .i64 c1,.int .i64 (aA v0 f1 t0),.int .i64 (az v1 f0 t1)]) (by simp) (i:=0) rfl
 have r1:=KE.out.c (g:=w.heap.size+1+1+1) (t:=35) (cs:=#[.int .i64 c0,.int .i64 c1,.int .i64 (aA v0 f1 t0),.int .i64 (az v1 f0 t1)]) (by simp) (i:=1) rfl
 have r2:=KE.out.c (g:=w.heap.size+1+1+1) (t:=35) (cs:=#[.int .i64 c0,.int .i64 c1,.int .i64 (aA v0 f1 t0),.int .i64 (az v1 f0 t1)]) (by simp) (i:=2) rfl
 have r3:=KE.out.c (g:=w.heap.size+1+1+1) (t:=35) (cs:=#[.int .i64 c0,.int .i64 c1,.int .i64 (aA v0 f1 t0),.int .i64 (az v1 f0 t1)]) (by simp) (i:=3) rfl
 refine bodyPost_ret (v:=.tuple #[.agg #[.int .i64 c0,.int .i64 c1,.int .i64 (aA v0 f1 t0),.int .i64 (az v1 f0 t1)],.int .i64 0]) (by simp [results,Tryz.results9,go_sem,r0,r1,r2,r3];try rfl) rfl ⟨rfl,KE.out.1⟩
theorem fV (c0 c1 v0 v1 f0 f1 t0 t1:Int) (w:World) (h:lgE c0 c1 v0 v1 f0 f1 t0 t1≠0) :
 Calls Tryz.prog 9 #[.agg #[.int .i64 c0,.int .i64 c1,.int .i64 v0,.int .i64 v1],.agg #[.int .i64 f0,.int .i64 f1],.agg #[.int .i64 t0,.int .i64 t1]] w fun e w'=>e=.returned (.tuple #[.agg #[.int .i64 0,.int .i64 0,.int .i64 0,.int .i64 0],.int .i64 (lgE c0 c1 v0 v1 f0 f1 t0 t1)])/\Below w.heap.size w w':=by
 have CS:Hid (∀ w,Calls Tryz.prog 25 #[.agg #[.int .i64 v0,.int .i64 v1]] w fun e w'=>e=.returned (.bool (spB v0 v1))/\Below w.heap.size w w'):=Lib.hid (fun w=>pq v0 v1 w)
 have CV:=Lib.hid (fun w=>bX c0 c1 w)
 have C1:=Lib.hid (fun w=>ma f0 f1 w)
 have C2:=Lib.hid (fun w=>ma t0 t1 w)
 have key:(spB v0 v1=false/\lgE c0 c1 v0 v1 f0 f1 t0 t1=1)∨(spB v0 v1=true/\aC c0 c1=false/\lgE c0 c1 v0 v1 f0 f1 t0 t1=1)∨(spB v0 v1=true/\aC c0 c1=true/\tmB f0 f1=false/\lgE c0 c1 v0 v1 f0 f1 t0 t1=1)∨(spB v0 v1=true/\aC c0 c1=true/\tmB f0 f1=true/\tmB t0 t1=false/\lgE c0 c1 v0 v1 f0 f1 t0 t1=1)∨(spB v0 v1=true/\aC c0 c1=true/\tmB f0 f1=true/\tmB t0 t1=true/\t1<f0/\lgE c0 c1 v0 v1 f0 f1 t0 t1=17)∨(spB v0 v1=true/\aC c0 c1=true/\tmB f0 f1=true/\tmB t0 t1=true/\¬ t1<f0/\t1-f0>34560000000/\IntKind.i64.wrap (t1-f0)=t1-f0/\lgE c0 c1 v0 v1 f0 f1 t0 t1=2):=by
  unfold lgE lgA at *
  cases x1:spB v0 v1
  . exact .inl ⟨rfl,rfl⟩
  . cases x2:aC c0 c1
    . exact .inr (.inl ⟨rfl,rfl,rfl⟩)
    . cases x3:tmB f0 f1
      . exact .inr (.inr (.inl ⟨rfl,rfl,rfl,rfl⟩))
      . cases x4:tmB t0 t1
        . exact .inr (.inr (.inr (.inl ⟨rfl,rfl,rfl,rfl,rfl⟩)))
        . have k3:=(dF _ _).1 x3;have k4:=(dF _ _).1 x4;rw [x1,x2,x3,x4] at h;simp only [Bool.and_self,Bool.true_eq_false,if_false,reduceCtorEq] at h ⊢
          by_cases n5:t1<f0
          . rw [if_pos n5];exact .inr (.inr (.inr (.inr (.inl ⟨trivial,trivial,trivial,trivial,n5,rfl⟩))))
          . rw [if_neg n5] at h ⊢
            by_cases n6:t1-f0>34560000000
            . rw [if_pos n6];exact .inr (.inr (.inr (.inr (.inr ⟨trivial,trivial,trivial,trivial,n5,n6,Go.IntWalk.i64_in _ (by omega),rfl⟩))))
            . rw [if_neg n6] at h;exact absurd rfl h
 clear h;generalize spB v0 v1=x1 at *
 generalize aC c0 c1=x2 at *
 generalize tmB f0 f1=x3 at *
 generalize tmB t0 t1=x4 at *
 generalize lgE c0 c1 v0 v1 f0 f1 t0 t1=E at *
 have K0:=Lib.hid ((((au w).new w.heap.size rfl 25 #[.int .i64 c0,.int .i64 c1,.int .i64 v0,.int .i64 v1]).new (w.heap.size+1) (by simp) 26 #[.int .i64 f0,.int .i64 f1]).new (w.heap.size+1+1) (by simp) 26 #[.int .i64 t0,.int .i64 t1] |>.new (w.heap.size+1+1+1) (by simp) 35 #[.int .i64 0,.int .i64 0,.int .i64 0,.int .i64 0])
 have KC:Hid (∀ wr:World,KS w wr [(w.heap.size+1+1+1,35,#[.int .i64 0,.int .i64 0,.int .i64 0,.int .i64 0]),(w.heap.size+1+1,26,#[.int .i64 t0,.int .i64 t1]),(w.heap.size+1,26,#[.int .i64 f0,.int .i64 f1]),(w.heap.size,25,#[.int .i64 c0,.int .i64 c1,.int .i64 v0,.int .i64 v1])] ->
  (wr.cell? ⟨w.heap.size,0,none⟩=some (.int .i64 c0)/\wr.cell? ⟨w.heap.size,1,none⟩=some (.int .i64 c1)/\wr.cell? ⟨w.heap.size,2,none⟩=some (.int .i64 v0)/\wr.cell? ⟨w.heap.size,3,none⟩=some (.int .i64 v1))/\(wr.cell? ⟨w.heap.size+1,0,none⟩=some (.int .i64 f0)/\wr.cell? ⟨w.heap.size+1,1,none⟩=some (.int .i64 f1))/\(wr.cell? ⟨w.heap.size+1+1,0,none⟩=some (.int .i64 t0)/\wr.cell? ⟨w.heap.size+1+1,1,none⟩=some (.int .i64 t1))/\((wr.cell? ⟨w.heap.size+1+1+1,0,none⟩=some (.int .i64 0)/\wr.cell? ⟨w.heap.size+1+1+1,1,none⟩=some (.int .i64 0)/\wr.cell? ⟨w.heap.size+1+1+1,2,none⟩=some (.int .i64 0)/\wr.cell? ⟨w.heap.size+1+1+1,3,none⟩=some (.int .i64 0))/\wr.frozen? ⟨w.heap.size+1+1+1,0,none⟩=false/\wr.frozen? ⟨w.heap.size+1+1+1,1,none⟩=false/\wr.frozen? ⟨w.heap.size+1+1+1,2,none⟩=false/\wr.frozen? ⟨w.heap.size+1+1+1,3,none⟩=false)):=Lib.hid (fun wr K=>by
  have m:=fun i v q=>K.c (g:=w.heap.size) (t:=25) (cs:=#[.int .i64 c0,.int .i64 c1,.int .i64 v0,.int .i64 v1]) (by simp) (i:=i) (v:=v) q
  have f:=fun i v q=>K.c (g:=w.heap.size+1) (t:=26) (cs:=#[.int .i64 f0,.int .i64 f1]) (by simp) (i:=i) (v:=v) q
  have t:=fun i v q=>K.c (g:=w.heap.size+1+1) (t:=26) (cs:=#[.int .i64 t0,.int .i64 t1]) (by simp) (i:=i) (v:=v) q
  have l:=fun i v q=>K.c (g:=w.heap.size+1+1+1) (t:=35) (cs:=#[.int .i64 0,.int .i64 0,.int .i64 0,.int .i64 0]) (by simp) (i:=i) (v:=v) q
  have z:=fun i=>K.f (g:=w.heap.size+1+1+1) (t:=35) (cs:=#[.int .i64 0,.int .i64 0,.int .i64 0,.int .i64 0]) (by simp) i
  exact ⟨⟨m 0 _ rfl,m 1 _ rfl,m 2 _ rfl,m 3 _ rfl⟩,⟨f 0 _ rfl,f 1 _ rfl⟩,⟨t 0 _ rfl,t 1 _ rfl⟩,⟨l 0 _ rfl,l 1 _ rfl,l 2 _ rfl,l 3 _ rfl⟩,z 0,z 1,z 2,z 3⟩)
 rcases key with ⟨rfl,rfl⟩|⟨rfl,rfl,rfl⟩|⟨rfl,rfl,rfl,rfl⟩|⟨rfl,rfl,rfl,rfl,rfl⟩|⟨rfl,rfl,rfl,rfl,n5,rfl⟩|⟨rfl,rfl,rfl,rfl,n5,n6,e2,rfl⟩
 . go_enter Tryz.func9,Tryz.ntmps9;go_wp2_with fail;refine (CS.out _).mono ?_;rintro e w1 ⟨rfl,hb⟩;have K1:=Lib.hid (K0.out.below hb);clear hb K0 CS;obtain ⟨⟨m0,m1,m2,m3⟩,⟨f0',f1'⟩,⟨t0',t1'⟩,⟨l0,l1,l2,l3⟩,z0,z1,z2,z3⟩:=KC.out _ K1.out;go_wp2;have KE:=Lib.hid (fC (l':=[(w.heap.size+1+1,26,#[.int .i64 t0,.int .i64 t1]),(w.heap.size+1,26,#[.int .i64 f0,.int .i64 f1]),(w.heap.size,25,#[.int .i64 c0,.int .i64 c1,.int .i64 v0,.int .i64 v1])]) K1.out (g:=w.heap.size+1+1+1) (t:=35) (c0:=.int .i64 0) (c1:=.int .i64 0) (c2:=.int .i64 0) (c3:=.int .i64 0) (by simp) (by omega) (by intro p hp;simp at hp;rcases hp with rfl|rfl|rfl<;>simp only []<;>omega) (by intro p hp;simp at hp;rcases hp with rfl|rfl|rfl<;>simp) (.int .i64 0) (.int .i64 0) (.int .i64 0) (.int .i64 0))
   generalize World.setCell _ _ _=X at KE ⊢
   have r0:=KE.out.c (g:=w.heap.size+1+1+1) (t:=35) (cs:=#[.int .i64 0,.int .i64 0,.int .i64 0,.int .i64 0]) (by simp) (i:=0) rfl
   have r1:=KE.out.c (g:=w.heap.size+1+1+1) (t:=35) (cs:=#[.int .i64 0,.int .i64 0,.int .i64 0,.int .i64 0]) (by simp) (i:=1) rfl
   have r2:=KE.out.c (g:=w.heap.size+1+1+1) (t:=35) (cs:=#[.int .i64 0,.int .i64 0,.int .i64 0,.int .i64 0]) (by simp) (i:=2) rfl
   have r3:=KE.out.c (g:=w.heap.size+1+1+1) (t:=35) (cs:=#[.int .i64 0,.int .i64 0,.int .i64 0,.int .i64 0]) (by simp) (i:=3) rfl
   refine bodyPost_ret (v:=.tuple #[.agg #[.int .i64 0,.int .i64 0,.int .i64 0,.int .i64 0],.int .i64 1]) (by simp [results,Tryz.results9,go_sem,r0,r1,r2,r3];try rfl) rfl ⟨rfl,KE.out.1⟩
 . go_enter Tryz.func9,Tryz.ntmps9;go_wp2_with fail;refine (CS.out _).mono ?_;rintro e w1 ⟨rfl,hb⟩;have K1:=Lib.hid (K0.out.below hb);clear hb K0 CS;obtain ⟨⟨m0,m1,m2,m3⟩,⟨f0',f1'⟩,⟨t0',t1'⟩,⟨l0,l1,l2,l3⟩,z0,z1,z2,z3⟩:=KC.out _ K1.out;go_wp2_with fail;refine (CV.out _).mono ?_;rintro e w2 ⟨rfl,hb⟩;have K2:=Lib.hid (K1.out.below hb);clear hb K1 CV m0 m1 m2 m3 f0' f1' t0' t1' l0 l1 l2 l3 z0 z1 z2 z3;obtain ⟨⟨m0,m1,m2,m3⟩,⟨f0',f1'⟩,⟨t0',t1'⟩,⟨l0,l1,l2,l3⟩,z0,z1,z2,z3⟩:=KC.out _ K2.out;go_wp2;have KE:=Lib.hid (fC (l':=[(w.heap.size+1+1,26,#[.int .i64 t0,.int .i64 t1]),(w.heap.size+1,26,#[.int .i64 f0,.int .i64 f1]),(w.heap.size,25,#[.int .i64 c0,.int .i64 c1,.int .i64 v0,.int .i64 v1])]) K2.out (g:=w.heap.size+1+1+1) (t:=35) (c0:=.int .i64 0) (c1:=.int .i64 0) (c2:=.int .i64 0) (c3:=.int .i64 0) (by simp) (by omega) (by intro p hp;simp at hp;rcases hp with rfl|rfl|rfl<;>simp only []<;>omega) (by intro p hp;simp at hp;rcases hp with rfl|rfl|rfl<;>simp) (.int .i64 0) (.int .i64 0) (.int .i64 0) (.int .i64 0))
   generalize World.setCell _ _ _=X at KE ⊢
   have r0:=KE.out.c (g:=w.heap.size+1+1+1) (t:=35) (cs:=#[.int .i64 0,.int .i64 0,.int .i64 0,.int .i64 0]) (by simp) (i:=0) rfl
   have r1:=KE.out.c (g:=w.heap.size+1+1+1) (t:=35) (cs:=#[.int .i64 0,.int .i64 0,.int .i64 0,.int .i64 0]) (by simp) (i:=1) rfl
   have r2:=KE.out.c (g:=w.heap.size+1+1+1) (t:=35) (cs:=#[.int .i64 0,.int .i64 0,.int .i64 0,.int .i64 0]) (by simp) (i:=2) rfl
   have r3:=KE.out.c (g:=w.heap.size+1+1+1) (t:=35) (cs:=#[.int .i64 0,.int .i64 0,.int .i64 0,.int .i64 0]) (by simp) (i:=3) rfl
   refine bodyPost_ret (v:=.tuple #[.agg #[.int .i64 0,.int .i64 0,.int .i64 0,.int .i64 0],.int .i64 1]) (by simp [results,Tryz.results9,go_sem,r0,r1,r2,r3];try rfl) rfl ⟨rfl,KE.out.1⟩
 . go_enter Tryz.func9,Tryz.ntmps9;go_wp2_with fail;refine (CS.out _).mono ?_;rintro e w1 ⟨rfl,hb⟩;have K1:=Lib.hid (K0.out.below hb);clear hb K0 CS;obtain ⟨⟨m0,m1,m2,m3⟩,⟨f0',f1'⟩,⟨t0',t1'⟩,⟨l0,l1,l2,l3⟩,z0,z1,z2,z3⟩:=KC.out _ K1.out;go_wp2_with fail;refine (CV.out _).mono ?_;rintro e w2 ⟨rfl,hb⟩;have K2:=Lib.hid (K1.out.below hb);clear hb K1 CV m0 m1 m2 m3 f0' f1' t0' t1' l0 l1 l2 l3 z0 z1 z2 z3;obtain ⟨⟨m0,m1,m2,m3⟩,⟨f0',f1'⟩,⟨t0',t1'⟩,⟨l0,l1,l2,l3⟩,z0,z1,z2,z3⟩:=KC.out _ K2.out;go_wp2_with fail;refine (C1.out _).mono ?_;rintro e w3 ⟨rfl,hb⟩;have K3:=Lib.hid (K2.out.below hb);clear hb K2 C1 m0 m1 m2 m3 f0' f1' t0' t1' l0 l1 l2 l3 z0 z1 z2 z3;obtain ⟨⟨m0,m1,m2,m3⟩,⟨f0',f1'⟩,⟨t0',t1'⟩,⟨l0,l1,l2,l3⟩,z0,z1,z2,z3⟩:=KC.out _ K3.out;go_wp2;have KE:=Lib.hid (fC (l':=[(w.heap.size+1+1,26,#[.int .i64 t0,.int .i64 t1]),(w.heap.size+1,26,#[.int .i64 f0,.int .i64 f1]),(w.heap.size,25,#[.int .i64 c0,.int .i64 c1,.int .i64 v0,.int .i64 v1])]) K3.out (g:=w.heap.size+1+1+1) (t:=35) (c0:=.int .i64 0) (c1:=.int .i64 0) (c2:=.int .i64 0) (c3:=.int .i64 0) (by simp) (by omega) (by intro p hp;simp at hp;rcases hp with rfl|rfl|rfl<;>simp only []<;>omega) (by intro p hp;simp at hp;rcases hp with rfl|rfl|rfl<;>simp) (.int .i64 0) (.int .i64 0) (.int .i64 0) (.int .i64 0))
   generalize World.setCell _ _ _=X at KE ⊢
   have r0:=KE.out.c (g:=w.heap.size+1+1+1) (t:=35) (cs:=#[.int .i64 0,.int .i64 0,.int .i64 0,.int .i64 0]) (by simp) (i:=0) rfl
   have r1:=KE.out.c (g:=w.heap.size+1+1+1) (t:=35) (cs:=#[.int .i64 0,.int .i64 0,.int .i64 0,.int .i64 0]) (by simp) (i:=1) rfl
   have r2:=KE.out.c (g:=w.heap.size+1+1+1) (t:=35) (cs:=#[.int .i64 0,.int .i64 0,.int .i64 0,.int .i64 0]) (by simp) (i:=2) rfl
   have r3:=KE.out.c (g:=w.heap.size+1+1+1) (t:=35) (cs:=#[.int .i64 0,.int .i64 0,.int .i64 0,.int .i64 0]) (by simp) (i:=3) rfl
   refine bodyPost_ret (v:=.tuple #[.agg #[.int .i64 0,.int .i64 0,.int .i64 0,.int .i64 0],.int .i64 1]) (by simp [results,Tryz.results9,go_sem,r0,r1,r2,r3];try rfl) rfl ⟨rfl,KE.out.1⟩
 . go_enter Tryz.func9,Tryz.ntmps9;go_wp2_with fail;refine (CS.out _).mono ?_;rintro e w1 ⟨rfl,hb⟩;have K1:=Lib.hid (K0.out.below hb);clear hb K0 CS;obtain ⟨⟨m0,m1,m2,m3⟩,⟨f0',f1'⟩,⟨t0',t1'⟩,⟨l0,l1,l2,l3⟩,z0,z1,z2,z3⟩:=KC.out _ K1.out;go_wp2_with fail;refine (CV.out _).mono ?_;rintro e w2 ⟨rfl,hb⟩;have K2:=Lib.hid (K1.out.below hb);clear hb K1 CV m0 m1 m2 m3 f0' f1' t0' t1' l0 l1 l2 l3 z0 z1 z2 z3;obtain ⟨⟨m0,m1,m2,m3⟩,⟨f0',f1'⟩,⟨t0',t1'⟩,⟨l0,l1,l2,l3⟩,z0,z1,z2,z3⟩:=KC.out _ K2.out;go_wp2_with fail;refine (C1.out _).mono ?_;rintro e w3 ⟨rfl,hb⟩;have K3:=Lib.hid (K2.out.below hb);clear hb K2 C1 m0 m1 m2 m3 f0' f1' t0' t1' l0 l1 l2 l3 z0 z1 z2 z3;obtain ⟨⟨m0,m1,m2,m3⟩,⟨f0',f1'⟩,⟨t0',t1'⟩,⟨l0,l1,l2,l3⟩,z0,z1,z2,z3⟩:=KC.out _ K3.out;go_wp2_with fail;refine (C2.out _).mono ?_;rintro e w4 ⟨rfl,hb⟩;have K4:=Lib.hid (K3.out.below hb);clear hb K3 C2 m0 m1 m2 m3 f0' f1' t0' t1' l0 l1 l2 l3 z0 z1 z2 z3;obtain ⟨⟨m0,m1,m2,m3⟩,⟨f0',f1'⟩,⟨t0',t1'⟩,⟨l0,l1,l2,l3⟩,z0,z1,z2,z3⟩:=KC.out _ K4.out;go_wp2;have KE:=Lib.hid (fC (l':=[(w.heap.size+1+1,26,#[.int .i64 t0,.int .i64 t1]),(w.heap.size+1,26,#[.int .i64 f0,.int .i64 f1]),(w.heap.size,25,#[.int .i64 c0,.int .i64 c1,.int .i64 v0,.int .i64 v1])]) K4.out (g:=w.heap.size+1+1+1) (t:=35) (c0:=.int .i64 0) (c1:=.int .i64 0) (c2:=.int .i64 0) (c3:=.int .i64 0) (by simp) (by omega) (by intro p hp;simp at hp;rcases hp with rfl|rfl|rfl<;>simp only []<;>omega) (by intro p hp;simp at hp;rcases hp with rfl|rfl|rfl<;>simp) (.int .i64 0) (.int .i64 0) (.int .i64 0) (.int .i64 0))
   generalize World.setCell _ _ _=X at KE ⊢
   have r0:=KE.out.c (g:=w.heap.size+1+1+1) (t:=35) (cs:=#[.int .i64 0,.int .i64 0,.int .i64 0,.int .i64 0]) (by simp) (i:=0) rfl
   have r1:=KE.out.c (g:=w.heap.size+1+1+1) (t:=35) (cs:=#[.int .i64 0,.int .i64 0,.int .i64 0,.int .i64 0]) (by simp) (i:=1) rfl
   have r2:=KE.out.c (g:=w.heap.size+1+1+1) (t:=35) (cs:=#[.int .i64 0,.int .i64 0,.int .i64 0,.int .i64 0]) (by simp) (i:=2) rfl
   have r3:=KE.out.c (g:=w.heap.size+1+1+1) (t:=35) (cs:=#[.int .i64 0,.int .i64 0,.int .i64 0,.int .i64 0]) (by simp) (i:=3) rfl
   refine bodyPost_ret (v:=.tuple #[.agg #[.int .i64 0,.int .i64 0,.int .i64 0,.int .i64 0],.int .i64 1]) (by simp [results,Tryz.results9,go_sem,r0,r1,r2,r3];try rfl) rfl ⟨rfl,KE.out.1⟩
 . go_enter Tryz.func9,Tryz.ntmps9;go_wp2_with fail;refine (CS.out _).mono ?_;rintro e w1 ⟨rfl,hb⟩;have K1:=Lib.hid (K0.out.below hb);clear hb K0 CS;obtain ⟨⟨m0,m1,m2,m3⟩,⟨f0',f1'⟩,⟨t0',t1'⟩,⟨l0,l1,l2,l3⟩,z0,z1,z2,z3⟩:=KC.out _ K1.out;go_wp2_with fail;refine (CV.out _).mono ?_;rintro e w2 ⟨rfl,hb⟩;have K2:=Lib.hid (K1.out.below hb);clear hb K1 CV m0 m1 m2 m3 f0' f1' t0' t1' l0 l1 l2 l3 z0 z1 z2 z3;obtain ⟨⟨m0,m1,m2,m3⟩,⟨f0',f1'⟩,⟨t0',t1'⟩,⟨l0,l1,l2,l3⟩,z0,z1,z2,z3⟩:=KC.out _ K2.out;go_wp2_with fail;refine (C1.out _).mono ?_;rintro e w3 ⟨rfl,hb⟩;have K3:=Lib.hid (K2.out.below hb);clear hb K2 C1 m0 m1 m2 m3 f0' f1' t0' t1' l0 l1 l2 l3 z0 z1 z2 z3;obtain ⟨⟨m0,m1,m2,m3⟩,⟨f0',f1'⟩,⟨t0',t1'⟩,⟨l0,l1,l2,l3⟩,z0,z1,z2,z3⟩:=KC.out _ K3.out;go_wp2_with fail;refine (C2.out _).mono ?_;rintro e w4 ⟨rfl,hb⟩;have K4:=Lib.hid (K3.out.below hb);clear hb K3 C2 m0 m1 m2 m3 f0' f1' t0' t1' l0 l1 l2 l3 z0 z1 z2 z3;obtain ⟨⟨m0,m1,m2,m3⟩,⟨f0',f1'⟩,⟨t0',t1'⟩,⟨l0,l1,l2,l3⟩,z0,z1,z2,z3⟩:=KC.out _ K4.out;go_wp2;have KE:=Lib.hid (fC (l':=[(w.heap.size+1+1,26,#[.int .i64 t0,.int .i64 t1]),(w.heap.size+1,26,#[.int .i64 f0,.int .i64 f1]),(w.heap.size,25,#[.int .i64 c0,.int .i64 c1,.int .i64 v0,.int .i64 v1])]) K4.out (g:=w.heap.size+1+1+1) (t:=35) (c0:=.int .i64 0) (c1:=.int .i64 0) (c2:=.int .i64 0) (c3:=.int .i64 0) (by simp) (by omega) (by intro p hp;simp at hp;rcases hp with rfl|rfl|rfl<;>simp only []<;>omega) (by intro p hp;simp at hp;rcases hp with rfl|rfl|rfl<;>simp) (.int .i64 0) (.int .i64 0) (.int .i64 0) (.int .i64 0))
   generalize World.setCell _ _ _=X at KE ⊢
   have r0:=KE.out.c (g:=w.heap.size+1+1+1) (t:=35) (cs:=#[.int .i64 0,.int .i64 0,.int .i64 0,.int .i64 0]) (by simp) (i:=0) rfl
   have r1:=KE.out.c (g:=w.heap.size+1+1+1) (t:=35) (cs:=#[.int .i64 0,.int .i64 0,.int .i64 0,.int .i64 0]) (by simp) (i:=1) rfl
   have r2:=KE.out.c (g:=w.heap.size+1+1+1) (t:=35) (cs:=#[.int .i64 0,.int .i64 0,.int .i64 0,.int .i64 0]) (by simp) (i:=2) rfl
   have r3:=KE.out.c (g:=w.heap.size+1+1+1) (t:=35) (cs:=#[.int .i64 0,.int .i64 0,.int .i64 0,.int .i64 0]) (by simp) (i:=3) rfl
   refine bodyPost_ret (v:=.tuple #[.agg #[.int .i64 0,.int .i64 0,.int .i64 0,.int .i64 0],.int .i64 17]) (by simp [results,Tryz.results9,go_sem,r0,r1,r2,r3];try rfl) rfl ⟨rfl,KE.out.1⟩
 . go_enter Tryz.func9,Tryz.ntmps9;go_wp2_with fail;refine (CS.out _).mono ?_;rintro e w1 ⟨rfl,hb⟩;have K1:=Lib.hid (K0.out.below hb);clear hb K0 CS;obtain ⟨⟨m0,m1,m2,m3⟩,⟨f0',f1'⟩,⟨t0',t1'⟩,⟨l0,l1,l2,l3⟩,z0,z1,z2,z3⟩:=KC.out _ K1.out;go_wp2_with fail;refine (CV.out _).mono ?_;rintro e w2 ⟨rfl,hb⟩;have K2:=Lib.hid (K1.out.below hb);clear hb K1 CV m0 m1 m2 m3 f0' f1' t0' t1' l0 l1 l2 l3 z0 z1 z2 z3;obtain ⟨⟨m0,m1,m2,m3⟩,⟨f0',f1'⟩,⟨t0',t1'⟩,⟨l0,l1,l2,l3⟩,z0,z1,z2,z3⟩:=KC.out _ K2.out;go_wp2_with fail;refine (C1.out _).mono ?_;rintro e w3 ⟨rfl,hb⟩;have K3:=Lib.hid (K2.out.below hb);clear hb K2 C1 m0 m1 m2 m3 f0' f1' t0' t1' l0 l1 l2 l3 z0 z1 z2 z3;obtain ⟨⟨m0,m1,m2,m3⟩,⟨f0',f1'⟩,⟨t0',t1'⟩,⟨l0,l1,l2,l3⟩,z0,z1,z2,z3⟩:=KC.out _ K3.out;go_wp2_with fail;refine (C2.out _).mono ?_;rintro e w4 ⟨rfl,hb⟩;have K4:=Lib.hid (K3.out.below hb);clear hb K3 C2 m0 m1 m2 m3 f0' f1' t0' t1' l0 l1 l2 l3 z0 z1 z2 z3;obtain ⟨⟨m0,m1,m2,m3⟩,⟨f0',f1'⟩,⟨t0',t1'⟩,⟨l0,l1,l2,l3⟩,z0,z1,z2,z3⟩:=KC.out _ K4.out;go_wp2;have KE:=Lib.hid (fC (l':=[(w.heap.size+1+1,26,#[.int .i64 t0,.int .i64 t1]),(w.heap.size+1,26,#[.int .i64 f0,.int .i64 f1]),(w.heap.size,25,#[.int .i64 c0,.int .i64 c1,.int .i64 v0,.int .i64 v1])]) K4.out (g:=w.heap.size+1+1+1) (t:=35) (c0:=.int .i64 0) (c1:=.int .i64 0) (c2:=.int .i64 0) (c3:=.int .i64 0) (by simp) (by omega) (by intro p hp;simp at hp;rcases hp with rfl|rfl|rfl<;>simp only []<;>omega) (by intro p hp;simp at hp;rcases hp with rfl|rfl|rfl<;>simp) (.int .i64 0) (.int .i64 0) (.int .i64 0) (.int .i64 0))
   generalize World.setCell _ _ _=X at KE ⊢
   have r0:=KE.out.c (g:=w.heap.size+1+1+1) (t:=35) (cs:=#[.int .i64 0,.int .i64 0,.int .i64 0,.int .i64 0]) (by simp) (i:=0) rfl
   have r1:=KE.out.c (g:=w.heap.size+1+1+1) (t:=35) (cs:=#[.int .i64 0,.int .i64 0,.int .i64 0,.int .i64 0]) (by simp) (i:=1) rfl
   have r2:=KE.out.c (g:=w.heap.size+1+1+1) (t:=35) (cs:=#[.int .i64 0,.int .i64 0,.int .i64 0,.int .i64 0]) (by simp) (i:=2) rfl
   have r3:=KE.out.c (g:=w.heap.size+1+1+1) (t:=35) (cs:=#[.int .i64 0,.int .i64 0,.int .i64 0,.int .i64 0]) (by simp) (i:=3) rfl
   refine bodyPost_ret (v:=.tuple #[.agg #[.int .i64 0,.int .i64 0,.int .i64 0,.int .i64 0],.int .i64 2]) (by simp [results,Tryz.results9,go_sem,r0,r1,r2,r3];try rfl) rfl ⟨rfl,KE.out.1⟩
end Go.Proofs.YtgmncdmcdgkodaaGreat
namespace Go.Proofs.YtgmncdmcdgkodaaGreat
open Go.RowKit Alm Sx
def Gd (f0 f1:Int) (R:Cs):Prop:=∀ i (h:i<R.length),∃ x y:Int,R[i]=[x,y]/\f0<=x/\f1<=y/\x<=y/\∀ (k:Nat) (z t:Int),i=k+1->R.getD k []=[z,t]->z<=x/\t<=y
theorem uB (f:ag->Int) (L:List ag) (i:Nat) (h:i<L.length) (hf:0<=f L[i]):sumOf f (L.take i)<=sumOf f (L.take (i+1)):=by
 rw [aX f L i h];omega
theorem IG {al ah fl fh:Int} {L:List ag} (hr:∀ l∈L,l.rgt=true) (hs:1<=al/\al<=ah/\ah<=200000) (ht:tmB fl fh=true) (he:arE al ah fl fh L=0):Gd fl fh (arR al ah fl fh L):=by
 unfold arE arR at *
 by_cases hq:(atL al ah fl fh L L.length).all atB=true
 . rw [if_pos hq];have hall:=(rP al ah fl fh L L.length).1 hq
   have S:∀ n,0<=sumOf ag.dl (L.take n)/\0<=sumOf ag.dh (L.take n):=fun n=>by
    have:=yA (L.take n) (fun l h=>hr l (List.mem_of_mem_take h));omega
   intro i hi;rw [mW] at hi;refine ⟨fl+sumOf ag.dl (L.take (i+1))*3600000/ah,fh+(sumOf ag.dh (L.take (i+1))*3600000+al-1)/al,?_,?_,?_,?_,?_⟩
   . simp [atL,atV]
   . have:=Int.ediv_nonneg (a:=sumOf ag.dl (L.take (i+1))*3600000) (b:=ah) (by have:=S (i+1);omega) (by omega);omega
   . have:=Int.ediv_nonneg (a:=sumOf ag.dh (L.take (i+1))*3600000+al-1) (b:=al) (by have:=S (i+1);omega) (by omega);omega
   . have:=(dF _ _).1 (show tmB (fl+sumOf ag.dl (L.take (i+1))*3600000/ah) (fh+(sumOf ag.dh (L.take (i+1))*3600000+al-1)/al)=true from hall i hi)
     exact this.1
   . rintro k z t rfl hk
     have hk':(atL al ah fl fh L L.length).getD k []=[fl+sumOf ag.dl (L.take (k+1))*3600000/ah,fh+(sumOf ag.dh (L.take (k+1))*3600000+al-1)/al]:=by
      rw [List.getD_eq_getElem?_getD,List.getElem?_eq_getElem (by rw [mW];omega)]
      simp [atL,atV]
     rw [hk'] at hk
     injection hk with e1 e2
     injection e2 with e2 _
     have b:=(iM L[k+1]).1 (hr _ (List.getElem_mem hi));have m1:=uB ag.dl L (k+1) hi (by omega)
     have m2:=uB ag.dh L (k+1) hi (by omega)
     have d1:=Int.ediv_le_ediv (a:=sumOf ag.dl (L.take (k+1))*3600000) (b:=sumOf ag.dl (L.take (k+1+1))*3600000) (c:=ah) (by omega) (by omega)
     have d2:=Int.ediv_le_ediv (a:=sumOf ag.dh (L.take (k+1))*3600000+al-1) (b:=sumOf ag.dh (L.take (k+1+1))*3600000+al-1) (c:=al) (by omega) (by omega)
     omega
 . rw [if_neg hq] at he;cases he
theorem iJ (a:Option Addr) (cap:Nat) (L:List ag) (al ah fl fh:Int) (hn:L.length<=100):∃ (E:Int) (R:Cs),R.length<=L.length/\(E=0->Gd fl fh R) /\
 ∀ w,bG w a L->Calls Tryz.prog 8 #[.slice a L.length cap,.agg #[.int .i64 al,.int .i64 ah],.agg #[.int .i64 fl,.int .i64 fh]] w fun e w'=>(∃ u,e=.returned (.tuple #[u,.int .i64 E])/\bK 2 26 w.heap.size w' u R)/\Below w.heap.size w w':=by
 by_cases hb:agB al ah fl fh L=0
 . have hx:spB al ah=true/\tmB fl fh=true/\eH L=0:=by
    unfold agB at hb;cases h1:spB al ah
    . rw [h1] at hb;simp at hb
    . cases h2:tmB fl fh
      . rw [h1,h2] at hb;simp at hb
      . rw [h1,h2] at hb;simp at hb;exact ⟨rfl,rfl,hb⟩
   obtain ⟨h4,h5⟩:=Gv hx.2.2
   by_cases hz:al=0
   . subst hz;refine ⟨16,[],Nat.zero_le _,fun h=>absurd h (by decide),fun w hw=>?_⟩
     refine (nk a cap L ah fl fh w hw hn hb).mono ?_;rintro e w' ⟨rfl,k⟩;exact ⟨⟨_,rfl,bK.nil _ _ _ _⟩,k⟩
   . have hs:1<=al/\al<=ah/\ah<=200000:=by have:=hx.1;unfold spB at this;rw [decide_eq_true_eq] at this;omega
     refine ⟨arE al ah fl fh L,arR al ah fl fh L,?_,IG h4 hs hx.2.1,fun w hw=>oL a cap L al ah fl fh w hw h5 h4 hs hx.2.1⟩
     unfold arR;split
     . rw [mW];exact Nat.le_refl _
     . exact Nat.zero_le _
 . refine ⟨agB al ah fl fh L,[],Nat.zero_le _,fun h=>absurd h hb,fun w hw=>?_⟩
   refine (yH a cap L al ah fl fh w hw hn hb).mono ?_;rintro e w' ⟨rfl,k⟩;exact ⟨⟨_,rfl,bK.nil _ _ _ _⟩,k⟩
theorem Ba {v0 v1 f t:Int} (hv:1<=v0/\v0<=v1) (hd:f<=t):f+aA v0 f t*3600000/v1<=t/\t<=f+(az v1 f t*3600000+v0-1)/v0:=by
 have e:(if 0<t-f then t-f else 0)=t-f:=by split<;>omega
 unfold aA az;rw [e];have hd':0<=t-f:=by omega
 obtain ⟨d,hd2⟩:∃ d,t-f=d:=⟨_,rfl⟩;rw [hd2] at hd' ⊢
 have m:=Int.mul_le_mul_of_nonneg_right hv.2 hd'
 have c1:v0*d/3600000*3600000<=v0*d:=Int.ediv_mul_le _ (by omega)
 have c2:v1*d<=(v1*d+3600000-1)/3600000*3600000:=by omega
 have a1:v0*d/3600000*3600000/v1<=d:=by
  refine Int.ediv_le_of_le_mul (by omega) ?_
  rw [Int.mul_comm d v1];omega
 have a2:d<=((v1*d+3600000-1)/3600000*3600000+v0-1)/v0:=by
  refine Int.le_ediv_of_mul_le (by omega) ?_
  rw [Int.mul_comm d v0];omega
 generalize v0*d/3600000*3600000/v1=p at *
 generalize ((v1*d+3600000-1)/3600000*3600000+v0-1)/v0=q at *
 omega
theorem mP {c0 c1 v0 v1 f0 f1 t0 t1 x:Int} (h:lgE c0 c1 v0 v1 f0 f1 t0 t1=0) (hx:0<=x):(0<=aA v0 f1 t0/\aA v0 f1 t0<=az v1 f0 t1)/\aA v0 f1 t0<=aA v0 f1 (t0+x)/\az v1 f0 t1<=az v1 f0 (t1+x):=by
 obtain ⟨h1,h2,h3,h4,h5,h6⟩:=jl h;have k3:=(dF _ _).1 h3;have k4:=(dF _ _).1 h4;unfold aA az
 have m0:0<=(if 0<t0-f1 then t0-f1 else 0)/\(if 0<t0-f1 then t0-f1 else 0)<=(if 0<t0+x-f1 then t0+x-f1 else 0)/\(if 0<t0-f1 then t0-f1 else 0)<=t1-f0:=by
  split<;>split<;>omega
 have p0:=Int.mul_nonneg h1.1 m0.1;have p1:=Int.mul_le_mul_of_nonneg_left m0.2.1 h1.1;have p2:=Int.mul_le_mul_of_nonneg_left m0.2.2 h1.1;have p3:=Int.mul_le_mul_of_nonneg_right h1.2.1 (show 0<=t1-f0 by omega)
 have p4:=Int.mul_le_mul_of_nonneg_left (show t1-f0<=t1+x-f0 by omega) (show 0<=v1 by omega)
 generalize v0*(if 0<t0-f1 then t0-f1 else 0)=A at *
 generalize v0*(if 0<t0+x-f1 then t0+x-f1 else 0)=B at *
 generalize v0*(t1-f0)=C at *
 generalize v1*(t1-f0)=D at *
 generalize v1*(t1+x-f0)=G at *
 omega
theorem BO {c0 c1 v0 v1 f0 f1 t0 t1 x:Int} (h:lgE c0 c1 v0 v1 f0 f1 t0 t1=0) (hx:0<=x):lgE c0 c1 v0 v1 f0 f1 (t0+x) (t1+x)=0∨lgE c0 c1 v0 v1 f0 f1 (t0+x) (t1+x)=1∨lgE c0 c1 v0 v1 f0 f1 (t0+x) (t1+x)=2:=by
 obtain ⟨h1,h2,h3,h4,h5,h6⟩:=jl h;unfold lgE;split
 . exact .inr (.inl rfl)
 . rw [if_neg (by omega)]
   split
   . exact .inr (.inr rfl)
   . exact .inl rfl
theorem Ef (c0 c1 v0 v1 f0 f1 t0 t1:Int):lgE c0 c1 v0 v1 f0 f1 t0 t1=0∨lgE c0 c1 v0 v1 f0 f1 t0 t1=1∨lgE c0 c1 v0 v1 f0 f1 t0 t1=17∨lgE c0 c1 v0 v1 f0 f1 t0 t1=2:=by
 unfold lgE;split
 . exact .inr (.inl rfl)
 . split
   . exact .inr (.inr (.inl rfl))
   . split
     . exact .inr (.inr (.inr rfl))
     . exact .inl rfl
theorem sw {c0 c1 v0 v1 f t:Int} (h:lgE c0 c1 v0 v1 f f t t=0) (hh:az v1 f t<=21600000) (hft:f<=t) (b:Nat) (cap:Nat) :
 ∃ (E:Int) (R:Cs),(E=16∨E=5∨E=0/\∃ x y,R=[[x,y]]/\x<=t/\t<=y)/\∀ w,bG w (some ⟨b,0,none⟩) [⟨c0,c1,aA v0 f t,az v1 f t⟩]->Calls Tryz.prog 8 #[.slice (some ⟨b,0,none⟩) 1 cap,.agg #[.int .i64 v0,.int .i64 v1],.agg #[.int .i64 f,.int .i64 f]] w fun e w'=>(∃ u,e=.returned (.tuple #[u,.int .i64 E])/\bK 2 26 w.heap.size w' u R)/\Below w.heap.size w w':=by
 obtain ⟨h1,h2,h3,h4,h5,h6⟩:=jl h;have mm:=mP h (Int.le_refl 0)
 have hr:∀ l∈[(⟨c0,c1,aA v0 f t,az v1 f t⟩:ag)],l.rgt=true:=by
  intro l hl;simp at hl;subst hl;unfold ag.rgt;rw [h2,Bool.true_and,decide_eq_true_eq];exact ⟨mm.1.1,mm.1.2,hh⟩
 have hg:eH [(⟨c0,c1,aA v0 f t,az v1 f t⟩:ag)]=0:=by unfold eH;rw [List.all_eq_true.2 hr];rfl
 by_cases hz:v0=0
 . subst hz;refine ⟨16,[],.inl rfl,fun w hw=>?_⟩
   refine (nk (some ⟨b,0,none⟩) cap _ v1 f f w hw (by simp) ?_).mono ?_
   . unfold agB;rw [show spB 0 v1=true from decide_eq_true h1,h3,hg];rfl
   . rintro e w' ⟨rfl,k⟩;exact ⟨⟨_,rfl,bK.nil _ _ _ _⟩,k⟩
 . have hs:1<=v0/\v0<=v1/\v1<=200000:=by omega
   refine ⟨arE v0 v1 f f [⟨c0,c1,aA v0 f t,az v1 f t⟩],arR v0 v1 f f [⟨c0,c1,aA v0 f t,az v1 f t⟩],?_,fun w hw=>oL _ cap _ v0 v1 f f w hw (by simp) hr hs h3⟩
   have T:=Ba (v0:=v0) (v1:=v1) (f:=f) (t:=t) ⟨hs.1,hs.2.1⟩ hft;unfold arE arR;split
   . refine .inr (.inr ⟨rfl,f+aA v0 f t*3600000/v1,f+(az v1 f t*3600000+v0-1)/v0,?_,T⟩);simp [atL,atV,sumOf]
   . exact .inr (.inl rfl)
