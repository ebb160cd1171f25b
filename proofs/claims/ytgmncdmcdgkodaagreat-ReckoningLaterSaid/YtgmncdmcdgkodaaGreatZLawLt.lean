/- The law ReckoningLater. -/
import Derived.Test.YtgmncdmcdgkodaaGreatZAw46
import Derived.Test.YtgmncdmcdgkodaaGreatZLt1
import Derived.Deep.DeepCutAuto
import Derived.BigQuiet
set_option linter.unusedVariables false
set_option linter.unusedSimpArgs false
set_option maxRecDepth 100000
set_option maxHeartbeats 8000000
namespace Go.Proofs.YtgmncdmcdgkodaaGreat
open Go.RowKit Alm Sx
theorem xx (a b:List Int) (ha:a.length=2) (hb:b.length=2) (w:World):(binOp .eql 23 (.agg ⟨a.map (Value.int .i64)⟩) (.agg ⟨b.map (Value.int .i64)⟩)).run Tryz.prog w=.ok (.bool (decide (a=b))) w/\(binOp .neq 23 (.agg ⟨a.map (Value.int .i64)⟩) (.agg ⟨b.map (Value.int .i64)⟩)).run Tryz.prog w=.ok (.bool (!decide (a=b))) w :=
 tO (by kernel_rfl) (by kernel_rfl) a b ha hb w
theorem dW (x y:Int):(∀ w,(binOp .eql 23 (.agg #[.int .i64 x,.int .i64 y]) (.agg #[.int .i64 x,.int .i64 y])).run Tryz.prog w=.ok (.bool true) w)/\(∀ w,(binOp .neq 23 (.agg #[.int .i64 x,.int .i64 y]) (.agg #[.int .i64 x,.int .i64 y])).run Tryz.prog w=.ok (.bool false) w):=by
 refine ⟨fun w=>?_,fun w=>?_⟩
 . have:=(xx [x,y] [x,y] rfl rfl w).1;rw [decide_eq_true rfl] at this;exact this
 . have:=(xx [x,y] [x,y] rfl rfl w).2;rw [decide_eq_true rfl] at this;exact this
theorem iN (i:Nat) (h:1<=i) (hi:i<=1000):IntKind.i64.wrap ((i:Int)-1)=((i-1:Nat):Int):=by
 rw [show (i:Int)-1=((i-1:Nat):Int) by omega];exact Go.IntWalk.i64_in _ (by omega)
theorem wJ {w wr:World} {l:List (Nat × TypeId × Array Value)} {g:Nat} {t:TypeId} {c0 c1 d0 d1:Int} (K:KS w wr l) (hm:(g,t,#[.int .i64 c0,.int .i64 c1,.int .i64 d0,.int .i64 d1])∈l):bG wr (some ⟨g,0,none⟩) [⟨c0,c1,d0,d1⟩]:=by
 have c:=fun i v h=>K.c (g:=g) (t:=t) hm (i:=i) (v:=v) h
 refine .inr ⟨g,0,rfl,K.lt hm,fun i hi=>?_⟩
 match i,hi with
 | 0,_=>exact ⟨c 0 _ rfl,c 1 _ rfl,c 2 _ rfl,c 3 _ rfl⟩
theorem zJ (a:Option Addr) (cap:Nat) (L:List ag) (c0 c1 v0 v1 f0 f1 t0 t1 x:Int) (w:World) (hL:bG w a L) (hx:0<=x/\x<=4294967295) (hn:L.length<=14) (hE0:lgE c0 c1 v0 v1 f0 f1 t0 t1≠0) :
 Calls Tryz.prog 3 #[.agg #[.int .i64 c0,.int .i64 c1,.int .i64 v0,.int .i64 v1],.agg #[.int .i64 f0,.int .i64 f1],.agg #[.int .i64 t0,.int .i64 t1],.int .u32 x,.slice a L.length cap] w fun e w'=>e=.returned (.bool true)/\Below w.heap.size w w':=by
 obtain ⟨E,R,hR,hG,hP⟩:=iJ a cap L v0 v1 f0 f1 (by omega)
 have HL:=Lib.hid hL;have HP:=Lib.hid hP;have HG:=Lib.hid hG;have HR:=Lib.hid hR;clear hL hP hG hR;have CA:=Lib.hid dx;have hn':¬ (L.length:Int)>14:=by omega
 have HX:=Lib.hid hx;clear hx;have HE:=Lib.hid hE0;clear hE0
 have KC:Hid (∀ wr:World,KS w wr [(w.heap.size+1+1,26,#[.int .i64 t0,.int .i64 t1]),(w.heap.size+1,26,#[.int .i64 f0,.int .i64 f1]),(w.heap.size,25,#[.int .i64 c0,.int .i64 c1,.int .i64 v0,.int .i64 v1])]->(wr.cell? ⟨w.heap.size,0,none⟩=some (.int .i64 c0)/\wr.cell? ⟨w.heap.size,1,none⟩=some (.int .i64 c1)/\wr.cell? ⟨w.heap.size,2,none⟩=some (.int .i64 v0)/\wr.cell? ⟨w.heap.size,3,none⟩=some (.int .i64 v1))/\(wr.cell? ⟨w.heap.size+1,0,none⟩=some (.int .i64 f0)/\wr.cell? ⟨w.heap.size+1,1,none⟩=some (.int .i64 f1))/\(wr.cell? ⟨w.heap.size+1+1,0,none⟩=some (.int .i64 t0)/\wr.cell? ⟨w.heap.size+1+1,1,none⟩=some (.int .i64 t1))):=Lib.hid (fun wr K=>by
  have m:=fun i v q=>K.c (g:=w.heap.size) (t:=25) (cs:=#[.int .i64 c0,.int .i64 c1,.int .i64 v0,.int .i64 v1]) (by simp) (i:=i) (v:=v) q
  have f:=fun i v q=>K.c (g:=w.heap.size+1) (t:=26) (cs:=#[.int .i64 f0,.int .i64 f1]) (by simp) (i:=i) (v:=v) q
  have t:=fun i v q=>K.c (g:=w.heap.size+1+1) (t:=26) (cs:=#[.int .i64 t0,.int .i64 t1]) (by simp) (i:=i) (v:=v) q
  exact ⟨⟨m 0 _ rfl,m 1 _ rfl,m 2 _ rfl,m 3 _ rfl⟩,⟨f 0 _ rfl,f 1 _ rfl⟩,t 0 _ rfl,t 1 _ rfl⟩)
 have K0:=Lib.hid ((((au w).new w.heap.size rfl 25 #[.int .i64 c0,.int .i64 c1,.int .i64 v0,.int .i64 v1]).new (w.heap.size+1) (by simp) 26 #[.int .i64 f0,.int .i64 f1]).new (w.heap.size+1+1) (by simp) 26 #[.int .i64 t0,.int .i64 t1])
 go_enter Tryz.func3,Tryz.ntmps3;go_wp2_with fail;refine (CA.out _).mono ?_;rintro e w1 ⟨rfl,hb⟩;have K1:=Lib.hid (K0.out.below hb);clear hb K0 CA;obtain ⟨⟨m0,m1,m2,m3⟩,⟨p0,p1⟩,⟨q0,q1⟩⟩:=KC.out _ K1.out;go_wp2_with fail;refine (HP.out _ (HL.out.below K1.out.1)).mono ?_;rintro e w2 ⟨⟨u,rfl,O⟩,hb⟩;obtain ⟨a1,cap1,rfl,_,_,S1,_⟩:=O.out (by decide)
 have K2:=Lib.hid (K1.out.below hb);have HS1:=Lib.hid S1;clear hb K1 O S1 HP m0 m1 m2 m3 p0 p1 q0 q1;go_upto_if 36 with (fail)
 go_cut [] (fun wx=>KS w wx [(w.heap.size+1+1,26,#[.int .i64 t0,.int .i64 t1]),(w.heap.size+1,26,#[.int .i64 f0,.int .i64 f1]),(w.heap.size,25,#[.int .i64 c0,.int .i64 c1,.int .i64 v0,.int .i64 v1])])
 case first =>
  by_cases hE:E=0
  . have G:=Lib.hid (HG.out hE);subst hE;go_wp2;go_loopw [39] (fun v39 wr=>∃ i:Nat,v39=.int .i64 (i:Int)/\i<=R.length/\SlI 2 wr a1 R/\KS w wr [(w.heap.size+1+1,26,#[.int .i64 t0,.int .i64 t1]),(w.heap.size+1,26,#[.int .i64 f0,.int .i64 f1]),(w.heap.size,25,#[.int .i64 c0,.int .i64 c1,.int .i64 v0,.int .i64 v1])]) (fun v39 _=>((R.length:Int)-intOf v39).toNat)
    case atStart=>exact ⟨0,rfl,Nat.zero_le _,HS1.out,K2.out⟩
    case round =>
     obtain ⟨i,rfl,hi,hs,hK⟩:=hrel;have K:=Lib.hid hK;have HS:=Lib.hid hs;clear hK hs K2 HS1
     by_cases hl:i<R.length
     . rcases HS.out with h0|⟨b,off,rfl,hR⟩
       . rw [h0] at hl;simp at hl
       . obtain ⟨x',y',hxy,g1,g2,g3,g4⟩:=G.out i hl;obtain ⟨z,t,hzt,e0,e1⟩:=hR.at2 i hl;rw [hxy] at hzt;obtain ⟨rfl,rfl⟩:x'=z/\y'=t:=by injection hzt with q1 q2;injection q2 with q2 _;exact ⟨q1,q2⟩
         have hl':(i:Int)<(R.length:Int):=by omega
         have hRn:R.length<=14:=by have:=HR.out;omega
         have KN:=Lib.hid (K.out.new wr.heap.size rfl 26 #[.int .i64 x',.int .i64 y']);have RN:=Lib.hid (hR.alloc (.cells #[.int .i64 x',.int .i64 y'] 26));have d1:decide (x'<f0)=false:=decide_eq_false (by omega)
         have d2:decide (y'<f1)=false:=decide_eq_false (by omega)
         have d3:decide (y'<x')=false:=decide_eq_false (by omega)
         have d3':decide (x'>y')=false:=decide_eq_false (by omega)
         have n0:=KN.out.c (g:=wr.heap.size) (t:=26) (cs:=#[.int .i64 x',.int .i64 y']) (by simp) (i:=0) rfl
         have n1:=KN.out.c (g:=wr.heap.size) (t:=26) (cs:=#[.int .i64 x',.int .i64 y']) (by simp) (i:=1) rfl
         have p0:=KN.out.c (g:=w.heap.size+1) (t:=26) (cs:=#[.int .i64 f0,.int .i64 f1]) (by simp) (i:=0) (v:=.int .i64 f0) rfl
         have p1:=KN.out.c (g:=w.heap.size+1) (t:=26) (cs:=#[.int .i64 f0,.int .i64 f1]) (by simp) (i:=1) (v:=.int .i64 f1) rfl
         have KE:=Lib.hid (fun n:Nat=>(KN.out.drewN n).sub (l':=[(w.heap.size+1+1,26,#[.int .i64 t0,.int .i64 t1]),(w.heap.size+1,26,#[.int .i64 f0,.int .i64 f1]),(w.heap.size,25,#[.int .i64 c0,.int .i64 c1,.int .i64 v0,.int .i64 v1])]) (fun p hp=>List.mem_cons_of_mem _ hp))
         have SE:Hid (∀ n:Nat,SlI 2 ((wr.alloc (.cells #[.int .i64 x',.int .i64 y'] 26)).drewN n) (some ⟨b,off,none⟩) R):=Lib.hid (fun n=>.inr ⟨b,off,rfl,RN.out.below (below_drewN (Below.refl _ _) n) RN.out.lt⟩)
         go_upto_region 10 with (fail)
         by_cases hz:i=0
         . have d4:decide ((i:Int)>0)=false:=decide_eq_false (by omega)
           have d4':decide (0<(i:Int))=false:=decide_eq_false (by omega)
           clear hR e0 e1 g1 g2 g3 g4;go_quiet (fail);go_wp2;go_light;exact ⟨⟨i+1,by congr 1;omega,by omega,SE.out _,KE.out _⟩,by simp only [intOf];omega⟩
         . obtain ⟨z,t,hzt,e2,e3⟩:=RN.out.at2 (i-1) (by omega)
           obtain ⟨j1,j2⟩:=g4 (i-1) z t (by omega) (by rw [List.getD_eq_getElem?_getD,List.getElem?_eq_getElem (by omega)];exact hzt)
           have d4:decide ((i:Int)>0)=true:=decide_eq_true (by omega)
           have d4':decide (0<(i:Int))=true:=decide_eq_true (by omega)
           have d4n:decide (0<i)=true:=decide_eq_true (by omega)
           have d5:decide (z>x')=false:=decide_eq_false (by omega)
           have d5':decide (x'<z)=false:=decide_eq_false (by omega)
           have d6:decide (t>y')=false:=decide_eq_false (by omega)
           have d6':decide (y'<t)=false:=decide_eq_false (by omega)
           have W1:=Lib.hid (iN i (by omega) (by have:=HR.out;omega))
           have kl:((i-1:Nat):Int)<(R.length:Int):=by omega
           have k0:(0:Int)<=((i-1:Nat):Int):=by omega
           clear hR e0 e1 g1 g2 g3 g4;have w1:=W1.out;go_quiet (fail);clear w1;go_wp2;go_light;exact ⟨⟨i+1,by rw [show ((i+1:Nat):Int)=(i:Int)+1 by omega],hl,SE.out _,KE.out _⟩,by simp only [intOf];omega⟩
     . have hl':¬ (i:Int)<(R.length:Int):=by omega
       go_wp2;go_meet;exact K.out
  . have hE':(E==0)=false:=by simp;omega
    have hE2:decide (E=0)=false:=decide_eq_false hE;go_wp2;go_meet;exact K2.out
 case rest =>
 generalize wc=W at *
 have K3:=Lib.hid hcut;clear hcut K2 HS1 HG HR HL;obtain ⟨⟨m0,m1,m2,m3⟩,⟨p0,p1⟩,⟨q0,q1⟩⟩:=KC.out _ K3.out;have AS:=dW c0 c1;obtain ⟨AE,AN⟩:=AS;rcases Ef c0 c1 v0 v1 f0 f1 t0 t1 with hE|hE|hE|hE
 . exact absurd hE HE.out
 . clear HE;have CB:=Lib.hid (fun w=>fV c0 c1 v0 v1 f0 f1 t0 t1 w (by rw [hE];decide))
   rw [hE] at CB;clear hE;go_wp2_with fail;refine (CB.out _).mono ?_;rintro e w3 ⟨rfl,hb⟩;have K4:=Lib.hid (K3.out.below hb);clear hb K3 CB m0 m1 m2 m3 p0 p1 q0 q1;go_wp2;go_ret;exact ⟨rfl,(K4.out.alloc _).1⟩
 . clear HE;have CB:=Lib.hid (fun w=>fV c0 c1 v0 v1 f0 f1 t0 t1 w (by rw [hE];decide))
   rw [hE] at CB;clear hE;go_wp2_with fail;refine (CB.out _).mono ?_;rintro e w3 ⟨rfl,hb⟩;have K4:=Lib.hid (K3.out.below hb);clear hb K3 CB m0 m1 m2 m3 p0 p1 q0 q1;go_wp2;go_ret;exact ⟨rfl,(K4.out.alloc _).1⟩
 . clear HE;have CB:=Lib.hid (fun w=>fV c0 c1 v0 v1 f0 f1 t0 t1 w (by rw [hE];decide))
   rw [hE] at CB;clear hE;go_wp2_with fail;refine (CB.out _).mono ?_;rintro e w3 ⟨rfl,hb⟩;have K4:=Lib.hid (K3.out.below hb);clear hb K3 CB m0 m1 m2 m3 p0 p1 q0 q1;go_wp2;go_ret;exact ⟨rfl,(K4.out.alloc _).1⟩
