/- The example of the chapter on reckoning. -/
import Derived.Test.YtgmncdmcdgkodaaGreatZRk9
import Derived.Test.YtgmncdmcdgkodaaGreatZRk8
import Derived.Test.YtgmncdmcdgkodaaGreatZRk4
import Derived.Test.YtgmncdmcdgkodaaGreatZRk2
import Derived.Test.YtgmncdmcdgkodaaGreatZRw
set_option linter.unusedVariables false
set_option linter.unusedSimpArgs false
set_option maxRecDepth 100000
set_option maxHeartbeats 8000000
namespace Go.Proofs.YtgmncdmcdgkodaaGreat
open Go.RowKit Alm Sx
def lgX:List ag:=[⟨0,0,60000,60000⟩,⟨5400000,5400000,60000,60000⟩]
def zX (i k:Nat):Int:=(([[0,0,0,0],[60000,60000,0,0],[60000,60000,60009,60010]]:Cs).getD i []).getD k 0
theorem GZ:rnF (0+sumOf ag.xl lgX) (0+sumOf ag.xh lgX) 0 0 (wyL 0 lgX 2) (wyH 0 lgX 2) (sumOf eaL lgX) (sumOf eaH lgX) (sumOf weL lgX) (sumOf weH lgX)=[60000,60000,60000,60010,0]:=by decide +kernel
theorem EP:arE 10000 10000 0 0 [⟨0,0,60000,60000⟩]=0/\arR 10000 10000 0 0 [⟨0,0,60000,60000⟩]=[[21600000,21600000]]:=by decide +kernel
theorem z_x:zL zX 2=[[60000,60000,0,0],[60000,60000,60009,60010]]:=by decide +kernel
theorem Am:(∀ l∈lgX,l.rgt=true)/\(∀ l∈([⟨0,0,60000,60000⟩]:List ag),l.rgt=true):=by decide +kernel
theorem sG {w wr:World} {l:List (Nat × TypeId × Array Value)} {g:Nat} {t:TypeId} (K:KS w wr l) (hm:(g,t,#[.int .i64 0,.int .i64 0,.int .i64 60000,.int .i64 60000,.int .i64 5400000,.int .i64 5400000,.int .i64 60000,.int .i64 60000])∈l):bG wr (some ⟨g,0,none⟩) lgX/\bG wr (some ⟨g,0,none⟩) [⟨0,0,60000,60000⟩]:=by
 have c:=fun i v h=>K.c (g:=g) (t:=t) hm (i:=i) (v:=v) h
 refine ⟨.inr ⟨g,0,rfl,K.lt hm,fun i hi=>?_⟩,.inr ⟨g,0,rfl,K.lt hm,fun i hi=>?_⟩⟩
 . match i,hi with
   | 0,_=>exact ⟨c 0 _ rfl,c 1 _ rfl,c 2 _ rfl,c 3 _ rfl⟩
   | 1,_=>exact ⟨c 4 _ rfl,c 5 _ rfl,c 6 _ rfl,c 7 _ rfl⟩
 . match i,hi with
   | 0,_=>exact ⟨c 0 _ rfl,c 1 _ rfl,c 2 _ rfl,c 3 _ rfl⟩
theorem Gq (n:Int) (w:World):Calls Tryz.prog 23 #[.int .i64 n] w fun e w'=>e=.returned (.agg #[.int .i64 n,.int .i64 n])/\Below w.heap.size w w':=by
 go_enter Tryz.func23,Tryz.ntmps23;go_wp2;refine bodyPost_ret (v:=.agg #[.int .i64 n,.int .i64 n]) (by simp [results,Tryz.results23,go_sem];try rfl) rfl ⟨rfl,?_⟩
 exact ((au w).new w.heap.size rfl _ _).1
theorem dx (w:World):Calls Tryz.prog 7 #[] w fun e w'=>e=.returned (.bool true)/\Below w.heap.size w w':=by
 have CA:=Lib.hid Gq;have CL:=Lib.hid FH;have K0:=Lib.hid (au w);go_enter Tryz.func7,Tryz.ntmps7;go_wp2_with fail;refine (CA.out _ _).mono ?_;rintro e w1 ⟨rfl,hb⟩;have K1:=Lib.hid ((K0.out.below hb).new w1.heap.size rfl 25 #[.int .i64 0,.int .i64 0,.int .i64 10000,.int .i64 10000]);clear hb K0;have a0:=K1.out.c (g:=w1.heap.size) (t:=25) (cs:=#[.int .i64 0,.int .i64 0,.int .i64 10000,.int .i64 10000]) (by simp) (i:=0) (v:=.int .i64 0) rfl;have a1:=K1.out.c (g:=w1.heap.size) (t:=25) (cs:=#[.int .i64 0,.int .i64 0,.int .i64 10000,.int .i64 10000]) (by simp) (i:=1) (v:=.int .i64 0) rfl;have a2:=K1.out.c (g:=w1.heap.size) (t:=25) (cs:=#[.int .i64 0,.int .i64 0,.int .i64 10000,.int .i64 10000]) (by simp) (i:=2) (v:=.int .i64 10000) rfl;have a3:=K1.out.c (g:=w1.heap.size) (t:=25) (cs:=#[.int .i64 0,.int .i64 0,.int .i64 10000,.int .i64 10000]) (by simp) (i:=3) (v:=.int .i64 10000) rfl
 go_wp2_with fail;refine (CL.out _).mono ?_;rintro e w2 ⟨rfl,hb⟩;have K2:=Lib.hid ((K1.out.below hb).new w2.heap.size rfl 35 #[.int .i64 0,.int .i64 0,.int .i64 10000,.int .i64 10000]);clear hb K1 CL a0 a1 a2 a3;go_wp2_with fail;refine (CA.out _ _).mono ?_;rintro e w3 ⟨rfl,hb⟩;have K3:=Lib.hid (K2.out.below hb);clear hb K2;go_wp2_with fail;refine (CA.out _ _).mono ?_;rintro e w4 ⟨rfl,hb⟩;have K4:=Lib.hid (K3.out.below hb);clear hb K3;go_wp2_with fail;refine (CA.out _ _).mono ?_;rintro e w5 ⟨rfl,hb⟩;have K5:=Lib.hid ((K4.out.below hb).new w5.heap.size rfl 35 #[.int .i64 0,.int .i64 0,.int .i64 60000,.int .i64 60000,.int .i64 5400000,.int .i64 5400000,.int .i64 60000,.int .i64 60000]);clear hb K4;have CR:=Lib.hid (EO 0 0 0 0 (some ⟨w5.heap.size,0,none⟩) 2 lgX _ (sG (t:=35) K5.out (by simp)).1 (by decide) Am.1 (by decide +kernel))
 rw [show lgX.length=2 from rfl,GZ,show rnV [60000,60000,60000,60010,0]=.tuple #[.agg #[.int .i64 60000,.int .i64 60000,.int .i64 60000,.int .i64 60010],.int .i64 0] from rfl] at CR
 go_wp2_with fail;refine CR.out.mono ?_;rintro e w6 ⟨rfl,hb⟩;have K6:=Lib.hid ((K5.out.below hb).new w6.heap.size rfl 41 #[.int .i64 60000,.int .i64 60000,.int .i64 60000,.int .i64 60010]);clear hb K5 CR
 have CS:=Lib.hid (fun w' (K:KS w w' [(w6.heap.size,41,#[.int .i64 60000,.int .i64 60000,.int .i64 60000,.int .i64 60010]),(w5.heap.size,35,#[.int .i64 0,.int .i64 0,.int .i64 60000,.int .i64 60000,.int .i64 5400000,.int .i64 5400000,.int .i64 60000,.int .i64 60000]),(w2.heap.size,35,#[.int .i64 0,.int .i64 0,.int .i64 10000,.int .i64 10000]),(w1.heap.size,25,#[.int .i64 0,.int .i64 0,.int .i64 10000,.int .i64 10000])])=>C9 (some ⟨w5.heap.size,0,none⟩) 2 lgX zX w' (sG K (g:=w5.heap.size) (t:=35) (by simp)).1 (by decide) Am.1 (by decide +kernel) (fun i h w=>by
  match i,h with
  | 0,_=>exact Gi w
  | 1,_=>exact Gw w))
 replace CS:=Lib.hid (CS.out _ K6.out);go_wp2_with fail;refine CS.out.mono ?_;rintro e w7 ⟨⟨v,rfl,O⟩,hb⟩;rw [show lgX.length=2 from rfl,z_x] at O
 obtain ⟨a1,cap1,rfl,_,_,_,R⟩:=O.out (by decide)
 obtain ⟨g1,rfl,_,R1,_⟩:=R (by simp)
 have HR1:=Lib.hid R1;have K7:=Lib.hid (K6.out.below hb);clear hb K6 CS O R R1;have CT:=Lib.hid (fun w' (K:KS w w' [(w6.heap.size,41,#[.int .i64 60000,.int .i64 60000,.int .i64 60000,.int .i64 60010]),(w5.heap.size,35,#[.int .i64 0,.int .i64 0,.int .i64 60000,.int .i64 60000,.int .i64 5400000,.int .i64 5400000,.int .i64 60000,.int .i64 60000]),(w2.heap.size,35,#[.int .i64 0,.int .i64 0,.int .i64 10000,.int .i64 10000]),(w1.heap.size,25,#[.int .i64 0,.int .i64 0,.int .i64 10000,.int .i64 10000])])=>oL (some ⟨w5.heap.size,0,none⟩) 2 [⟨0,0,60000,60000⟩] 10000 10000 0 0 w' (sG K (g:=w5.heap.size) (t:=35) (by simp)).2 (by decide) Am.2 (by decide) (by decide +kernel))
 rw [EP.1,EP.2,show ([⟨0,0,60000,60000⟩]:List ag).length=1 from rfl] at CT
 have KD:=Lib.hid K7.out.drew;have HRD:=Lib.hid HR1.out.drew;clear HR1 K7;go_wp2_with fail
 go_region_held3 (fun _=>True) (trivial)
  (first
   | ((go_at_call 23;with_reducible refine (CA.out _ _).mono ?_);rintro e wa ⟨rfl,hb⟩;replace KD:=Lib.hid (KD.out.below hb);replace HRD:=Lib.hid (HRD.out.below hb HRD.out.lt);clear hb)
   | ((go_at_call 8;with_reducible refine (CT.out _ KD.out).mono ?_);rintro e wb ⟨⟨v,rfl,O⟩,hb⟩;obtain ⟨a2,cap2,rfl,_,_,_,R⟩:=O.out (by decide);obtain ⟨g2,rfl,_,R2,_⟩:=R (by simp);have HR2:=Lib.hid R2;have KE:=Lib.hid (KD.out.below hb);have HRE:=Lib.hid (HRD.out.below hb HRD.out.lt);clear hb O R R2)
   | fail)
 have SB:Hid (∀ wr,Below wb.heap.size wb wr->wr.cell? ⟨w2.heap.size,2,none⟩=some (.int .i64 10000)/\wr.cell? ⟨w2.heap.size,3,none⟩=some (.int .i64 10000)/\wr.cell? ⟨w6.heap.size,0,none⟩=some (.int .i64 60000)/\wr.cell? ⟨w6.heap.size,1,none⟩=some (.int .i64 60000)/\wr.cell? ⟨g1,4,none⟩=some (.int .i64 60000)/\wr.cell? ⟨g1,5,none⟩=some (.int .i64 60000)/\wr.cell? ⟨g2,0,none⟩=some (.int .i64 21600000)/\wr.cell? ⟨g2,1,none⟩=some (.int .i64 21600000)):=Lib.hid (fun wr hb=>by
  have K:=KE.out.below hb;have R1:=HRE.out.below hb HRE.out.lt;have R2:=HR2.out.below hb HR2.out.lt;exact ⟨K.c (g:=w2.heap.size) (t:=35) (cs:=#[.int .i64 0,.int .i64 0,.int .i64 10000,.int .i64 10000]) (by simp) (i:=2) rfl,K.c (g:=w2.heap.size) (t:=35) (cs:=#[.int .i64 0,.int .i64 0,.int .i64 10000,.int .i64 10000]) (by simp) (i:=3) rfl,K.c (g:=w6.heap.size) (t:=41) (cs:=#[.int .i64 60000,.int .i64 60000,.int .i64 60000,.int .i64 60010]) (by simp) (i:=0) rfl,K.c (g:=w6.heap.size) (t:=41) (cs:=#[.int .i64 60000,.int .i64 60000,.int .i64 60000,.int .i64 60010]) (by simp) (i:=1) rfl,R1.at' 1 (by simp) 0 (by simp),R1.at' 1 (by simp) 1 (by simp),R2.at' 0 (by simp) 0 (by simp),R2.at' 0 (by simp) 1 (by simp)⟩)
 have HB0:Hid (Below w.heap.size w wb):=Lib.hid KE.out.1;clear KE HRE HR2 KD HRD CT;have HB:=Lib.hid ((Below.refl wb.heap.size wb).drew);obtain ⟨s0,s1,s2,s3,s4,s5,s6,s7⟩:=SB.out _ HB.out;go_wp2_with fail
 go_region_held3 (fun wr=>wr.cell? ⟨w2.heap.size,2,none⟩=some (.int .i64 10000)/\wr.cell? ⟨w2.heap.size,3,none⟩=some (.int .i64 10000)/\wr.cell? ⟨w6.heap.size,0,none⟩=some (.int .i64 60000)/\wr.cell? ⟨w6.heap.size,1,none⟩=some (.int .i64 60000)/\wr.cell? ⟨g1,4,none⟩=some (.int .i64 60000)/\wr.cell? ⟨g1,5,none⟩=some (.int .i64 60000)/\wr.cell? ⟨g2,0,none⟩=some (.int .i64 21600000)/\wr.cell? ⟨g2,1,none⟩=some (.int .i64 21600000))
  (first
   | (refine ⟨?_,?_,?_,?_,?_,?_,?_,?_⟩<;>with_reducible assumption)
   | fail)
  (first
   | ((go_at_call 23;with_reducible refine (CA.out _ _).mono ?_);rintro e wa ⟨rfl,hb⟩;replace HB:=Lib.hid (HB.out.trans (hb.mono HB.out.size));clear hb s0 s1 s2 s3 s4 s5 s6 s7;obtain ⟨s0,s1,s2,s3,s4,s5,s6,s7⟩:=SB.out _ HB.out)
   | fail)
 go_wp2;go_ret;exact ⟨rfl,HB0.out.trans (HB.out.mono HB0.out.size)⟩
