/- The law ReckoningOrder. -/
import Derived.Test.YtgmncdmcdgkodaaGreatZAw46
import Derived.Test.YtgmncdmcdgkodaaGreatZSum4
import Derived.Test.YtgmncdmcdgkodaaGreatZLawLt
set_option linter.unusedVariables false
set_option linter.unusedSimpArgs false
set_option maxRecDepth 100000
set_option maxHeartbeats 8000000
namespace Go.Proofs.YtgmncdmcdgkodaaGreat
open Go.RowKit Alm Sx
theorem wB (x y z t:Int):∀ w,(binOp .eql 41 (.agg #[.int .i64 x,.int .i64 y,.int .i64 z,.int .i64 t]) (.agg #[.int .i64 x,.int .i64 y,.int .i64 z,.int .i64 t])).run Tryz.prog w=.ok (.bool true) w:=fun w=>by
 have:=(tO (P:=Tryz.prog) (t:=41) (k:=4) (by kernel_rfl) (by kernel_rfl) [x,y,z,t] [x,y,z,t] rfl rfl w).1
 rw [decide_eq_true rfl] at this;exact this
theorem wo (a:Option Addr) (cap:Nat) (L:List ag) (pa pb pc pd cut:Int) (w:World) (hL:bG w a L) (hl:L.length<=cap) (hnil:a=none->cap=0) (hn:L.length<=14) (hr:∀ l∈L,l.rgt=true) (hc0:0<=cut) (hc1:cut<=255) :
 Calls Tryz.prog 4 #[.agg #[.int .i64 pa,.int .i64 pb,.int .i64 pc,.int .i64 pd],.slice a L.length cap,.int .u8 cut] w fun e w'=>e=.returned (.bool true)/\Below w.heap.size w w':=by
 have CA:=Lib.hid dx;obtain ⟨k,hk,hkn⟩:=Af cut L.length hc0;obtain ⟨SH1,SH⟩:=Ej a cap k L hkn hl hnil;obtain ⟨a',c',SL1,SL⟩:=Ep a cap k L hkn hl hnil;obtain ⟨R,hR,hRun⟩:=zi pa pb pc pd L (by omega) hr
 have hbnd:=jZ L (ru hr);have hbt:=jZ (L.take k) (fun l h=>ru hr l (List.mem_of_mem_take h))
 have hbd:=jZ (L.drop k) (fun l h=>ru hr l (List.mem_of_mem_drop h))
 have hlt:(L.take k).length<=14:=by rw [List.length_take];omega
 have hld:(L.drop k).length<=14:=by rw [List.length_drop];omega
 have CSum:∀ (a:Option Addr) (cap:Nat) (M:List ag) (w:World),bG w a M->M.length<=60->(∀ l∈M,l.rgt=true)->_:=gq;have CL:=Lib.hid (fun (wr:World) (h:bG wr a L)=>AJ a cap L wr h (by omega) hnil)
 have CR:=Lib.hid (fun (wr:World) (h:bG wr a L)=>hRun a cap wr h)
 have CS0:=Lib.hid (fun (wr:World) (h:bG wr a L)=>gq a cap L wr h (by omega) hr)
 have CS1:Hid (∀ (a:Option Addr) (cap:Nat) (wr:World),bG wr a L.reverse->Calls Tryz.prog 11 #[.slice a L.length cap] wr fun e w'=>e=.returned (.tuple #[.agg #[.int .i64 (sumOf ag.xl L),.int .i64 (sumOf ag.xh L)],.agg #[.int .i64 (sumOf ag.yl L),.int .i64 (sumOf ag.yh L)],.int .i64 0])/\Below wr.heap.size wr w'):=Lib.hid (fun a cap wr h=>by
  have:=gq a cap L.reverse wr h (by rw [List.length_reverse];omega) (fun l hl=>hr l (List.mem_reverse.1 hl))
  rw [List.length_reverse,dU,dU,dU,dU] at this;exact this)
 have CS2:Hid (∀ (wr:World),bG wr a L->Calls Tryz.prog 11 #[.slice a k cap] wr fun e w'=>e=.returned (.tuple #[.agg #[.int .i64 (sumOf ag.xl (L.take k)),.int .i64 (sumOf ag.xh (L.take k))],.agg #[.int .i64 (sumOf ag.yl (L.take k)),.int .i64 (sumOf ag.yh (L.take k))],.int .i64 0])/\Below wr.heap.size wr w'):=Lib.hid (fun wr h=>by
  have:=gq a cap (L.take k) wr (SH1 wr h) (by omega) (fun l hl=>hr l (List.mem_of_mem_take hl))
  rw [show (L.take k).length=k by rw [List.length_take];omega] at this
  exact this)
 have CS3:Hid (∀ (wr:World),bG wr a L->Calls Tryz.prog 11 #[.slice a' (L.length-k) c'] wr fun e w'=>e=.returned (.tuple #[.agg #[.int .i64 (sumOf ag.xl (L.drop k)),.int .i64 (sumOf ag.xh (L.drop k))],.agg #[.int .i64 (sumOf ag.yl (L.drop k)),.int .i64 (sumOf ag.yh (L.drop k))],.int .i64 0])/\Below wr.heap.size wr w'):=Lib.hid (fun wr h=>by
  have:=gq a' c' (L.drop k) wr (SL1 wr h) (by omega) (fun l hl=>hr l (List.mem_of_mem_drop hl))
  rw [show (L.drop k).length=L.length-k by rw [List.length_drop]] at this
  exact this)
 have P1:=iO ag.xl L k;have P2:=iO ag.xh L k;have P3:=iO ag.yl L k;have P4:=iO ag.yh L k;rw [P1,P2,P3,P4] at CS0 CS1 hbnd;rw [P1,P2] at hR;clear P1 P2 P3 P4 CSum SH1 SL1;generalize sumOf ag.xl (L.take k)=a1 at CS0 CS1 CS2 CS3 hbnd hbt hbd hR;generalize sumOf ag.xh (L.take k)=a2 at CS0 CS1 CS2 CS3 hbnd hbt hbd hR;generalize sumOf ag.yl (L.take k)=a3 at CS0 CS1 CS2 CS3 hbnd hbt hbd hR;generalize sumOf ag.yh (L.take k)=a4 at CS0 CS1 CS2 CS3 hbnd hbt hbd hR;generalize sumOf ag.xl (L.drop k)=d1 at CS0 CS1 CS2 CS3 hbnd hbt hbd hR;generalize sumOf ag.xh (L.drop k)=d2 at CS0 CS1 CS2 CS3 hbnd hbt hbd hR;generalize sumOf ag.yl (L.drop k)=d3 at CS0 CS1 CS2 CS3 hbnd hbt hbd hR;generalize sumOf ag.yh (L.drop k)=d4 at CS0 CS1 CS2 CS3 hbnd hbt hbd hR;have W:Hid ((-15032385536<=a1/\a1<=a2/\a2<=15032385536/\-15032385536<=a3/\a3<=a4/\a4<=15032385536)/\(-15032385536<=d1/\d1<=d2/\d2<=15032385536/\-15032385536<=d3/\d3<=d4/\d4<=15032385536)):=Lib.hid (by omega)
 have CD1:=Lib.hid (fun w=>mZ a1 a2 d1 d2 w ((aG _ _).2 (by have:=W.out;omega)) ((aG _ _).2 (by have:=W.out;omega)) (by unfold ay;simp only [decide_eq_true_eq];have:=W.out;omega) (by unfold ay;simp only [decide_eq_true_eq];have:=W.out;omega))
 have CD2:=Lib.hid (fun w=>mZ a3 a4 d3 d4 w ((aG _ _).2 (by have:=W.out;omega)) ((aG _ _).2 (by have:=W.out;omega)) (by unfold ay;simp only [decide_eq_true_eq];have:=W.out;omega) (by unfold ay;simp only [decide_eq_true_eq];have:=W.out;omega))
 have CRV:=Lib.hid zY;have HR:=Lib.hid hR;have HL:=Lib.hid hL;clear hR hL hRun hbnd hbt hbd hlt hld hnil hr;obtain ⟨NX0,NX⟩:=dW (a1+d1) (a2+d2);obtain ⟨NY0,NY⟩:=dW (a3+d3) (a4+d4);have hn':¬ (L.length:Int)>14:=by omega
 have hkn':(k:Int)<=(L.length:Int):=by omega
 have K0:=Lib.hid ((au w).new w.heap.size rfl 41 #[.int .i64 pa,.int .i64 pb,.int .i64 pc,.int .i64 pd]);go_enter Tryz.func4,Tryz.ntmps4;go_wp2_with fail;refine (CA.out _).mono ?_;rintro e w1 ⟨rfl,hb⟩;have K1:=Lib.hid (K0.out.below hb);clear hb K0 CA;go_wp2_with fail;refine (CS0.out _ (HL.out.below K1.out.1)).mono ?_;rintro e w2 ⟨rfl,hb⟩;have K2:=Lib.hid (((K1.out.below hb).new w2.heap.size rfl 23 #[.int .i64 (a1+d1),.int .i64 (a2+d2)]).new (w2.heap.size+1) (by simp) 23 #[.int .i64 (a3+d3),.int .i64 (a4+d4)]);clear hb K1 CS0
 go_wp2_with fail;generalize hw3:((w2.alloc (.cells #[.int .i64 (a1+d1),.int .i64 (a2+d2)] 23)).alloc (.cells #[.int .i64 (a3+d3),.int .i64 (a4+d4)] 23))=w3 at *
 refine (CL.out _ (HL.out.below K2.out.1)).mono ?_;rintro e w4 ⟨a5,c5,rfl,ho,hb4⟩;have HO:=Lib.hid ho;have HB4:=Lib.hid hb4;clear ho hb4 CL;have CV:=Lib.hid (zY w3.heap.size a5 c5 L w4 HO.out HB4.out.size (by omega))
 go_wp2_with fail;refine CV.out.mono ?_;rintro e w5 ⟨rfl,hlr,hb⟩;have HLR:=Lib.hid hlr;have K5:=Lib.hid (K2.out.below (HB4.out.trans hb));clear hlr hb HO HB4 CV K2;go_wp2_with fail;refine (CS1.out _ _ _ HLR.out).mono ?_;rintro e w6 ⟨rfl,hb⟩;have K6:=Lib.hid (((K5.out.below hb).new w6.heap.size rfl 23 #[.int .i64 (a1+d1),.int .i64 (a2+d2)]).new (w6.heap.size+1) (by simp) 23 #[.int .i64 (a3+d3),.int .i64 (a4+d4)]);clear hb K5 CS1 HLR
 go_wp2_with fail;refine (CS2.out _ (HL.out.below K6.out.1)).mono ?_;rintro e w7 ⟨rfl,hb⟩;have K7:=Lib.hid (((K6.out.below hb).new w7.heap.size rfl 23 #[.int .i64 a1,.int .i64 a2]).new (w7.heap.size+1) (by simp) 23 #[.int .i64 a3,.int .i64 a4]);clear hb K6 CS2
 go_wp2_with fail;refine (CS3.out _ (HL.out.below K7.out.1)).mono ?_;rintro e w8 ⟨rfl,hb⟩;have K8:=Lib.hid (((K7.out.below hb).new w8.heap.size rfl 23 #[.int .i64 d1,.int .i64 d2]).new (w8.heap.size+1) (by simp) 23 #[.int .i64 d3,.int .i64 d4]);clear hb K7 CS3
 have x0:=K8.out.c (g:=w2.heap.size) (t:=23) (cs:=#[.int .i64 (a1+d1),.int .i64 (a2+d2)]) (by simp) (i:=0) rfl;have x1:=K8.out.c (g:=w2.heap.size) (t:=23) (cs:=#[.int .i64 (a1+d1),.int .i64 (a2+d2)]) (by simp) (i:=1) rfl
 have y0:=K8.out.c (g:=w2.heap.size+1) (t:=23) (cs:=#[.int .i64 (a3+d3),.int .i64 (a4+d4)]) (by simp) (i:=0) rfl;have y1:=K8.out.c (g:=w2.heap.size+1) (t:=23) (cs:=#[.int .i64 (a3+d3),.int .i64 (a4+d4)]) (by simp) (i:=1) rfl
 have p0:=K8.out.c (g:=w6.heap.size) (t:=23) (cs:=#[.int .i64 (a1+d1),.int .i64 (a2+d2)]) (by simp) (i:=0) rfl;have p1:=K8.out.c (g:=w6.heap.size) (t:=23) (cs:=#[.int .i64 (a1+d1),.int .i64 (a2+d2)]) (by simp) (i:=1) rfl
 have q0:=K8.out.c (g:=w6.heap.size+1) (t:=23) (cs:=#[.int .i64 (a3+d3),.int .i64 (a4+d4)]) (by simp) (i:=0) rfl;have q1:=K8.out.c (g:=w6.heap.size+1) (t:=23) (cs:=#[.int .i64 (a3+d3),.int .i64 (a4+d4)]) (by simp) (i:=1) rfl
 have s0:=K8.out.c (g:=w7.heap.size) (t:=23) (cs:=#[.int .i64 a1,.int .i64 a2]) (by simp) (i:=0) rfl;have s1:=K8.out.c (g:=w7.heap.size) (t:=23) (cs:=#[.int .i64 a1,.int .i64 a2]) (by simp) (i:=1) rfl
 have u0:=K8.out.c (g:=w8.heap.size) (t:=23) (cs:=#[.int .i64 d1,.int .i64 d2]) (by simp) (i:=0) rfl;have u1:=K8.out.c (g:=w8.heap.size) (t:=23) (cs:=#[.int .i64 d1,.int .i64 d2]) (by simp) (i:=1) rfl
 have KX:=K8;go_wp2_with fail;refine (CD1.out _).mono ?_;rintro e w9 ⟨rfl,hb⟩;clear x0 x1 y0 y1 p0 p1 q0 q1 s0 s1 u0 u1 KX SL SH;have K9:=Lib.hid ((K8.out.below hb).new w9.heap.size rfl 23 #[.int .i64 (a1+d1),.int .i64 (a2+d2)]);clear hb K8 CD1;have x0:=K9.out.c (g:=w2.heap.size) (t:=23) (cs:=#[.int .i64 (a1+d1),.int .i64 (a2+d2)]) (by simp) (i:=0) rfl;have x1:=K9.out.c (g:=w2.heap.size) (t:=23) (cs:=#[.int .i64 (a1+d1),.int .i64 (a2+d2)]) (by simp) (i:=1) rfl
 have t0:=K9.out.c (g:=w7.heap.size+1) (t:=23) (cs:=#[.int .i64 a3,.int .i64 a4]) (by simp) (i:=0) rfl;have t1:=K9.out.c (g:=w7.heap.size+1) (t:=23) (cs:=#[.int .i64 a3,.int .i64 a4]) (by simp) (i:=1) rfl
 have v0:=K9.out.c (g:=w8.heap.size+1) (t:=23) (cs:=#[.int .i64 d3,.int .i64 d4]) (by simp) (i:=0) rfl;have v1:=K9.out.c (g:=w8.heap.size+1) (t:=23) (cs:=#[.int .i64 d3,.int .i64 d4]) (by simp) (i:=1) rfl
 have z0:=K9.out.c (g:=w9.heap.size) (t:=23) (cs:=#[.int .i64 (a1+d1),.int .i64 (a2+d2)]) (by simp) (i:=0) rfl;have z1:=K9.out.c (g:=w9.heap.size) (t:=23) (cs:=#[.int .i64 (a1+d1),.int .i64 (a2+d2)]) (by simp) (i:=1) rfl
 go_wp2_with fail;refine (CD2.out _).mono ?_;rintro e w10 ⟨rfl,hb⟩;clear x0 x1 t0 t1 v0 v1 z0 z1;have K10:=Lib.hid ((K9.out.below hb).new w10.heap.size rfl 23 #[.int .i64 (a3+d3),.int .i64 (a4+d4)]);clear hb K9 CD2;have y0:=K10.out.c (g:=w2.heap.size+1) (t:=23) (cs:=#[.int .i64 (a3+d3),.int .i64 (a4+d4)]) (by simp) (i:=0) rfl;have y1:=K10.out.c (g:=w2.heap.size+1) (t:=23) (cs:=#[.int .i64 (a3+d3),.int .i64 (a4+d4)]) (by simp) (i:=1) rfl
 have m0:=K10.out.c (g:=w.heap.size) (t:=41) (cs:=#[.int .i64 pa,.int .i64 pb,.int .i64 pc,.int .i64 pd]) (by simp) (i:=0) rfl;have m1:=K10.out.c (g:=w.heap.size) (t:=41) (cs:=#[.int .i64 pa,.int .i64 pb,.int .i64 pc,.int .i64 pd]) (by simp) (i:=1) rfl;have m2:=K10.out.c (g:=w.heap.size) (t:=41) (cs:=#[.int .i64 pa,.int .i64 pb,.int .i64 pc,.int .i64 pd]) (by simp) (i:=2) rfl;have m3:=K10.out.c (g:=w.heap.size) (t:=41) (cs:=#[.int .i64 pa,.int .i64 pb,.int .i64 pc,.int .i64 pd]) (by simp) (i:=3) rfl
 have z0:=K10.out.c (g:=w10.heap.size) (t:=23) (cs:=#[.int .i64 (a3+d3),.int .i64 (a4+d4)]) (by simp) (i:=0) rfl;have z1:=K10.out.c (g:=w10.heap.size) (t:=23) (cs:=#[.int .i64 (a3+d3),.int .i64 (a4+d4)]) (by simp) (i:=1) rfl
 go_wp2_with fail;refine (CR.out _ (HL.out.below K10.out.1)).mono ?_;rintro e w11 ⟨rfl,hb⟩;clear y0 y1 m0 m1 m2 m3 z0 z1 CR HL;rcases HR.out with ⟨er,hne,rfl⟩|⟨hlat,u,v,rfl⟩
 . rw [show rnV [0,0,0,0,er]=.tuple #[.agg #[.int .i64 0,.int .i64 0,.int .i64 0,.int .i64 0],.int .i64 er] from rfl]
   have K11:=Lib.hid ((K10.out.below hb).new w11.heap.size rfl 41 #[.int .i64 0,.int .i64 0,.int .i64 0,.int .i64 0]);clear hb K10;have r0:=K11.out.c (g:=w11.heap.size) (t:=41) (cs:=#[.int .i64 0,.int .i64 0,.int .i64 0,.int .i64 0]) (by simp) (i:=0) rfl;have r1:=K11.out.c (g:=w11.heap.size) (t:=41) (cs:=#[.int .i64 0,.int .i64 0,.int .i64 0,.int .i64 0]) (by simp) (i:=1) rfl;have r2:=K11.out.c (g:=w11.heap.size) (t:=41) (cs:=#[.int .i64 0,.int .i64 0,.int .i64 0,.int .i64 0]) (by simp) (i:=2) rfl;have r3:=K11.out.c (g:=w11.heap.size) (t:=41) (cs:=#[.int .i64 0,.int .i64 0,.int .i64 0,.int .i64 0]) (by simp) (i:=3) rfl
   have hne':(er==0)=false:=by simpa using hne
   have EZ:=wB 0 0 0 0;go_wp2;go_ret;exact ⟨by first|rfl|(simp;done),K11.out.1⟩
 . rw [show rnV [pa+(a1+d1),pb+(a2+d2),u,v,0]=.tuple #[.agg #[.int .i64 (pa+(a1+d1)),.int .i64 (pb+(a2+d2)),.int .i64 u,.int .i64 v],.int .i64 0] from rfl]
   have K11:=Lib.hid ((K10.out.below hb).new w11.heap.size rfl 41 #[.int .i64 (pa+(a1+d1)),.int .i64 (pb+(a2+d2)),.int .i64 u,.int .i64 v]);clear hb K10;have r0:=K11.out.c (g:=w11.heap.size) (t:=41) (cs:=#[.int .i64 (pa+(a1+d1)),.int .i64 (pb+(a2+d2)),.int .i64 u,.int .i64 v]) (by simp) (i:=0) rfl;have r1:=K11.out.c (g:=w11.heap.size) (t:=41) (cs:=#[.int .i64 (pa+(a1+d1)),.int .i64 (pb+(a2+d2)),.int .i64 u,.int .i64 v]) (by simp) (i:=1) rfl;have r2:=K11.out.c (g:=w11.heap.size) (t:=41) (cs:=#[.int .i64 (pa+(a1+d1)),.int .i64 (pb+(a2+d2)),.int .i64 u,.int .i64 v]) (by simp) (i:=2) rfl;have r3:=K11.out.c (g:=w11.heap.size) (t:=41) (cs:=#[.int .i64 (pa+(a1+d1)),.int .i64 (pb+(a2+d2)),.int .i64 u,.int .i64 v]) (by simp) (i:=3) rfl
   have x0:=K11.out.c (g:=w2.heap.size) (t:=23) (cs:=#[.int .i64 (a1+d1),.int .i64 (a2+d2)]) (by simp) (i:=0) rfl;have x1:=K11.out.c (g:=w2.heap.size) (t:=23) (cs:=#[.int .i64 (a1+d1),.int .i64 (a2+d2)]) (by simp) (i:=1) rfl
   have m0:=K11.out.c (g:=w.heap.size) (t:=41) (cs:=#[.int .i64 pa,.int .i64 pb,.int .i64 pc,.int .i64 pd]) (by simp) (i:=0) rfl;have m1:=K11.out.c (g:=w.heap.size) (t:=41) (cs:=#[.int .i64 pa,.int .i64 pb,.int .i64 pc,.int .i64 pd]) (by simp) (i:=1) rfl;have m2:=K11.out.c (g:=w.heap.size) (t:=41) (cs:=#[.int .i64 pa,.int .i64 pb,.int .i64 pc,.int .i64 pd]) (by simp) (i:=2) rfl;have m3:=K11.out.c (g:=w.heap.size) (t:=41) (cs:=#[.int .i64 pa,.int .i64 pb,.int .i64 pc,.int .i64 pd]) (by simp) (i:=3) rfl
   have HLT:=Lib.hid hlat;clear hlat;have CD3:=Lib.hid (fun w=>mZ pa pb (a1+d1) (a2+d2) w ((aG _ _).2 (by have:=HLT.out;omega)) ((aG _ _).2 (by have:=W.out;omega)) (by unfold ay;simp only [decide_eq_true_eq];have:=W.out;have:=HLT.out;omega) (by unfold ay;simp only [decide_eq_true_eq];have:=W.out;have:=HLT.out;omega))
   obtain ⟨EQ,_⟩:=dW (pa+(a1+d1)) (pb+(a2+d2));go_wp2_with fail;refine (CD3.out _).mono ?_;rintro e w12 ⟨rfl,hb⟩;clear r0 r1 r2 r3 x0 x1 m0 m1 m2 m3;have K12:=Lib.hid ((K11.out.below hb).new w12.heap.size rfl 23 #[.int .i64 (pa+(a1+d1)),.int .i64 (pb+(a2+d2))]);clear hb K11 CD3;have r0:=K12.out.c (g:=w11.heap.size) (t:=41) (cs:=#[.int .i64 (pa+(a1+d1)),.int .i64 (pb+(a2+d2)),.int .i64 u,.int .i64 v]) (by simp) (i:=0) rfl;have r1:=K12.out.c (g:=w11.heap.size) (t:=41) (cs:=#[.int .i64 (pa+(a1+d1)),.int .i64 (pb+(a2+d2)),.int .i64 u,.int .i64 v]) (by simp) (i:=1) rfl;have r2:=K12.out.c (g:=w11.heap.size) (t:=41) (cs:=#[.int .i64 (pa+(a1+d1)),.int .i64 (pb+(a2+d2)),.int .i64 u,.int .i64 v]) (by simp) (i:=2) rfl;have r3:=K12.out.c (g:=w11.heap.size) (t:=41) (cs:=#[.int .i64 (pa+(a1+d1)),.int .i64 (pb+(a2+d2)),.int .i64 u,.int .i64 v]) (by simp) (i:=3) rfl
   have z0:=K12.out.c (g:=w12.heap.size) (t:=23) (cs:=#[.int .i64 (pa+(a1+d1)),.int .i64 (pb+(a2+d2))]) (by simp) (i:=0) rfl;have z1:=K12.out.c (g:=w12.heap.size) (t:=23) (cs:=#[.int .i64 (pa+(a1+d1)),.int .i64 (pb+(a2+d2))]) (by simp) (i:=1) rfl
   go_wp2;go_ret;exact ⟨by first|rfl|(simp;done),K12.out.1⟩
theorem yX (a:Option Addr) (cap:Nat) (L:List ag) (pa pb pc pd cut:Int) (w:World) (hL:bG w a L) (hn:L.length<=14) (hr:L.all ag.rgt=false) :
 Calls Tryz.prog 4 #[.agg #[.int .i64 pa,.int .i64 pb,.int .i64 pc,.int .i64 pd],.slice a L.length cap,.int .u8 cut] w fun e w'=>e=.returned (.bool true)/\Below w.heap.size w w':=by
 have CA:=Lib.hid dx;have CS:=Lib.hid (fun (wr:World) (h:bG wr a L)=>wz a cap L wr h (by omega) hr)
 have HL:=Lib.hid hL;clear hL hr;obtain ⟨EZ,_⟩:=dW 0 0;have hn':¬ (L.length:Int)>14:=by omega
 have K0:=Lib.hid ((au w).new w.heap.size rfl 41 #[.int .i64 pa,.int .i64 pb,.int .i64 pc,.int .i64 pd]);go_enter Tryz.func4,Tryz.ntmps4;go_wp2_with fail;refine (CA.out _).mono ?_;rintro e w1 ⟨rfl,hb⟩;have K1:=Lib.hid (K0.out.below hb);clear hb K0 CA;go_wp2_with fail;refine (CS.out _ (HL.out.below K1.out.1)).mono ?_;rintro e w2 ⟨rfl,hb⟩;have K2:=Lib.hid (((K1.out.below hb).new w2.heap.size rfl 23 #[.int .i64 0,.int .i64 0]).new (w2.heap.size+1) (by simp) 23 #[.int .i64 0,.int .i64 0]);clear hb K1 CS
 have x0:=K2.out.c (g:=w2.heap.size) (t:=23) (cs:=#[.int .i64 0,.int .i64 0]) (by simp) (i:=0) rfl;have x1:=K2.out.c (g:=w2.heap.size) (t:=23) (cs:=#[.int .i64 0,.int .i64 0]) (by simp) (i:=1) rfl
 have y0:=K2.out.c (g:=w2.heap.size+1) (t:=23) (cs:=#[.int .i64 0,.int .i64 0]) (by simp) (i:=0) rfl;have y1:=K2.out.c (g:=w2.heap.size+1) (t:=23) (cs:=#[.int .i64 0,.int .i64 0]) (by simp) (i:=1) rfl
 go_wp2;go_ret;exact ⟨by first|rfl|(simp;done),K2.out.1⟩
theorem zh (a:Option Addr) (n cap:Nat) (pa pb pc pd cut:Int) (w:World) (hn:14<n) :
 Calls Tryz.prog 4 #[.agg #[.int .i64 pa,.int .i64 pb,.int .i64 pc,.int .i64 pd],.slice a n cap,.int .u8 cut] w fun e w'=>e=.returned (.bool true)/\Below w.heap.size w w':=by
 have CA:=Lib.hid dx;have hn':(n:Int)>14:=by omega
 have K0:=Lib.hid ((au w).new w.heap.size rfl 41 #[.int .i64 pa,.int .i64 pb,.int .i64 pc,.int .i64 pd]);go_enter Tryz.func4,Tryz.ntmps4;go_wp2_with fail;refine (CA.out _).mono ?_;rintro e w1 ⟨rfl,hb⟩;have K1:=Lib.hid (K0.out.below hb);clear hb K0 CA;go_wp2;go_ret;exact ⟨rfl,K1.out.1⟩
theorem DU (a:Option Addr) (cap:Nat) (L:List ag) (pa pb pc pd cut:Int) (w:World) (hL:bG w a L) (hl:L.length<=cap) (hnil:a=none->L.length=0/\cap=0) (hc:0<=cut/\cut<=255) :
 Calls Tryz.prog 4 #[.agg #[.int .i64 pa,.int .i64 pb,.int .i64 pc,.int .i64 pd],.slice a L.length cap,.int .u8 cut] w fun e w'=>e=.returned (.bool true)/\Below w.heap.size w w':=by
 by_cases hn:L.length<=14
 . cases hr:L.all ag.rgt
   . exact yX a cap L pa pb pc pd cut w hL hn hr
   . exact wo a cap L pa pb pc pd cut w hL hl (fun h=>(hnil h).2) hn (List.all_eq_true.1 hr) hc.1 hc.2
 . exact zh a L.length cap pa pb pc pd cut w (by omega)
