/- Walks of LookupColumns over contracts: the program's solution from two columns. -/
import Derived.Test.YtdbaccfgkacffaaGreatZColW
import Derived.Deep.DeepCutAuto
set_option linter.unusedVariables false
set_option linter.unusedSimpArgs false
set_option maxRecDepth 100000
set_option maxHeartbeats 8000000
namespace Go.Proofs.YtdbaccfgkacffaaGreat
open Go.RowKit Alm Sx
theorem Q7 (la de eh ez la2 de2 eh2 ez2 d0 d1 l0 l1:Int) (aH aZ bH bZ:Option Addr) (nH cH nZ cZ mH dH mZ dZ:Nat) (V W D L:Bool) (w:World) (hbad:(V&&W&&D&&L)=false)
 (CV:CtB w 111 #[.agg #[.int .i64 la,.int .i64 de,.slice aH nH cH,.slice aZ nZ cZ,.int .i64 eh,.int .i64 ez]] (.bool V))
 (CW:CtB w 111 #[.agg #[.int .i64 la2,.int .i64 de2,.slice bH mH dH,.slice bZ mZ dZ,.int .i64 eh2,.int .i64 ez2]] (.bool W))
 (CD:CtB w 63 #[.agg #[.int .i64 d0,.int .i64 d1]] (.bool D))
 (CL:CtB w 63 #[.agg #[.int .i64 l0,.int .i64 l1]] (.bool L)) :
 Calls Tryz.prog 39 #[.agg #[.int .i64 la,.int .i64 de,.slice aH nH cH,.slice aZ nZ cZ,.int .i64 eh,.int .i64 ez],.agg #[.int .i64 la2,.int .i64 de2,.slice bH mH dH,.slice bZ mZ dZ,.int .i64 eh2,.int .i64 ez2],.agg #[.int .i64 d0,.int .i64 d1],.agg #[.int .i64 l0,.int .i64 l1]] w fun e w'=>e=.returned (.tuple #[.agg #[.int .i64 0,.int .i64 0,.int .i64 0,.int .i64 0],.int .i64 1])/\Below w.heap.size w w':=by
 have K0:=Lib.hid (((((az w).new w.heap.size rfl 78 #[.int .i64 la,.int .i64 de,.slice aH nH cH,.slice aZ nZ cZ,.int .i64 eh,.int .i64 ez]).new (w.heap.size+1) (by simp) 78 #[.int .i64 la2,.int .i64 de2,.slice bH mH dH,.slice bZ mZ dZ,.int .i64 eh2,.int .i64 ez2]).new (w.heap.size+1+1) (by simp) 23 #[.int .i64 d0,.int .i64 d1]).new (w.heap.size+1+1+1) (by simp) 23 #[.int .i64 l0,.int .i64 l1] |>.new (w.heap.size+1+1+1+1) (by simp) 28 #[.int .i64 0,.int .i64 0,.int .i64 0,.int .i64 0])
 go_enter Tryz.func39,Tryz.ntmps39;obtain ⟨a0,a1,a2,a3,a4,a5⟩:=kc6 K0.out (w.heap.size) 78 (.int .i64 la) (.int .i64 de) (.slice aH nH cH) (.slice aZ nZ cZ) (.int .i64 eh) (.int .i64 ez) (by simp)
 go_wp2_with fail;refine (CV.out _ K0.out.1).mono ?_;rintro e w1 ⟨rfl,hb⟩;have K1:=Lib.hid (K0.out.below hb);clear hb K0 CV a0 a1 a2 a3 a4 a5;cases V
 . obtain ⟨z0,z1,z2,z3⟩:=kc4 K1.out (w.heap.size+1+1+1+1) 28 (.int .i64 0) (.int .i64 0) (.int .i64 0) (.int .i64 0) (by simp)
   obtain ⟨y0,y1,y2,y3⟩:=kf4 K1.out (w.heap.size+1+1+1+1) 28 (.int .i64 0) (.int .i64 0) (.int .i64 0) (.int .i64 0) (by simp)
   have KE:=Lib.hid (dD K1.out (w.heap.size+1+1+1+1) 28 (.int .i64 0) (.int .i64 0) (.int .i64 0) (.int .i64 0) (by simp) (by omega) (.int .i64 0) (.int .i64 0) (.int .i64 0) (.int .i64 0))
   go_wp2;clear z0 z1 z2 z3 y0 y1 y2 y3 K1;generalize ((((World.setCell _ _ _).setCell _ _).setCell _ _).setCell _ _)=wE at *
   obtain ⟨z0,z1,z2,z3⟩:=kc4 KE.out (w.heap.size+1+1+1+1) 28 (.int .i64 0) (.int .i64 0) (.int .i64 0) (.int .i64 0) (by simp)
   refine bodyPost_ret (by simp [results,Tryz.results39,go_sem,z0,z1,z2,z3];try rfl) rfl ⟨by simp,KE.out.1⟩
 . obtain ⟨a0,a1,a2,a3,a4,a5⟩:=kc6 K1.out (w.heap.size+1) 78 (.int .i64 la2) (.int .i64 de2) (.slice bH mH dH) (.slice bZ mZ dZ) (.int .i64 eh2) (.int .i64 ez2) (by simp)
   go_wp2_with fail;refine (CW.out _ K1.out.1).mono ?_;rintro e w2 ⟨rfl,hb⟩;have K2:=Lib.hid (K1.out.below hb);clear hb K1 CW a0 a1 a2 a3 a4 a5;cases W
   . obtain ⟨z0,z1,z2,z3⟩:=kc4 K2.out (w.heap.size+1+1+1+1) 28 (.int .i64 0) (.int .i64 0) (.int .i64 0) (.int .i64 0) (by simp)
     obtain ⟨y0,y1,y2,y3⟩:=kf4 K2.out (w.heap.size+1+1+1+1) 28 (.int .i64 0) (.int .i64 0) (.int .i64 0) (.int .i64 0) (by simp)
     have KE:=Lib.hid (dD K2.out (w.heap.size+1+1+1+1) 28 (.int .i64 0) (.int .i64 0) (.int .i64 0) (.int .i64 0) (by simp) (by omega) (.int .i64 0) (.int .i64 0) (.int .i64 0) (.int .i64 0))
     go_wp2;clear z0 z1 z2 z3 y0 y1 y2 y3 K2;generalize ((((World.setCell _ _ _).setCell _ _).setCell _ _).setCell _ _)=wE at *
     obtain ⟨z0,z1,z2,z3⟩:=kc4 KE.out (w.heap.size+1+1+1+1) 28 (.int .i64 0) (.int .i64 0) (.int .i64 0) (.int .i64 0) (by simp)
     refine bodyPost_ret (by simp [results,Tryz.results39,go_sem,z0,z1,z2,z3];try rfl) rfl ⟨by simp,KE.out.1⟩
   . obtain ⟨a0,a1⟩:=kc2 K2.out (w.heap.size+1+1) 23 (.int .i64 d0) (.int .i64 d1) (by simp)
     go_wp2_with fail;refine (CD.out _ K2.out.1).mono ?_;rintro e w3 ⟨rfl,hb⟩;have K3:=Lib.hid (K2.out.below hb);clear hb K2 CD a0 a1;cases D
     . obtain ⟨z0,z1,z2,z3⟩:=kc4 K3.out (w.heap.size+1+1+1+1) 28 (.int .i64 0) (.int .i64 0) (.int .i64 0) (.int .i64 0) (by simp)
       obtain ⟨y0,y1,y2,y3⟩:=kf4 K3.out (w.heap.size+1+1+1+1) 28 (.int .i64 0) (.int .i64 0) (.int .i64 0) (.int .i64 0) (by simp)
       have KE:=Lib.hid (dD K3.out (w.heap.size+1+1+1+1) 28 (.int .i64 0) (.int .i64 0) (.int .i64 0) (.int .i64 0) (by simp) (by omega) (.int .i64 0) (.int .i64 0) (.int .i64 0) (.int .i64 0))
       go_wp2;clear z0 z1 z2 z3 y0 y1 y2 y3 K3;generalize ((((World.setCell _ _ _).setCell _ _).setCell _ _).setCell _ _)=wE at *
       obtain ⟨z0,z1,z2,z3⟩:=kc4 KE.out (w.heap.size+1+1+1+1) 28 (.int .i64 0) (.int .i64 0) (.int .i64 0) (.int .i64 0) (by simp)
       refine bodyPost_ret (by simp [results,Tryz.results39,go_sem,z0,z1,z2,z3];try rfl) rfl ⟨by simp,KE.out.1⟩
     . obtain ⟨a0,a1⟩:=kc2 K3.out (w.heap.size+1+1+1) 23 (.int .i64 l0) (.int .i64 l1) (by simp)
       go_wp2_with fail;refine (CL.out _ K3.out.1).mono ?_;rintro e w4 ⟨rfl,hb⟩;have K4:=Lib.hid (K3.out.below hb);clear hb K3 CL a0 a1;cases L
       . obtain ⟨z0,z1,z2,z3⟩:=kc4 K4.out (w.heap.size+1+1+1+1) 28 (.int .i64 0) (.int .i64 0) (.int .i64 0) (.int .i64 0) (by simp)
         obtain ⟨y0,y1,y2,y3⟩:=kf4 K4.out (w.heap.size+1+1+1+1) 28 (.int .i64 0) (.int .i64 0) (.int .i64 0) (.int .i64 0) (by simp)
         have KE:=Lib.hid (dD K4.out (w.heap.size+1+1+1+1) 28 (.int .i64 0) (.int .i64 0) (.int .i64 0) (.int .i64 0) (by simp) (by omega) (.int .i64 0) (.int .i64 0) (.int .i64 0) (.int .i64 0))
         go_wp2;clear z0 z1 z2 z3 y0 y1 y2 y3 K4;generalize ((((World.setCell _ _ _).setCell _ _).setCell _ _).setCell _ _)=wE at *
         obtain ⟨z0,z1,z2,z3⟩:=kc4 KE.out (w.heap.size+1+1+1+1) 28 (.int .i64 0) (.int .i64 0) (.int .i64 0) (.int .i64 0) (by simp)
         refine bodyPost_ret (by simp [results,Tryz.results39,go_sem,z0,z1,z2,z3];try rfl) rfl ⟨by simp,KE.out.1⟩
       . cases hbad
theorem MF (la de eh ez la2 de2 eh2 ez2 d0 d1 l0 l1:Int) (aH aZ bH bZ:Option Addr) (cH cZ dH dZ:Nat) (hk:la≠la2∨de2≠de+1) (w:World) (hb1:-90<=de/\de<=90) (hv:(-1099511627776<=d0/\d0<=1099511627776)/\-1099511627776<=d1/\d1<=1099511627776) (hb2:-90<=de2/\de2<=90)
 (CV:CtB w 111 #[.agg #[.int .i64 la,.int .i64 de,.slice aH 181 cH,.slice aZ 181 cZ,.int .i64 eh,.int .i64 ez]] (.bool true))
 (CW:CtB w 111 #[.agg #[.int .i64 la2,.int .i64 de2,.slice bH 181 dH,.slice bZ 181 dZ,.int .i64 eh2,.int .i64 ez2]] (.bool true))
 (CD:CtB w 63 #[.agg #[.int .i64 d0,.int .i64 d1]] (.bool true))
 (CL:CtB w 63 #[.agg #[.int .i64 l0,.int .i64 l1]] (.bool true)) :
 Calls Tryz.prog 39 #[.agg #[.int .i64 la,.int .i64 de,.slice aH 181 cH,.slice aZ 181 cZ,.int .i64 eh,.int .i64 ez],.agg #[.int .i64 la2,.int .i64 de2,.slice bH 181 dH,.slice bZ 181 dZ,.int .i64 eh2,.int .i64 ez2],.agg #[.int .i64 d0,.int .i64 d1],.agg #[.int .i64 l0,.int .i64 l1]] w fun e w'=>e=.returned (.tuple #[.agg #[.int .i64 0,.int .i64 0,.int .i64 0,.int .i64 0],.int .i64 11])/\Below w.heap.size w w':=by
 have hw1:IntKind.i64.wrap (de+1)=de+1:=Go.IntWalk.i64_in _ (by omega)
 have hw2:IntKind.i64.wrap (de*60000)=de*60000:=Go.IntWalk.i64_in _ (by omega)
 have hw3:IntKind.i64.wrap (de2*60000)=de2*60000:=Go.IntWalk.i64_in _ (by omega)
 have K0:=Lib.hid (((((az w).new w.heap.size rfl 78 #[.int .i64 la,.int .i64 de,.slice aH 181 cH,.slice aZ 181 cZ,.int .i64 eh,.int .i64 ez]).new (w.heap.size+1) (by simp) 78 #[.int .i64 la2,.int .i64 de2,.slice bH 181 dH,.slice bZ 181 dZ,.int .i64 eh2,.int .i64 ez2]).new (w.heap.size+1+1) (by simp) 23 #[.int .i64 d0,.int .i64 d1]).new (w.heap.size+1+1+1) (by simp) 23 #[.int .i64 l0,.int .i64 l1] |>.new (w.heap.size+1+1+1+1) (by simp) 28 #[.int .i64 0,.int .i64 0,.int .i64 0,.int .i64 0])
 go_enter Tryz.func39,Tryz.ntmps39;obtain ⟨a0,a1,a2,a3,a4,a5⟩:=kc6 K0.out (w.heap.size) 78 (.int .i64 la) (.int .i64 de) (.slice aH 181 cH) (.slice aZ 181 cZ) (.int .i64 eh) (.int .i64 ez) (by simp)
 go_wp2_with fail;refine (CV.out _ K0.out.1).mono ?_;rintro e w1 ⟨rfl,hb⟩;have K1:=Lib.hid (K0.out.below hb);clear hb K0 CV a0 a1 a2 a3 a4 a5;obtain ⟨a0,a1,a2,a3,a4,a5⟩:=kc6 K1.out (w.heap.size+1) 78 (.int .i64 la2) (.int .i64 de2) (.slice bH 181 dH) (.slice bZ 181 dZ) (.int .i64 eh2) (.int .i64 ez2) (by simp)
 go_wp2_with fail;refine (CW.out _ K1.out.1).mono ?_;rintro e w2 ⟨rfl,hb⟩;have K2:=Lib.hid (K1.out.below hb);clear hb K1 CW a0 a1 a2 a3 a4 a5;obtain ⟨a0,a1⟩:=kc2 K2.out (w.heap.size+1+1) 23 (.int .i64 d0) (.int .i64 d1) (by simp)
 go_wp2_with fail;refine (CD.out _ K2.out.1).mono ?_;rintro e w3 ⟨rfl,hb⟩;have K3:=Lib.hid (K2.out.below hb);clear hb K2 CD a0 a1;obtain ⟨a0,a1⟩:=kc2 K3.out (w.heap.size+1+1+1) 23 (.int .i64 l0) (.int .i64 l1) (by simp)
 go_wp2_with fail;refine (CL.out _ K3.out.1).mono ?_;rintro e w4 ⟨rfl,hb⟩;have K4:=Lib.hid (K3.out.below hb);clear hb K3 CL a0 a1;obtain ⟨a0,a1,-,-,-,-⟩:=kc6 K4.out (w.heap.size) 78 (.int .i64 la) (.int .i64 de) (.slice aH 181 cH) (.slice aZ 181 cZ) (.int .i64 eh) (.int .i64 ez) (by simp)
 obtain ⟨b0,b1,-,-,-,-⟩:=kc6 K4.out (w.heap.size+1) 78 (.int .i64 la2) (.int .i64 de2) (.slice bH 181 dH) (.slice bZ 181 dZ) (.int .i64 eh2) (.int .i64 ez2) (by simp)
 obtain ⟨z0,z1,z2,z3⟩:=kc4 K4.out (w.heap.size+1+1+1+1) 28 (.int .i64 0) (.int .i64 0) (.int .i64 0) (.int .i64 0) (by simp)
 obtain ⟨y0,y1,y2,y3⟩:=kf4 K4.out (w.heap.size+1+1+1+1) 28 (.int .i64 0) (.int .i64 0) (.int .i64 0) (.int .i64 0) (by simp)
 by_cases q1:la=la2
 . subst q1;have q2:¬ de2=de+1:=by omega
   have KE:=Lib.hid (dD K4.out (w.heap.size+1+1+1+1) 28 (.int .i64 0) (.int .i64 0) (.int .i64 0) (.int .i64 0) (by simp) (by omega) (.int .i64 0) (.int .i64 0) (.int .i64 0) (.int .i64 0))
   go_wp2;clear z0 z1 z2 z3 y0 y1 y2 y3 K4 a0 a1 b0 b1;generalize ((((World.setCell _ _ _).setCell _ _).setCell _ _).setCell _ _)=wE at *
   obtain ⟨z0,z1,z2,z3⟩:=kc4 KE.out (w.heap.size+1+1+1+1) 28 (.int .i64 0) (.int .i64 0) (.int .i64 0) (.int .i64 0) (by simp)
   refine bodyPost_ret (by simp [results,Tryz.results39,go_sem,z0,z1,z2,z3];try rfl) rfl ⟨by simp,KE.out.1⟩
 . have KE:=Lib.hid (dD K4.out (w.heap.size+1+1+1+1) 28 (.int .i64 0) (.int .i64 0) (.int .i64 0) (.int .i64 0) (by simp) (by omega) (.int .i64 0) (.int .i64 0) (.int .i64 0) (.int .i64 0))
   go_wp2;clear z0 z1 z2 z3 y0 y1 y2 y3 K4 a0 a1 b0 b1;generalize ((((World.setCell _ _ _).setCell _ _).setCell _ _).setCell _ _)=wE at *
   obtain ⟨z0,z1,z2,z3⟩:=kc4 KE.out (w.heap.size+1+1+1+1) 28 (.int .i64 0) (.int .i64 0) (.int .i64 0) (.int .i64 0) (by simp)
   refine bodyPost_ret (by simp [results,Tryz.results39,go_sem,z0,z1,z2,z3];try rfl) rfl ⟨by simp,KE.out.1⟩
theorem GA (la de eh ez eh2 ez2 d0 d1 l0 l1:Int) (aH aZ bH bZ:Option Addr) (cH cZ dH dZ:Nat) (hr:Hid (¬ (de*60000<=d0/\d1<=(de+1)*60000/\0<=l0/\l1<=10800000))) (w:World) (hb1:-90<=de/\de<=90) (hv:(-1099511627776<=d0/\d0<=1099511627776)/\-1099511627776<=d1/\d1<=1099511627776) (hb2:-90<=(de+1)/\(de+1)<=90)
 (CV:CtB w 111 #[.agg #[.int .i64 la,.int .i64 de,.slice aH 181 cH,.slice aZ 181 cZ,.int .i64 eh,.int .i64 ez]] (.bool true))
 (CW:CtB w 111 #[.agg #[.int .i64 la,.int .i64 (de+1),.slice bH 181 dH,.slice bZ 181 dZ,.int .i64 eh2,.int .i64 ez2]] (.bool true))
 (CD:CtB w 63 #[.agg #[.int .i64 d0,.int .i64 d1]] (.bool true))
 (CL:CtB w 63 #[.agg #[.int .i64 l0,.int .i64 l1]] (.bool true)) :
 Calls Tryz.prog 39 #[.agg #[.int .i64 la,.int .i64 de,.slice aH 181 cH,.slice aZ 181 cZ,.int .i64 eh,.int .i64 ez],.agg #[.int .i64 la,.int .i64 (de+1),.slice bH 181 dH,.slice bZ 181 dZ,.int .i64 eh2,.int .i64 ez2],.agg #[.int .i64 d0,.int .i64 d1],.agg #[.int .i64 l0,.int .i64 l1]] w fun e w'=>e=.returned (.tuple #[.agg #[.int .i64 0,.int .i64 0,.int .i64 0,.int .i64 0],.int .i64 2])/\Below w.heap.size w w':=by
 have hw1:IntKind.i64.wrap (de+1)=de+1:=Go.IntWalk.i64_in _ (by omega)
 have hw2:IntKind.i64.wrap (de*60000)=de*60000:=Go.IntWalk.i64_in _ (by omega)
 have hw3:IntKind.i64.wrap ((de+1)*60000)=(de+1)*60000:=Go.IntWalk.i64_in _ (by omega)
 have K0:=Lib.hid (((((az w).new w.heap.size rfl 78 #[.int .i64 la,.int .i64 de,.slice aH 181 cH,.slice aZ 181 cZ,.int .i64 eh,.int .i64 ez]).new (w.heap.size+1) (by simp) 78 #[.int .i64 la,.int .i64 (de+1),.slice bH 181 dH,.slice bZ 181 dZ,.int .i64 eh2,.int .i64 ez2]).new (w.heap.size+1+1) (by simp) 23 #[.int .i64 d0,.int .i64 d1]).new (w.heap.size+1+1+1) (by simp) 23 #[.int .i64 l0,.int .i64 l1] |>.new (w.heap.size+1+1+1+1) (by simp) 28 #[.int .i64 0,.int .i64 0,.int .i64 0,.int .i64 0])
 go_enter Tryz.func39,Tryz.ntmps39;obtain ⟨a0,a1,a2,a3,a4,a5⟩:=kc6 K0.out (w.heap.size) 78 (.int .i64 la) (.int .i64 de) (.slice aH 181 cH) (.slice aZ 181 cZ) (.int .i64 eh) (.int .i64 ez) (by simp)
 go_wp2_with fail;refine (CV.out _ K0.out.1).mono ?_;rintro e w1 ⟨rfl,hb⟩;have K1:=Lib.hid (K0.out.below hb);clear hb K0 CV a0 a1 a2 a3 a4 a5;obtain ⟨a0,a1,a2,a3,a4,a5⟩:=kc6 K1.out (w.heap.size+1) 78 (.int .i64 la) (.int .i64 (de+1)) (.slice bH 181 dH) (.slice bZ 181 dZ) (.int .i64 eh2) (.int .i64 ez2) (by simp)
 go_wp2_with fail;refine (CW.out _ K1.out.1).mono ?_;rintro e w2 ⟨rfl,hb⟩;have K2:=Lib.hid (K1.out.below hb);clear hb K1 CW a0 a1 a2 a3 a4 a5;obtain ⟨a0,a1⟩:=kc2 K2.out (w.heap.size+1+1) 23 (.int .i64 d0) (.int .i64 d1) (by simp)
 go_wp2_with fail;refine (CD.out _ K2.out.1).mono ?_;rintro e w3 ⟨rfl,hb⟩;have K3:=Lib.hid (K2.out.below hb);clear hb K2 CD a0 a1;obtain ⟨a0,a1⟩:=kc2 K3.out (w.heap.size+1+1+1) 23 (.int .i64 l0) (.int .i64 l1) (by simp)
 go_wp2_with fail;refine (CL.out _ K3.out.1).mono ?_;rintro e w4 ⟨rfl,hb⟩;have K4:=Lib.hid (K3.out.below hb);clear hb K3 CL a0 a1;obtain ⟨a0,a1,-,-,-,-⟩:=kc6 K4.out (w.heap.size) 78 (.int .i64 la) (.int .i64 de) (.slice aH 181 cH) (.slice aZ 181 cZ) (.int .i64 eh) (.int .i64 ez) (by simp)
 obtain ⟨b0,b1,-,-,-,-⟩:=kc6 K4.out (w.heap.size+1) 78 (.int .i64 la) (.int .i64 (de+1)) (.slice bH 181 dH) (.slice bZ 181 dZ) (.int .i64 eh2) (.int .i64 ez2) (by simp)
 obtain ⟨z0,z1,z2,z3⟩:=kc4 K4.out (w.heap.size+1+1+1+1) 28 (.int .i64 0) (.int .i64 0) (.int .i64 0) (.int .i64 0) (by simp)
 obtain ⟨y0,y1,y2,y3⟩:=kf4 K4.out (w.heap.size+1+1+1+1) 28 (.int .i64 0) (.int .i64 0) (.int .i64 0) (.int .i64 0) (by simp)
 obtain ⟨dd0,dd1⟩:=kc2 K4.out (w.heap.size+1+1) 23 (.int .i64 d0) (.int .i64 d1) (by simp)
 obtain ⟨ll0,ll1⟩:=kc2 K4.out (w.heap.size+1+1+1) 23 (.int .i64 l0) (.int .i64 l1) (by simp)
 by_cases c1:d0<de*60000
 . have KE:=Lib.hid (dD K4.out (w.heap.size+1+1+1+1) 28 (.int .i64 0) (.int .i64 0) (.int .i64 0) (.int .i64 0) (by simp) (by omega) (.int .i64 0) (.int .i64 0) (.int .i64 0) (.int .i64 0))
   go_wp2;clear z0 z1 z2 z3 y0 y1 y2 y3 K4 a0 a1 b0 b1 dd0 dd1 ll0 ll1;generalize ((((World.setCell _ _ _).setCell _ _).setCell _ _).setCell _ _)=wE at *
   obtain ⟨z0,z1,z2,z3⟩:=kc4 KE.out (w.heap.size+1+1+1+1) 28 (.int .i64 0) (.int .i64 0) (.int .i64 0) (.int .i64 0) (by simp)
   refine bodyPost_ret (by simp [results,Tryz.results39,go_sem,z0,z1,z2,z3];try rfl) rfl ⟨by simp,KE.out.1⟩
 . by_cases c2:(de+1)*60000<d1
   . have KE:=Lib.hid (dD K4.out (w.heap.size+1+1+1+1) 28 (.int .i64 0) (.int .i64 0) (.int .i64 0) (.int .i64 0) (by simp) (by omega) (.int .i64 0) (.int .i64 0) (.int .i64 0) (.int .i64 0))
     go_wp2;clear z0 z1 z2 z3 y0 y1 y2 y3 K4 a0 a1 b0 b1 dd0 dd1 ll0 ll1;generalize ((((World.setCell _ _ _).setCell _ _).setCell _ _).setCell _ _)=wE at *
     obtain ⟨z0,z1,z2,z3⟩:=kc4 KE.out (w.heap.size+1+1+1+1) 28 (.int .i64 0) (.int .i64 0) (.int .i64 0) (.int .i64 0) (by simp)
     refine bodyPost_ret (by simp [results,Tryz.results39,go_sem,z0,z1,z2,z3];try rfl) rfl ⟨by simp,KE.out.1⟩
   . by_cases c3:l0<0
     . have KE:=Lib.hid (dD K4.out (w.heap.size+1+1+1+1) 28 (.int .i64 0) (.int .i64 0) (.int .i64 0) (.int .i64 0) (by simp) (by omega) (.int .i64 0) (.int .i64 0) (.int .i64 0) (.int .i64 0))
       go_wp2;clear z0 z1 z2 z3 y0 y1 y2 y3 K4 a0 a1 b0 b1 dd0 dd1 ll0 ll1;generalize ((((World.setCell _ _ _).setCell _ _).setCell _ _).setCell _ _)=wE at *
       obtain ⟨z0,z1,z2,z3⟩:=kc4 KE.out (w.heap.size+1+1+1+1) 28 (.int .i64 0) (.int .i64 0) (.int .i64 0) (.int .i64 0) (by simp)
       refine bodyPost_ret (by simp [results,Tryz.results39,go_sem,z0,z1,z2,z3];try rfl) rfl ⟨by simp,KE.out.1⟩
     . by_cases c4:10800000<l1
       . have KE:=Lib.hid (dD K4.out (w.heap.size+1+1+1+1) 28 (.int .i64 0) (.int .i64 0) (.int .i64 0) (.int .i64 0) (by simp) (by omega) (.int .i64 0) (.int .i64 0) (.int .i64 0) (.int .i64 0))
         go_wp2;clear z0 z1 z2 z3 y0 y1 y2 y3 K4 a0 a1 b0 b1 dd0 dd1 ll0 ll1;generalize ((((World.setCell _ _ _).setCell _ _).setCell _ _).setCell _ _)=wE at *
         obtain ⟨z0,z1,z2,z3⟩:=kc4 KE.out (w.heap.size+1+1+1+1) 28 (.int .i64 0) (.int .i64 0) (.int .i64 0) (.int .i64 0) (by simp)
         refine bodyPost_ret (by simp [results,Tryz.results39,go_sem,z0,z1,z2,z3];try rfl) rfl ⟨by simp,KE.out.1⟩
       . exfalso;exact hr.out (by omega)
theorem M6 (la de eh ez eh2 ez2 d0 d1 l0 l1:Int) (aH aZ bH bZ:Option Addr) (cH cZ dH dZ:Nat) (k:Nat) (u0 u1:Int) (r1:¬ d0<de*60000) (r2:¬ (de+1)*60000<d1) (r3:¬ l0<0) (r4:¬ 10800000<l1) (w:World) (hb1:-90<=de/\de<=90) (hv:(-1099511627776<=d0/\d0<=1099511627776)/\-1099511627776<=d1/\d1<=1099511627776) (hb2:-90<=(de+1)/\(de+1)<=90)
 (CV:CtB w 111 #[.agg #[.int .i64 la,.int .i64 de,.slice aH 181 cH,.slice aZ 181 cZ,.int .i64 eh,.int .i64 ez]] (.bool true))
 (CW:CtB w 111 #[.agg #[.int .i64 la,.int .i64 (de+1),.slice bH 181 dH,.slice bZ 181 dZ,.int .i64 eh2,.int .i64 ez2]] (.bool true))
 (CD:CtB w 63 #[.agg #[.int .i64 d0,.int .i64 d1]] (.bool true))
 (CL:CtB w 63 #[.agg #[.int .i64 l0,.int .i64 l1]] (.bool true))
 (CG:CtB w 44 #[.agg #[.int .i64 l0,.int .i64 l1],.int .i64 0,.int .i64 179] (.tuple #[.int .i64 (k:Int),.agg #[.int .i64 u0,.int .i64 u1],.bool false])) :
 Calls Tryz.prog 39 #[.agg #[.int .i64 la,.int .i64 de,.slice aH 181 cH,.slice aZ 181 cZ,.int .i64 eh,.int .i64 ez],.agg #[.int .i64 la,.int .i64 (de+1),.slice bH 181 dH,.slice bZ 181 dZ,.int .i64 eh2,.int .i64 ez2],.agg #[.int .i64 d0,.int .i64 d1],.agg #[.int .i64 l0,.int .i64 l1]] w fun e w'=>e=.returned (.tuple #[.agg #[.int .i64 0,.int .i64 0,.int .i64 0,.int .i64 0],.int .i64 24])/\Below w.heap.size w w':=by
 have hw1:IntKind.i64.wrap (de+1)=de+1:=Go.IntWalk.i64_in _ (by omega)
 have hw2:IntKind.i64.wrap (de*60000)=de*60000:=Go.IntWalk.i64_in _ (by omega)
 have hw3:IntKind.i64.wrap ((de+1)*60000)=(de+1)*60000:=Go.IntWalk.i64_in _ (by omega)
 have K0:=Lib.hid (((((az w).new w.heap.size rfl 78 #[.int .i64 la,.int .i64 de,.slice aH 181 cH,.slice aZ 181 cZ,.int .i64 eh,.int .i64 ez]).new (w.heap.size+1) (by simp) 78 #[.int .i64 la,.int .i64 (de+1),.slice bH 181 dH,.slice bZ 181 dZ,.int .i64 eh2,.int .i64 ez2]).new (w.heap.size+1+1) (by simp) 23 #[.int .i64 d0,.int .i64 d1]).new (w.heap.size+1+1+1) (by simp) 23 #[.int .i64 l0,.int .i64 l1] |>.new (w.heap.size+1+1+1+1) (by simp) 28 #[.int .i64 0,.int .i64 0,.int .i64 0,.int .i64 0])
 go_enter Tryz.func39,Tryz.ntmps39;obtain ⟨a0,a1,a2,a3,a4,a5⟩:=kc6 K0.out (w.heap.size) 78 (.int .i64 la) (.int .i64 de) (.slice aH 181 cH) (.slice aZ 181 cZ) (.int .i64 eh) (.int .i64 ez) (by simp)
 go_wp2_with fail;refine (CV.out _ K0.out.1).mono ?_;rintro e w1 ⟨rfl,hb⟩;have K1:=Lib.hid (K0.out.below hb);clear hb K0 CV a0 a1 a2 a3 a4 a5;obtain ⟨a0,a1,a2,a3,a4,a5⟩:=kc6 K1.out (w.heap.size+1) 78 (.int .i64 la) (.int .i64 (de+1)) (.slice bH 181 dH) (.slice bZ 181 dZ) (.int .i64 eh2) (.int .i64 ez2) (by simp)
 go_wp2_with fail;refine (CW.out _ K1.out.1).mono ?_;rintro e w2 ⟨rfl,hb⟩;have K2:=Lib.hid (K1.out.below hb);clear hb K1 CW a0 a1 a2 a3 a4 a5;obtain ⟨a0,a1⟩:=kc2 K2.out (w.heap.size+1+1) 23 (.int .i64 d0) (.int .i64 d1) (by simp)
 go_wp2_with fail;refine (CD.out _ K2.out.1).mono ?_;rintro e w3 ⟨rfl,hb⟩;have K3:=Lib.hid (K2.out.below hb);clear hb K2 CD a0 a1;obtain ⟨a0,a1⟩:=kc2 K3.out (w.heap.size+1+1+1) 23 (.int .i64 l0) (.int .i64 l1) (by simp)
 go_wp2_with fail;refine (CL.out _ K3.out.1).mono ?_;rintro e w4 ⟨rfl,hb⟩;have K4:=Lib.hid (K3.out.below hb);clear hb K3 CL a0 a1;obtain ⟨a0,a1,-,-,-,-⟩:=kc6 K4.out (w.heap.size) 78 (.int .i64 la) (.int .i64 de) (.slice aH 181 cH) (.slice aZ 181 cZ) (.int .i64 eh) (.int .i64 ez) (by simp)
 obtain ⟨b0,b1,-,-,-,-⟩:=kc6 K4.out (w.heap.size+1) 78 (.int .i64 la) (.int .i64 (de+1)) (.slice bH 181 dH) (.slice bZ 181 dZ) (.int .i64 eh2) (.int .i64 ez2) (by simp)
 obtain ⟨dd0,dd1⟩:=kc2 K4.out (w.heap.size+1+1) 23 (.int .i64 d0) (.int .i64 d1) (by simp)
 obtain ⟨ll0,ll1⟩:=kc2 K4.out (w.heap.size+1+1+1) 23 (.int .i64 l0) (.int .i64 l1) (by simp)
 go_wp2_with fail;refine (CG.out _ K4.out.1).mono ?_;rintro e w5 ⟨rfl,hb⟩;have K5:=Lib.hid (K4.out.below hb);clear hb K4 CG a0 a1 b0 b1 dd0 dd1 ll0 ll1;have K6:=Lib.hid ((K5.out.new w5.heap.size rfl 3 #[.int .i64 (k:Int)]).new (w5.heap.size+1) (by simp) 23 #[.int .i64 u0,.int .i64 u1]);clear K5
 obtain ⟨z0,z1,z2,z3⟩:=kc4 K6.out (w.heap.size+1+1+1+1) 28 (.int .i64 0) (.int .i64 0) (.int .i64 0) (.int .i64 0) (by simp)
 obtain ⟨y0,y1,y2,y3⟩:=kf4 K6.out (w.heap.size+1+1+1+1) 28 (.int .i64 0) (.int .i64 0) (.int .i64 0) (.int .i64 0) (by simp)
 have KE:=Lib.hid (dD K6.out (w.heap.size+1+1+1+1) 28 (.int .i64 0) (.int .i64 0) (.int .i64 0) (.int .i64 0) (by simp) (by omega) (.int .i64 0) (.int .i64 0) (.int .i64 0) (.int .i64 0))
 go_wp2;clear z0 z1 z2 z3 y0 y1 y2 y3 K6;generalize ((((World.setCell _ _ _).setCell _ _).setCell _ _).setCell _ _)=wE at *
 obtain ⟨z0,z1,z2,z3⟩:=kc4 KE.out (w.heap.size+1+1+1+1) 28 (.int .i64 0) (.int .i64 0) (.int .i64 0) (.int .i64 0) (by simp)
 refine bodyPost_ret (by simp [results,Tryz.results39,go_sem,z0,z1,z2,z3];try rfl) rfl ⟨by simp,KE.out.1⟩
theorem SI (la de eh ez eh2 ez2 d0 d1 l0 l1:Int) (aH aZ bH bZ:Option Addr) (cH cZ dH dZ:Nat) (k:Nat) (u0 u1 o0 o1 o2 o3 o4 x0 x1 x2 x3 y0 y1 y2 y3:Int) (r1:¬ d0<de*60000) (r2:¬ (de+1)*60000<d1) (r3:¬ l0<0) (r4:¬ 10800000<l1) (w:World) (hb1:-90<=de/\de<=90) (hv:(-1099511627776<=d0/\d0<=1099511627776)/\-1099511627776<=d1/\d1<=1099511627776) (hb2:-90<=(de+1)/\(de+1)<=90)
 (CV:CtB w 111 #[.agg #[.int .i64 la,.int .i64 de,.slice aH 181 cH,.slice aZ 181 cZ,.int .i64 eh,.int .i64 ez]] (.bool true))
 (CW:CtB w 111 #[.agg #[.int .i64 la,.int .i64 (de+1),.slice bH 181 dH,.slice bZ 181 dZ,.int .i64 eh2,.int .i64 ez2]] (.bool true))
 (CD:CtB w 63 #[.agg #[.int .i64 d0,.int .i64 d1]] (.bool true))
 (CL:CtB w 63 #[.agg #[.int .i64 l0,.int .i64 l1]] (.bool true))
 (CG:CtB w 44 #[.agg #[.int .i64 l0,.int .i64 l1],.int .i64 0,.int .i64 179] (.tuple #[.int .i64 (k:Int),.agg #[.int .i64 u0,.int .i64 u1],.bool true]))
 (F1:Hid (∀ (gk gu:Nat) (wx:World),Below w.heap.size w wx->BK wx gk 3 #[.int .i64 (k:Int)]->BK wx gu 23 #[.int .i64 u0,.int .i64 u1]->Calls Tryz.prog 112 #[.agg #[.int .i64 la,.int .i64 de,.slice aH 181 cH,.slice aZ 181 cZ,.int .i64 eh,.int .i64 ez],.pointer (some ⟨gk,0,none⟩),.pointer (some ⟨gu,0,none⟩)] wx fun e w'=>e=.returned (.agg #[.int .i64 x0,.int .i64 x1,.int .i64 x2,.int .i64 x3])/\Below wx.heap.size wx w'))
 (F2:Hid (∀ (gk gu:Nat) (wx:World),Below w.heap.size w wx->BK wx gk 3 #[.int .i64 (k:Int)]->BK wx gu 23 #[.int .i64 u0,.int .i64 u1]->Calls Tryz.prog 112 #[.agg #[.int .i64 la,.int .i64 (de+1),.slice bH 181 dH,.slice bZ 181 dZ,.int .i64 eh2,.int .i64 ez2],.pointer (some ⟨gk,0,none⟩),.pointer (some ⟨gu,0,none⟩)] wx fun e w'=>e=.returned (.agg #[.int .i64 y0,.int .i64 y1,.int .i64 y2,.int .i64 y3])/\Below wx.heap.size wx w'))
 (CB:Hid (∀ wx:World,Calls Tryz.prog 50 #[.agg #[.int .i64 x0,.int .i64 x1,.int .i64 x2,.int .i64 x3],.agg #[.int .i64 y0,.int .i64 y1,.int .i64 y2,.int .i64 y3],.agg #[.int .i64 (d0-de*60000),.int .i64 (d1-de*60000)]] wx fun e w'=>e=.returned (.tuple #[.agg #[.int .i64 o0,.int .i64 o1,.int .i64 o2,.int .i64 o3],.int .i64 o4])/\Below wx.heap.size wx w')) :
 Calls Tryz.prog 39 #[.agg #[.int .i64 la,.int .i64 de,.slice aH 181 cH,.slice aZ 181 cZ,.int .i64 eh,.int .i64 ez],.agg #[.int .i64 la,.int .i64 (de+1),.slice bH 181 dH,.slice bZ 181 dZ,.int .i64 eh2,.int .i64 ez2],.agg #[.int .i64 d0,.int .i64 d1],.agg #[.int .i64 l0,.int .i64 l1]] w fun e w'=>e=.returned (.tuple #[.agg #[.int .i64 o0,.int .i64 o1,.int .i64 o2,.int .i64 o3],.int .i64 o4])/\Below w.heap.size w w':=by
 have hw1:IntKind.i64.wrap (de+1)=de+1:=Go.IntWalk.i64_in _ (by omega)
 have hw2:IntKind.i64.wrap (de*60000)=de*60000:=Go.IntWalk.i64_in _ (by omega)
 have hw3:IntKind.i64.wrap ((de+1)*60000)=(de+1)*60000:=Go.IntWalk.i64_in _ (by omega)
 have K0:=Lib.hid (((((az w).new w.heap.size rfl 78 #[.int .i64 la,.int .i64 de,.slice aH 181 cH,.slice aZ 181 cZ,.int .i64 eh,.int .i64 ez]).new (w.heap.size+1) (by simp) 78 #[.int .i64 la,.int .i64 (de+1),.slice bH 181 dH,.slice bZ 181 dZ,.int .i64 eh2,.int .i64 ez2]).new (w.heap.size+1+1) (by simp) 23 #[.int .i64 d0,.int .i64 d1]).new (w.heap.size+1+1+1) (by simp) 23 #[.int .i64 l0,.int .i64 l1] |>.new (w.heap.size+1+1+1+1) (by simp) 28 #[.int .i64 0,.int .i64 0,.int .i64 0,.int .i64 0])
 go_enter Tryz.func39,Tryz.ntmps39;obtain ⟨a0,a1,a2,a3,a4,a5⟩:=kc6 K0.out (w.heap.size) 78 (.int .i64 la) (.int .i64 de) (.slice aH 181 cH) (.slice aZ 181 cZ) (.int .i64 eh) (.int .i64 ez) (by simp)
 go_wp2_with fail;refine (CV.out _ K0.out.1).mono ?_;rintro e w1 ⟨rfl,hb⟩;have K1:=Lib.hid (K0.out.below hb);clear hb K0 CV a0 a1 a2 a3 a4 a5;obtain ⟨a0,a1,a2,a3,a4,a5⟩:=kc6 K1.out (w.heap.size+1) 78 (.int .i64 la) (.int .i64 (de+1)) (.slice bH 181 dH) (.slice bZ 181 dZ) (.int .i64 eh2) (.int .i64 ez2) (by simp)
 go_wp2_with fail;refine (CW.out _ K1.out.1).mono ?_;rintro e w2 ⟨rfl,hb⟩;have K2:=Lib.hid (K1.out.below hb);clear hb K1 CW a0 a1 a2 a3 a4 a5;obtain ⟨a0,a1⟩:=kc2 K2.out (w.heap.size+1+1) 23 (.int .i64 d0) (.int .i64 d1) (by simp)
 go_wp2_with fail;refine (CD.out _ K2.out.1).mono ?_;rintro e w3 ⟨rfl,hb⟩;have K3:=Lib.hid (K2.out.below hb);clear hb K2 CD a0 a1;obtain ⟨a0,a1⟩:=kc2 K3.out (w.heap.size+1+1+1) 23 (.int .i64 l0) (.int .i64 l1) (by simp)
 go_wp2_with fail;refine (CL.out _ K3.out.1).mono ?_;rintro e w4 ⟨rfl,hb⟩;have K4:=Lib.hid (K3.out.below hb);clear hb K3 CL a0 a1;obtain ⟨a0,a1,-,-,-,-⟩:=kc6 K4.out (w.heap.size) 78 (.int .i64 la) (.int .i64 de) (.slice aH 181 cH) (.slice aZ 181 cZ) (.int .i64 eh) (.int .i64 ez) (by simp)
 obtain ⟨b0,b1,-,-,-,-⟩:=kc6 K4.out (w.heap.size+1) 78 (.int .i64 la) (.int .i64 (de+1)) (.slice bH 181 dH) (.slice bZ 181 dZ) (.int .i64 eh2) (.int .i64 ez2) (by simp)
 obtain ⟨dd0,dd1⟩:=kc2 K4.out (w.heap.size+1+1) 23 (.int .i64 d0) (.int .i64 d1) (by simp)
 obtain ⟨ll0,ll1⟩:=kc2 K4.out (w.heap.size+1+1+1) 23 (.int .i64 l0) (.int .i64 l1) (by simp)
 go_wp2_with fail;refine (CG.out _ K4.out.1).mono ?_;rintro e w5 ⟨rfl,hb⟩;have K5:=Lib.hid (K4.out.below hb);clear hb K4 CG a0 a1 b0 b1 dd0 dd1 ll0 ll1;have K6:=Lib.hid ((K5.out.new w5.heap.size rfl 3 #[.int .i64 (k:Int)]).new (w5.heap.size+1) (by simp) 23 #[.int .i64 u0,.int .i64 u1]);clear K5
 go_upto_region 11 with (fail)
 generalize hW:((w5.alloc _).alloc _)=wC at *
 clear hW;generalize w5.heap.size=B5 at *
 have FF1:Hid (∀ wx:World,KS w wx [(B5+1,23,#[.int .i64 u0,.int .i64 u1]),(B5,3,#[.int .i64 (k:Int)]),(w.heap.size+1+1+1+1,28,#[.int .i64 0,.int .i64 0,.int .i64 0,.int .i64 0]),(w.heap.size+1+1+1,23,#[.int .i64 l0,.int .i64 l1]),(w.heap.size+1+1,23,#[.int .i64 d0,.int .i64 d1]),(w.heap.size+1,78,#[.int .i64 la,.int .i64 (de+1),.slice bH 181 dH,.slice bZ 181 dZ,.int .i64 eh2,.int .i64 ez2]),(w.heap.size,78,#[.int .i64 la,.int .i64 de,.slice aH 181 cH,.slice aZ 181 cZ,.int .i64 eh,.int .i64 ez])]->Calls Tryz.prog 112 #[.agg #[.int .i64 la,.int .i64 de,.slice aH 181 cH,.slice aZ 181 cZ,.int .i64 eh,.int .i64 ez],.pointer (some ⟨B5,0,none⟩),.pointer (some ⟨B5+1,0,none⟩)] wx fun e w'=>e=.returned (.agg #[.int .i64 x0,.int .i64 x1,.int .i64 x2,.int .i64 x3])/\Below wx.heap.size wx w'):=Lib.hid (fun wx K=>F1.out _ _ wx K.1 (K.2 _ (List.mem_cons_of_mem _ (List.mem_cons_self ..))) (K.2 _ (List.mem_cons_self ..)))
 have FF2:Hid (∀ wx:World,KS w wx [(B5+1,23,#[.int .i64 u0,.int .i64 u1]),(B5,3,#[.int .i64 (k:Int)]),(w.heap.size+1+1+1+1,28,#[.int .i64 0,.int .i64 0,.int .i64 0,.int .i64 0]),(w.heap.size+1+1+1,23,#[.int .i64 l0,.int .i64 l1]),(w.heap.size+1+1,23,#[.int .i64 d0,.int .i64 d1]),(w.heap.size+1,78,#[.int .i64 la,.int .i64 (de+1),.slice bH 181 dH,.slice bZ 181 dZ,.int .i64 eh2,.int .i64 ez2]),(w.heap.size,78,#[.int .i64 la,.int .i64 de,.slice aH 181 cH,.slice aZ 181 cZ,.int .i64 eh,.int .i64 ez])]->Calls Tryz.prog 112 #[.agg #[.int .i64 la,.int .i64 (de+1),.slice bH 181 dH,.slice bZ 181 dZ,.int .i64 eh2,.int .i64 ez2],.pointer (some ⟨B5,0,none⟩),.pointer (some ⟨B5+1,0,none⟩)] wx fun e w'=>e=.returned (.agg #[.int .i64 y0,.int .i64 y1,.int .i64 y2,.int .i64 y3])/\Below wx.heap.size wx w'):=Lib.hid (fun wx K=>F2.out _ _ wx K.1 (K.2 _ (List.mem_cons_of_mem _ (List.mem_cons_self ..))) (K.2 _ (List.mem_cons_self ..)))
 have SB:Hid (∀ wx:World,KS w wx [(w.heap.size+1+1,23,#[.int .i64 d0,.int .i64 d1]),(w.heap.size+1,78,#[.int .i64 la,.int .i64 (de+1),.slice bH 181 dH,.slice bZ 181 dZ,.int .i64 eh2,.int .i64 ez2]),(w.heap.size,78,#[.int .i64 la,.int .i64 de,.slice aH 181 cH,.slice aZ 181 cZ,.int .i64 eh,.int .i64 ez])]->wx.cell? ⟨w.heap.size,0,none⟩=some (.int .i64 la)/\wx.cell? ⟨w.heap.size,1,none⟩=some (.int .i64 de)/\wx.cell? ⟨w.heap.size,2,none⟩=some (.slice aH 181 cH)/\wx.cell? ⟨w.heap.size,3,none⟩=some (.slice aZ 181 cZ)/\wx.cell? ⟨w.heap.size,4,none⟩=some (.int .i64 eh)/\wx.cell? ⟨w.heap.size,5,none⟩=some (.int .i64 ez)/\wx.cell? ⟨w.heap.size+1,0,none⟩=some (.int .i64 la)/\wx.cell? ⟨w.heap.size+1,1,none⟩=some (.int .i64 (de+1))/\wx.cell? ⟨w.heap.size+1,2,none⟩=some (.slice bH 181 dH)/\wx.cell? ⟨w.heap.size+1,3,none⟩=some (.slice bZ 181 dZ)/\wx.cell? ⟨w.heap.size+1,4,none⟩=some (.int .i64 eh2)/\wx.cell? ⟨w.heap.size+1,5,none⟩=some (.int .i64 ez2)/\wx.cell? ⟨w.heap.size+1+1,0,none⟩=some (.int .i64 d0)/\wx.cell? ⟨w.heap.size+1+1,1,none⟩=some (.int .i64 d1)):=Lib.hid (fun wx K=>⟨K.c (g:=w.heap.size) (t:=78) (cs:=#[.int .i64 la,.int .i64 de,.slice aH 181 cH,.slice aZ 181 cZ,.int .i64 eh,.int .i64 ez]) (by simp) (i:=0) rfl,K.c (g:=w.heap.size) (t:=78) (cs:=#[.int .i64 la,.int .i64 de,.slice aH 181 cH,.slice aZ 181 cZ,.int .i64 eh,.int .i64 ez]) (by simp) (i:=1) rfl,K.c (g:=w.heap.size) (t:=78) (cs:=#[.int .i64 la,.int .i64 de,.slice aH 181 cH,.slice aZ 181 cZ,.int .i64 eh,.int .i64 ez]) (by simp) (i:=2) rfl,K.c (g:=w.heap.size) (t:=78) (cs:=#[.int .i64 la,.int .i64 de,.slice aH 181 cH,.slice aZ 181 cZ,.int .i64 eh,.int .i64 ez]) (by simp) (i:=3) rfl,K.c (g:=w.heap.size) (t:=78) (cs:=#[.int .i64 la,.int .i64 de,.slice aH 181 cH,.slice aZ 181 cZ,.int .i64 eh,.int .i64 ez]) (by simp) (i:=4) rfl,K.c (g:=w.heap.size) (t:=78) (cs:=#[.int .i64 la,.int .i64 de,.slice aH 181 cH,.slice aZ 181 cZ,.int .i64 eh,.int .i64 ez]) (by simp) (i:=5) rfl,K.c (g:=w.heap.size+1) (t:=78) (cs:=#[.int .i64 la,.int .i64 (de+1),.slice bH 181 dH,.slice bZ 181 dZ,.int .i64 eh2,.int .i64 ez2]) (by simp) (i:=0) rfl,K.c (g:=w.heap.size+1) (t:=78) (cs:=#[.int .i64 la,.int .i64 (de+1),.slice bH 181 dH,.slice bZ 181 dZ,.int .i64 eh2,.int .i64 ez2]) (by simp) (i:=1) rfl,K.c (g:=w.heap.size+1) (t:=78) (cs:=#[.int .i64 la,.int .i64 (de+1),.slice bH 181 dH,.slice bZ 181 dZ,.int .i64 eh2,.int .i64 ez2]) (by simp) (i:=2) rfl,K.c (g:=w.heap.size+1) (t:=78) (cs:=#[.int .i64 la,.int .i64 (de+1),.slice bH 181 dH,.slice bZ 181 dZ,.int .i64 eh2,.int .i64 ez2]) (by simp) (i:=3) rfl,K.c (g:=w.heap.size+1) (t:=78) (cs:=#[.int .i64 la,.int .i64 (de+1),.slice bH 181 dH,.slice bZ 181 dZ,.int .i64 eh2,.int .i64 ez2]) (by simp) (i:=4) rfl,K.c (g:=w.heap.size+1) (t:=78) (cs:=#[.int .i64 la,.int .i64 (de+1),.slice bH 181 dH,.slice bZ 181 dZ,.int .i64 eh2,.int .i64 ez2]) (by simp) (i:=5) rfl,K.c (g:=w.heap.size+1+1) (t:=23) (cs:=#[.int .i64 d0,.int .i64 d1]) (by simp) (i:=0) rfl,K.c (g:=w.heap.size+1+1) (t:=23) (cs:=#[.int .i64 d0,.int .i64 d1]) (by simp) (i:=1) rfl⟩)
 clear F1 F2;have KX:=Lib.hid K6.out.drew;clear K6;have SS:Hid (∀ wx:World,KS w wx [(B5+1,23,#[.int .i64 u0,.int .i64 u1]),(B5,3,#[.int .i64 (k:Int)]),(w.heap.size+1+1+1+1,28,#[.int .i64 0,.int .i64 0,.int .i64 0,.int .i64 0]),(w.heap.size+1+1+1,23,#[.int .i64 l0,.int .i64 l1]),(w.heap.size+1+1,23,#[.int .i64 d0,.int .i64 d1]),(w.heap.size+1,78,#[.int .i64 la,.int .i64 (de+1),.slice bH 181 dH,.slice bZ 181 dZ,.int .i64 eh2,.int .i64 ez2]),(w.heap.size,78,#[.int .i64 la,.int .i64 de,.slice aH 181 cH,.slice aZ 181 cZ,.int .i64 eh,.int .i64 ez])]->KS w wx [(w.heap.size+1+1,23,#[.int .i64 d0,.int .i64 d1]),(w.heap.size+1,78,#[.int .i64 la,.int .i64 (de+1),.slice bH 181 dH,.slice bZ 181 dZ,.int .i64 eh2,.int .i64 ez2]),(w.heap.size,78,#[.int .i64 la,.int .i64 de,.slice aH 181 cH,.slice aZ 181 cZ,.int .i64 eh,.int .i64 ez])]):=Lib.hid (fun wx K=>K.sub (by intro x hx;simp at hx ⊢;rcases hx with rfl|rfl|rfl<;>simp))
 have SR:Hid (∀ wx:World,KS w wx [(B5+1,23,#[.int .i64 u0,.int .i64 u1]),(B5,3,#[.int .i64 (k:Int)]),(w.heap.size+1+1+1+1,28,#[.int .i64 0,.int .i64 0,.int .i64 0,.int .i64 0]),(w.heap.size+1+1+1,23,#[.int .i64 l0,.int .i64 l1]),(w.heap.size+1+1,23,#[.int .i64 d0,.int .i64 d1]),(w.heap.size+1,78,#[.int .i64 la,.int .i64 (de+1),.slice bH 181 dH,.slice bZ 181 dZ,.int .i64 eh2,.int .i64 ez2]),(w.heap.size,78,#[.int .i64 la,.int .i64 de,.slice aH 181 cH,.slice aZ 181 cZ,.int .i64 eh,.int .i64 ez])]->KS w wx [(w.heap.size+1+1+1+1,28,#[.int .i64 0,.int .i64 0,.int .i64 0,.int .i64 0]),(w.heap.size+1+1,23,#[.int .i64 d0,.int .i64 d1]),(w.heap.size+1,78,#[.int .i64 la,.int .i64 (de+1),.slice bH 181 dH,.slice bZ 181 dZ,.int .i64 eh2,.int .i64 ez2]),(w.heap.size,78,#[.int .i64 la,.int .i64 de,.slice aH 181 cH,.slice aZ 181 cZ,.int .i64 eh,.int .i64 ez])]):=Lib.hid (fun wx K=>K.sub (by intro x hx;simp at hx ⊢;rcases hx with rfl|rfl|rfl|rfl<;>simp))
 have SE:Hid (∀ wx:World,KS w wx [(w.heap.size+1+1+1+1,28,#[.int .i64 0,.int .i64 0,.int .i64 0,.int .i64 0]),(w.heap.size+1+1,23,#[.int .i64 d0,.int .i64 d1]),(w.heap.size+1,78,#[.int .i64 la,.int .i64 (de+1),.slice bH 181 dH,.slice bZ 181 dZ,.int .i64 eh2,.int .i64 ez2]),(w.heap.size,78,#[.int .i64 la,.int .i64 de,.slice aH 181 cH,.slice aZ 181 cZ,.int .i64 eh,.int .i64 ez])]->KS w ((((wx.setCell ⟨w.heap.size+1+1+1+1,0,none⟩ (.int .i64 o0)).setCell ⟨w.heap.size+1+1+1+1,1,none⟩ (.int .i64 o1)).setCell ⟨w.heap.size+1+1+1+1,2,none⟩ (.int .i64 o2)).setCell ⟨w.heap.size+1+1+1+1,3,none⟩ (.int .i64 o3)) [(w.heap.size+1+1+1+1,28,#[.int .i64 o0,.int .i64 o1,.int .i64 o2,.int .i64 o3]),(w.heap.size+1+1,23,#[.int .i64 d0,.int .i64 d1]),(w.heap.size+1,78,#[.int .i64 la,.int .i64 (de+1),.slice bH 181 dH,.slice bZ 181 dZ,.int .i64 eh2,.int .i64 ez2]),(w.heap.size,78,#[.int .i64 la,.int .i64 de,.slice aH 181 cH,.slice aZ 181 cZ,.int .i64 eh,.int .i64 ez])]):=Lib.hid (fun wx K=>((((K).set (by omega) (by intro x hx;simp at hx;rcases hx with rfl|rfl|rfl<;>(simp;try omega)) 0 (.int .i64 o0)).set (by omega) (by intro x hx;simp at hx;rcases hx with rfl|rfl|rfl<;>(simp;try omega)) 1 (.int .i64 o1)).set (by omega) (by intro x hx;simp at hx;rcases hx with rfl|rfl|rfl<;>(simp;try omega)) 2 (.int .i64 o2)).set (by omega) (by intro x hx;simp at hx;rcases hx with rfl|rfl|rfl<;>(simp;try omega)) 3 (.int .i64 o3))
 have S3:Hid (∀ wx:World,KS w wx [(w.heap.size+1+1+1+1,28,#[.int .i64 o0,.int .i64 o1,.int .i64 o2,.int .i64 o3]),(w.heap.size+1+1,23,#[.int .i64 d0,.int .i64 d1]),(w.heap.size+1,78,#[.int .i64 la,.int .i64 (de+1),.slice bH 181 dH,.slice bZ 181 dZ,.int .i64 eh2,.int .i64 ez2]),(w.heap.size,78,#[.int .i64 la,.int .i64 de,.slice aH 181 cH,.slice aZ 181 cZ,.int .i64 eh,.int .i64 ez])]->KS w wx [(w.heap.size+1+1,23,#[.int .i64 d0,.int .i64 d1]),(w.heap.size+1,78,#[.int .i64 la,.int .i64 (de+1),.slice bH 181 dH,.slice bZ 181 dZ,.int .i64 eh2,.int .i64 ez2]),(w.heap.size,78,#[.int .i64 la,.int .i64 de,.slice aH 181 cH,.slice aZ 181 cZ,.int .i64 eh,.int .i64 ez])]):=Lib.hid (fun wx K=>K.sub (by intro x hx;exact List.mem_cons_of_mem _ hx))
 obtain ⟨s0,s1,s2,s3,s4,s5,s6,s7,s8,s9,s10,s11,s12,s13⟩:=SB.out _ (SS.out _ KX.out);have hs0:IntKind.i64.wrap (d0-de*60000)=d0-de*60000:=Go.IntWalk.i64_in _ (by omega)
 have hs1:IntKind.i64.wrap (d1-de*60000)=d1-de*60000:=Go.IntWalk.i64_in _ (by omega)
 go_region_held3 (fun w'=>w'.cell? ⟨w.heap.size,0,none⟩=some (.int .i64 la)/\w'.cell? ⟨w.heap.size,1,none⟩=some (.int .i64 de)/\w'.cell? ⟨w.heap.size,2,none⟩=some (.slice aH 181 cH)/\w'.cell? ⟨w.heap.size,3,none⟩=some (.slice aZ 181 cZ)/\w'.cell? ⟨w.heap.size,4,none⟩=some (.int .i64 eh)/\w'.cell? ⟨w.heap.size,5,none⟩=some (.int .i64 ez)/\w'.cell? ⟨w.heap.size+1,0,none⟩=some (.int .i64 la)/\w'.cell? ⟨w.heap.size+1,1,none⟩=some (.int .i64 (de+1))/\w'.cell? ⟨w.heap.size+1,2,none⟩=some (.slice bH 181 dH)/\w'.cell? ⟨w.heap.size+1,3,none⟩=some (.slice bZ 181 dZ)/\w'.cell? ⟨w.heap.size+1,4,none⟩=some (.int .i64 eh2)/\w'.cell? ⟨w.heap.size+1,5,none⟩=some (.int .i64 ez2)/\w'.cell? ⟨w.heap.size+1+1,0,none⟩=some (.int .i64 d0)/\w'.cell? ⟨w.heap.size+1+1,1,none⟩=some (.int .i64 d1))
  (first|exact ⟨s0,s1,s2,s3,s4,s5,s6,s7,s8,s9,s10,s11,s12,s13⟩|exact ⟨q0,q1,q2,q3,q4,q5,q6,q7,q8,q9,q10,q11,q12,q13⟩)
  (first
   | ((go_at_call 112;with_reducible refine (FF1.out _ KX.out).mono ?_);rintro r w6 ⟨rfl,hb⟩;replace KX:=Lib.hid (KX.out.below hb);clear hb s0 s1 s2 s3 s4 s5 s6 s7 s8 s9 s10 s11 s12 s13;obtain ⟨s0,s1,s2,s3,s4,s5,s6,s7,s8,s9,s10,s11,s12,s13⟩:=SB.out _ (SS.out _ KX.out))
   | ((go_at_call 112;with_reducible refine (FF2.out _ KX.out).mono ?_);rintro r w7 ⟨rfl,hb⟩;replace KX:=Lib.hid (KX.out.below hb);clear hb s0 s1 s2 s3 s4 s5 s6 s7 s8 s9 s10 s11 s12 s13;obtain ⟨s0,s1,s2,s3,s4,s5,s6,s7,s8,s9,s10,s11,s12,s13⟩:=SB.out _ (SS.out _ KX.out))
   | ((go_at_call 50;with_reducible refine (CB.out _).mono ?_);rintro r w8 ⟨rfl,hb⟩;replace KX:=Lib.hid (KX.out.below hb);clear hb s0 s1 s2 s3 s4 s5 s6 s7 s8 s9 s10 s11 s12 s13;obtain ⟨s0,s1,s2,s3,s4,s5,s6,s7,s8,s9,s10,s11,s12,s13⟩:=SB.out _ (SS.out _ KX.out);have KE:=Lib.hid (SE.out _ (SR.out _ KX.out));obtain ⟨q0,q1,q2,q3,q4,q5,q6,q7,q8,q9,q10,q11,q12,q13⟩:=SB.out _ (S3.out _ KE.out);obtain ⟨z0,z1,z2,z3⟩:=kc4 KX.out (w.heap.size+1+1+1+1) 28 (.int .i64 0) (.int .i64 0) (.int .i64 0) (.int .i64 0) (by simp);obtain ⟨y0,y1,y2,y3⟩:=kf4 KX.out (w.heap.size+1+1+1+1) 28 (.int .i64 0) (.int .i64 0) (.int .i64 0) (.int .i64 0) (by simp)))
 go_wp2;clear z0 z1 z2 z3 y0 y1 y2 y3 KX s0 s1 s2 s3 s4 s5 s6 s7 s8 s9 s10 s11 s12 s13 q0 q1 q2 q3 q4 q5 q6 q7 q8 q9 q10 q11 q12 q13;generalize ((((World.setCell _ _ _).setCell _ _).setCell _ _).setCell _ _)=wE at *
 obtain ⟨z0,z1,z2,z3⟩:=kc4 KE.out (w.heap.size+1+1+1+1) 28 (.int .i64 o0) (.int .i64 o1) (.int .i64 o2) (.int .i64 o3) (by simp)
 refine bodyPost_ret (by simp [results,Tryz.results39,go_sem,z0,z1,z2,z3];try rfl) rfl ⟨by simp,KE.out.1⟩
end Go.Proofs.YtdbaccfgkacffaaGreat
namespace Go.Proofs.YtdbaccfgkacffaaGreat
open Go.RowKit Alm Sx
theorem Lx (la de eh ez la2 de2 eh2 ez2 d0 d1 l0 l1:Int) (aH aZ bH bZ:Option Addr) (nH cH nZ cZ mH dH mZ dZ:Nat) (V W D L:Bool) (w:World) (hbad:(V&&W&&D&&L)=false)
 (CV:CtB w 113 #[.agg #[.int .i64 la,.int .i64 de,.slice aH nH cH,.slice aZ nZ cZ,.int .i64 eh,.int .i64 ez]] (.bool V))
 (CW:CtB w 113 #[.agg #[.int .i64 la2,.int .i64 de2,.slice bH mH dH,.slice bZ mZ dZ,.int .i64 eh2,.int .i64 ez2]] (.bool W))
 (CD:CtB w 52 #[.agg #[.int .i64 d0,.int .i64 d1]] (.bool D))
 (CL:CtB w 52 #[.agg #[.int .i64 l0,.int .i64 l1]] (.bool L)) :
 Calls Tryz.prog 40 #[.agg #[.int .i64 la,.int .i64 de,.slice aH nH cH,.slice aZ nZ cZ,.int .i64 eh,.int .i64 ez],.agg #[.int .i64 la2,.int .i64 de2,.slice bH mH dH,.slice bZ mZ dZ,.int .i64 eh2,.int .i64 ez2],.agg #[.int .i64 d0,.int .i64 d1],.agg #[.int .i64 l0,.int .i64 l1]] w fun e w'=>e=.returned (.tuple #[.agg #[.int .i64 0,.int .i64 0,.int .i64 0,.int .i64 0],.int .i64 1])/\Below w.heap.size w w':=by
 have K0:=Lib.hid (((((az w).new w.heap.size rfl 78 #[.int .i64 la,.int .i64 de,.slice aH nH cH,.slice aZ nZ cZ,.int .i64 eh,.int .i64 ez]).new (w.heap.size+1) (by simp) 78 #[.int .i64 la2,.int .i64 de2,.slice bH mH dH,.slice bZ mZ dZ,.int .i64 eh2,.int .i64 ez2]).new (w.heap.size+1+1) (by simp) 23 #[.int .i64 d0,.int .i64 d1]).new (w.heap.size+1+1+1) (by simp) 23 #[.int .i64 l0,.int .i64 l1] |>.new (w.heap.size+1+1+1+1) (by simp) 28 #[.int .i64 0,.int .i64 0,.int .i64 0,.int .i64 0])
 go_enter Tryz.func40,Tryz.ntmps40;obtain ⟨a0,a1,a2,a3,a4,a5⟩:=kc6 K0.out (w.heap.size) 78 (.int .i64 la) (.int .i64 de) (.slice aH nH cH) (.slice aZ nZ cZ) (.int .i64 eh) (.int .i64 ez) (by simp)
 go_wp2_with fail;refine (CV.out _ K0.out.1).mono ?_;rintro e w1 ⟨rfl,hb⟩;have K1:=Lib.hid (K0.out.below hb);clear hb K0 CV a0 a1 a2 a3 a4 a5;cases V
 . obtain ⟨z0,z1,z2,z3⟩:=kc4 K1.out (w.heap.size+1+1+1+1) 28 (.int .i64 0) (.int .i64 0) (.int .i64 0) (.int .i64 0) (by simp)
   obtain ⟨y0,y1,y2,y3⟩:=kf4 K1.out (w.heap.size+1+1+1+1) 28 (.int .i64 0) (.int .i64 0) (.int .i64 0) (.int .i64 0) (by simp)
   have KE:=Lib.hid (dD K1.out (w.heap.size+1+1+1+1) 28 (.int .i64 0) (.int .i64 0) (.int .i64 0) (.int .i64 0) (by simp) (by omega) (.int .i64 0) (.int .i64 0) (.int .i64 0) (.int .i64 0))
   go_wp2;clear z0 z1 z2 z3 y0 y1 y2 y3 K1;generalize ((((World.setCell _ _ _).setCell _ _).setCell _ _).setCell _ _)=wE at *
   obtain ⟨z0,z1,z2,z3⟩:=kc4 KE.out (w.heap.size+1+1+1+1) 28 (.int .i64 0) (.int .i64 0) (.int .i64 0) (.int .i64 0) (by simp)
   refine bodyPost_ret (by simp [results,Tryz.results40,go_sem,z0,z1,z2,z3];try rfl) rfl ⟨by simp,KE.out.1⟩
 . obtain ⟨a0,a1,a2,a3,a4,a5⟩:=kc6 K1.out (w.heap.size+1) 78 (.int .i64 la2) (.int .i64 de2) (.slice bH mH dH) (.slice bZ mZ dZ) (.int .i64 eh2) (.int .i64 ez2) (by simp)
   go_wp2_with fail;refine (CW.out _ K1.out.1).mono ?_;rintro e w2 ⟨rfl,hb⟩;have K2:=Lib.hid (K1.out.below hb);clear hb K1 CW a0 a1 a2 a3 a4 a5;cases W
   . obtain ⟨z0,z1,z2,z3⟩:=kc4 K2.out (w.heap.size+1+1+1+1) 28 (.int .i64 0) (.int .i64 0) (.int .i64 0) (.int .i64 0) (by simp)
     obtain ⟨y0,y1,y2,y3⟩:=kf4 K2.out (w.heap.size+1+1+1+1) 28 (.int .i64 0) (.int .i64 0) (.int .i64 0) (.int .i64 0) (by simp)
     have KE:=Lib.hid (dD K2.out (w.heap.size+1+1+1+1) 28 (.int .i64 0) (.int .i64 0) (.int .i64 0) (.int .i64 0) (by simp) (by omega) (.int .i64 0) (.int .i64 0) (.int .i64 0) (.int .i64 0))
     go_wp2;clear z0 z1 z2 z3 y0 y1 y2 y3 K2;generalize ((((World.setCell _ _ _).setCell _ _).setCell _ _).setCell _ _)=wE at *
     obtain ⟨z0,z1,z2,z3⟩:=kc4 KE.out (w.heap.size+1+1+1+1) 28 (.int .i64 0) (.int .i64 0) (.int .i64 0) (.int .i64 0) (by simp)
     refine bodyPost_ret (by simp [results,Tryz.results40,go_sem,z0,z1,z2,z3];try rfl) rfl ⟨by simp,KE.out.1⟩
   . obtain ⟨a0,a1⟩:=kc2 K2.out (w.heap.size+1+1) 23 (.int .i64 d0) (.int .i64 d1) (by simp)
     go_wp2_with fail;refine (CD.out _ K2.out.1).mono ?_;rintro e w3 ⟨rfl,hb⟩;have K3:=Lib.hid (K2.out.below hb);clear hb K2 CD a0 a1;cases D
     . obtain ⟨z0,z1,z2,z3⟩:=kc4 K3.out (w.heap.size+1+1+1+1) 28 (.int .i64 0) (.int .i64 0) (.int .i64 0) (.int .i64 0) (by simp)
       obtain ⟨y0,y1,y2,y3⟩:=kf4 K3.out (w.heap.size+1+1+1+1) 28 (.int .i64 0) (.int .i64 0) (.int .i64 0) (.int .i64 0) (by simp)
       have KE:=Lib.hid (dD K3.out (w.heap.size+1+1+1+1) 28 (.int .i64 0) (.int .i64 0) (.int .i64 0) (.int .i64 0) (by simp) (by omega) (.int .i64 0) (.int .i64 0) (.int .i64 0) (.int .i64 0))
       go_wp2;clear z0 z1 z2 z3 y0 y1 y2 y3 K3;generalize ((((World.setCell _ _ _).setCell _ _).setCell _ _).setCell _ _)=wE at *
       obtain ⟨z0,z1,z2,z3⟩:=kc4 KE.out (w.heap.size+1+1+1+1) 28 (.int .i64 0) (.int .i64 0) (.int .i64 0) (.int .i64 0) (by simp)
       refine bodyPost_ret (by simp [results,Tryz.results40,go_sem,z0,z1,z2,z3];try rfl) rfl ⟨by simp,KE.out.1⟩
     . obtain ⟨a0,a1⟩:=kc2 K3.out (w.heap.size+1+1+1) 23 (.int .i64 l0) (.int .i64 l1) (by simp)
       go_wp2_with fail;refine (CL.out _ K3.out.1).mono ?_;rintro e w4 ⟨rfl,hb⟩;have K4:=Lib.hid (K3.out.below hb);clear hb K3 CL a0 a1;cases L
       . obtain ⟨z0,z1,z2,z3⟩:=kc4 K4.out (w.heap.size+1+1+1+1) 28 (.int .i64 0) (.int .i64 0) (.int .i64 0) (.int .i64 0) (by simp)
         obtain ⟨y0,y1,y2,y3⟩:=kf4 K4.out (w.heap.size+1+1+1+1) 28 (.int .i64 0) (.int .i64 0) (.int .i64 0) (.int .i64 0) (by simp)
         have KE:=Lib.hid (dD K4.out (w.heap.size+1+1+1+1) 28 (.int .i64 0) (.int .i64 0) (.int .i64 0) (.int .i64 0) (by simp) (by omega) (.int .i64 0) (.int .i64 0) (.int .i64 0) (.int .i64 0))
         go_wp2;clear z0 z1 z2 z3 y0 y1 y2 y3 K4;generalize ((((World.setCell _ _ _).setCell _ _).setCell _ _).setCell _ _)=wE at *
         obtain ⟨z0,z1,z2,z3⟩:=kc4 KE.out (w.heap.size+1+1+1+1) 28 (.int .i64 0) (.int .i64 0) (.int .i64 0) (.int .i64 0) (by simp)
         refine bodyPost_ret (by simp [results,Tryz.results40,go_sem,z0,z1,z2,z3];try rfl) rfl ⟨by simp,KE.out.1⟩
       . cases hbad
theorem Gt (la de eh ez la2 de2 eh2 ez2 d0 d1 l0 l1:Int) (aH aZ bH bZ:Option Addr) (cH cZ dH dZ:Nat) (hk:la≠la2∨de2≠de+1) (w:World) (hb1:-90<=de/\de<=90) (hv:(-1099511627776<=d0/\d0<=1099511627776)/\-1099511627776<=d1/\d1<=1099511627776) (hb2:-90<=de2/\de2<=90)
 (CV:CtB w 113 #[.agg #[.int .i64 la,.int .i64 de,.slice aH 181 cH,.slice aZ 181 cZ,.int .i64 eh,.int .i64 ez]] (.bool true))
 (CW:CtB w 113 #[.agg #[.int .i64 la2,.int .i64 de2,.slice bH 181 dH,.slice bZ 181 dZ,.int .i64 eh2,.int .i64 ez2]] (.bool true))
 (CD:CtB w 52 #[.agg #[.int .i64 d0,.int .i64 d1]] (.bool true))
 (CL:CtB w 52 #[.agg #[.int .i64 l0,.int .i64 l1]] (.bool true)) :
 Calls Tryz.prog 40 #[.agg #[.int .i64 la,.int .i64 de,.slice aH 181 cH,.slice aZ 181 cZ,.int .i64 eh,.int .i64 ez],.agg #[.int .i64 la2,.int .i64 de2,.slice bH 181 dH,.slice bZ 181 dZ,.int .i64 eh2,.int .i64 ez2],.agg #[.int .i64 d0,.int .i64 d1],.agg #[.int .i64 l0,.int .i64 l1]] w fun e w'=>e=.returned (.tuple #[.agg #[.int .i64 0,.int .i64 0,.int .i64 0,.int .i64 0],.int .i64 11])/\Below w.heap.size w w':=by
 have hw1:IntKind.i64.wrap (de+1)=de+1:=Go.IntWalk.i64_in _ (by omega)
 have hw2:IntKind.i64.wrap (de*60000)=de*60000:=Go.IntWalk.i64_in _ (by omega)
 have hs0:IntKind.i64.wrap (d0-de*60000)=d0-de*60000:=Go.IntWalk.i64_in _ (by omega)
 have hs1:IntKind.i64.wrap (d1-de*60000)=d1-de*60000:=Go.IntWalk.i64_in _ (by omega)
 have K0:=Lib.hid (((((az w).new w.heap.size rfl 78 #[.int .i64 la,.int .i64 de,.slice aH 181 cH,.slice aZ 181 cZ,.int .i64 eh,.int .i64 ez]).new (w.heap.size+1) (by simp) 78 #[.int .i64 la2,.int .i64 de2,.slice bH 181 dH,.slice bZ 181 dZ,.int .i64 eh2,.int .i64 ez2]).new (w.heap.size+1+1) (by simp) 23 #[.int .i64 d0,.int .i64 d1]).new (w.heap.size+1+1+1) (by simp) 23 #[.int .i64 l0,.int .i64 l1] |>.new (w.heap.size+1+1+1+1) (by simp) 28 #[.int .i64 0,.int .i64 0,.int .i64 0,.int .i64 0])
 go_enter Tryz.func40,Tryz.ntmps40;obtain ⟨a0,a1,a2,a3,a4,a5⟩:=kc6 K0.out (w.heap.size) 78 (.int .i64 la) (.int .i64 de) (.slice aH 181 cH) (.slice aZ 181 cZ) (.int .i64 eh) (.int .i64 ez) (by simp)
 go_wp2_with fail;refine (CV.out _ K0.out.1).mono ?_;rintro e w1 ⟨rfl,hb⟩;have K1:=Lib.hid (K0.out.below hb);clear hb K0 CV a0 a1 a2 a3 a4 a5;obtain ⟨a0,a1,a2,a3,a4,a5⟩:=kc6 K1.out (w.heap.size+1) 78 (.int .i64 la2) (.int .i64 de2) (.slice bH 181 dH) (.slice bZ 181 dZ) (.int .i64 eh2) (.int .i64 ez2) (by simp)
 go_wp2_with fail;refine (CW.out _ K1.out.1).mono ?_;rintro e w2 ⟨rfl,hb⟩;have K2:=Lib.hid (K1.out.below hb);clear hb K1 CW a0 a1 a2 a3 a4 a5;obtain ⟨a0,a1⟩:=kc2 K2.out (w.heap.size+1+1) 23 (.int .i64 d0) (.int .i64 d1) (by simp)
 go_wp2_with fail;refine (CD.out _ K2.out.1).mono ?_;rintro e w3 ⟨rfl,hb⟩;have K3:=Lib.hid (K2.out.below hb);clear hb K2 CD a0 a1;obtain ⟨a0,a1⟩:=kc2 K3.out (w.heap.size+1+1+1) 23 (.int .i64 l0) (.int .i64 l1) (by simp)
 go_wp2_with fail;refine (CL.out _ K3.out.1).mono ?_;rintro e w4 ⟨rfl,hb⟩;have K4:=Lib.hid (K3.out.below hb);clear hb K3 CL a0 a1;obtain ⟨a0,a1,-,-,-,-⟩:=kc6 K4.out (w.heap.size) 78 (.int .i64 la) (.int .i64 de) (.slice aH 181 cH) (.slice aZ 181 cZ) (.int .i64 eh) (.int .i64 ez) (by simp)
 obtain ⟨b0,b1,-,-,-,-⟩:=kc6 K4.out (w.heap.size+1) 78 (.int .i64 la2) (.int .i64 de2) (.slice bH 181 dH) (.slice bZ 181 dZ) (.int .i64 eh2) (.int .i64 ez2) (by simp)
 obtain ⟨z0,z1,z2,z3⟩:=kc4 K4.out (w.heap.size+1+1+1+1) 28 (.int .i64 0) (.int .i64 0) (.int .i64 0) (.int .i64 0) (by simp)
 obtain ⟨y0,y1,y2,y3⟩:=kf4 K4.out (w.heap.size+1+1+1+1) 28 (.int .i64 0) (.int .i64 0) (.int .i64 0) (.int .i64 0) (by simp)
 by_cases q1:la=la2
 . subst q1;have q2:¬ de2=de+1:=by omega
   have KE:=Lib.hid (dD K4.out (w.heap.size+1+1+1+1) 28 (.int .i64 0) (.int .i64 0) (.int .i64 0) (.int .i64 0) (by simp) (by omega) (.int .i64 0) (.int .i64 0) (.int .i64 0) (.int .i64 0))
   go_wp2;clear z0 z1 z2 z3 y0 y1 y2 y3 K4 a0 a1 b0 b1;generalize ((((World.setCell _ _ _).setCell _ _).setCell _ _).setCell _ _)=wE at *
   obtain ⟨z0,z1,z2,z3⟩:=kc4 KE.out (w.heap.size+1+1+1+1) 28 (.int .i64 0) (.int .i64 0) (.int .i64 0) (.int .i64 0) (by simp)
   refine bodyPost_ret (by simp [results,Tryz.results40,go_sem,z0,z1,z2,z3];try rfl) rfl ⟨by simp,KE.out.1⟩
 . have KE:=Lib.hid (dD K4.out (w.heap.size+1+1+1+1) 28 (.int .i64 0) (.int .i64 0) (.int .i64 0) (.int .i64 0) (by simp) (by omega) (.int .i64 0) (.int .i64 0) (.int .i64 0) (.int .i64 0))
   go_wp2;clear z0 z1 z2 z3 y0 y1 y2 y3 K4 a0 a1 b0 b1;generalize ((((World.setCell _ _ _).setCell _ _).setCell _ _).setCell _ _)=wE at *
   obtain ⟨z0,z1,z2,z3⟩:=kc4 KE.out (w.heap.size+1+1+1+1) 28 (.int .i64 0) (.int .i64 0) (.int .i64 0) (.int .i64 0) (by simp)
   refine bodyPost_ret (by simp [results,Tryz.results40,go_sem,z0,z1,z2,z3];try rfl) rfl ⟨by simp,KE.out.1⟩
theorem D7 (la de eh ez eh2 ez2 d0 d1 l0 l1:Int) (aH aZ bH bZ:Option Addr) (cH cZ dH dZ:Nat) (hr:Hid (¬ (de*60000<=d0/\d1<=(de+1)*60000/\0<=l0/\l1<=10800000))) (w:World) (hb1:-90<=de/\de<=90) (hv:(-1099511627776<=d0/\d0<=1099511627776)/\-1099511627776<=d1/\d1<=1099511627776) (hb2:-90<=(de+1)/\(de+1)<=90)
 (CV:CtB w 113 #[.agg #[.int .i64 la,.int .i64 de,.slice aH 181 cH,.slice aZ 181 cZ,.int .i64 eh,.int .i64 ez]] (.bool true))
 (CW:CtB w 113 #[.agg #[.int .i64 la,.int .i64 (de+1),.slice bH 181 dH,.slice bZ 181 dZ,.int .i64 eh2,.int .i64 ez2]] (.bool true))
 (CD:CtB w 52 #[.agg #[.int .i64 d0,.int .i64 d1]] (.bool true))
 (CL:CtB w 52 #[.agg #[.int .i64 l0,.int .i64 l1]] (.bool true)) :
 Calls Tryz.prog 40 #[.agg #[.int .i64 la,.int .i64 de,.slice aH 181 cH,.slice aZ 181 cZ,.int .i64 eh,.int .i64 ez],.agg #[.int .i64 la,.int .i64 (de+1),.slice bH 181 dH,.slice bZ 181 dZ,.int .i64 eh2,.int .i64 ez2],.agg #[.int .i64 d0,.int .i64 d1],.agg #[.int .i64 l0,.int .i64 l1]] w fun e w'=>e=.returned (.tuple #[.agg #[.int .i64 0,.int .i64 0,.int .i64 0,.int .i64 0],.int .i64 2])/\Below w.heap.size w w':=by
 have hw1:IntKind.i64.wrap (de+1)=de+1:=Go.IntWalk.i64_in _ (by omega)
 have hw2:IntKind.i64.wrap (de*60000)=de*60000:=Go.IntWalk.i64_in _ (by omega)
 have hs0:IntKind.i64.wrap (d0-de*60000)=d0-de*60000:=Go.IntWalk.i64_in _ (by omega)
 have hs1:IntKind.i64.wrap (d1-de*60000)=d1-de*60000:=Go.IntWalk.i64_in _ (by omega)
 have K0:=Lib.hid (((((az w).new w.heap.size rfl 78 #[.int .i64 la,.int .i64 de,.slice aH 181 cH,.slice aZ 181 cZ,.int .i64 eh,.int .i64 ez]).new (w.heap.size+1) (by simp) 78 #[.int .i64 la,.int .i64 (de+1),.slice bH 181 dH,.slice bZ 181 dZ,.int .i64 eh2,.int .i64 ez2]).new (w.heap.size+1+1) (by simp) 23 #[.int .i64 d0,.int .i64 d1]).new (w.heap.size+1+1+1) (by simp) 23 #[.int .i64 l0,.int .i64 l1] |>.new (w.heap.size+1+1+1+1) (by simp) 28 #[.int .i64 0,.int .i64 0,.int .i64 0,.int .i64 0])
 go_enter Tryz.func40,Tryz.ntmps40;obtain ⟨a0,a1,a2,a3,a4,a5⟩:=kc6 K0.out (w.heap.size) 78 (.int .i64 la) (.int .i64 de) (.slice aH 181 cH) (.slice aZ 181 cZ) (.int .i64 eh) (.int .i64 ez) (by simp)
 go_wp2_with fail;refine (CV.out _ K0.out.1).mono ?_;rintro e w1 ⟨rfl,hb⟩;have K1:=Lib.hid (K0.out.below hb);clear hb K0 CV a0 a1 a2 a3 a4 a5;obtain ⟨a0,a1,a2,a3,a4,a5⟩:=kc6 K1.out (w.heap.size+1) 78 (.int .i64 la) (.int .i64 (de+1)) (.slice bH 181 dH) (.slice bZ 181 dZ) (.int .i64 eh2) (.int .i64 ez2) (by simp)
 go_wp2_with fail;refine (CW.out _ K1.out.1).mono ?_;rintro e w2 ⟨rfl,hb⟩;have K2:=Lib.hid (K1.out.below hb);clear hb K1 CW a0 a1 a2 a3 a4 a5;obtain ⟨a0,a1⟩:=kc2 K2.out (w.heap.size+1+1) 23 (.int .i64 d0) (.int .i64 d1) (by simp)
 go_wp2_with fail;refine (CD.out _ K2.out.1).mono ?_;rintro e w3 ⟨rfl,hb⟩;have K3:=Lib.hid (K2.out.below hb);clear hb K2 CD a0 a1;obtain ⟨a0,a1⟩:=kc2 K3.out (w.heap.size+1+1+1) 23 (.int .i64 l0) (.int .i64 l1) (by simp)
 go_wp2_with fail;refine (CL.out _ K3.out.1).mono ?_;rintro e w4 ⟨rfl,hb⟩;have K4:=Lib.hid (K3.out.below hb);clear hb K3 CL a0 a1;obtain ⟨a0,a1,-,-,-,-⟩:=kc6 K4.out (w.heap.size) 78 (.int .i64 la) (.int .i64 de) (.slice aH 181 cH) (.slice aZ 181 cZ) (.int .i64 eh) (.int .i64 ez) (by simp)
 obtain ⟨b0,b1,-,-,-,-⟩:=kc6 K4.out (w.heap.size+1) 78 (.int .i64 la) (.int .i64 (de+1)) (.slice bH 181 dH) (.slice bZ 181 dZ) (.int .i64 eh2) (.int .i64 ez2) (by simp)
 obtain ⟨dd0,dd1⟩:=kc2 K4.out (w.heap.size+1+1) 23 (.int .i64 d0) (.int .i64 d1) (by simp)
 have K5:=Lib.hid (K4.out.new w4.heap.size rfl 23 #[.int .i64 (d0-de*60000),.int .i64 (d1-de*60000)]);go_upto_region 6 with (fail)
 clear K4 a0 a1 b0 b1 dd0 dd1;generalize hV:w4.alloc _=w5 at *
 clear hV;generalize w4.heap.size=B4 at *
 obtain ⟨v0,v1⟩:=kc2 K5.out (B4) 23 (.int .i64 (d0-de*60000)) (.int .i64 (d1-de*60000)) (by simp)
 obtain ⟨ll0,ll1⟩:=kc2 K5.out (w.heap.size+1+1+1) 23 (.int .i64 l0) (.int .i64 l1) (by simp)
 obtain ⟨z0,z1,z2,z3⟩:=kc4 K5.out (w.heap.size+1+1+1+1) 28 (.int .i64 0) (.int .i64 0) (.int .i64 0) (.int .i64 0) (by simp)
 obtain ⟨y0,y1,y2,y3⟩:=kf4 K5.out (w.heap.size+1+1+1+1) 28 (.int .i64 0) (.int .i64 0) (.int .i64 0) (.int .i64 0) (by simp)
 by_cases c1:d0-de*60000<0
 . have KE:=Lib.hid (dD K5.out (w.heap.size+1+1+1+1) 28 (.int .i64 0) (.int .i64 0) (.int .i64 0) (.int .i64 0) (by simp) (by omega) (.int .i64 0) (.int .i64 0) (.int .i64 0) (.int .i64 0))
   go_wp2;clear z0 z1 z2 z3 y0 y1 y2 y3 K5 v0 v1 ll0 ll1;generalize ((((World.setCell _ _ _).setCell _ _).setCell _ _).setCell _ _)=wE at *
   obtain ⟨z0,z1,z2,z3⟩:=kc4 KE.out (w.heap.size+1+1+1+1) 28 (.int .i64 0) (.int .i64 0) (.int .i64 0) (.int .i64 0) (by simp)
   refine bodyPost_ret (by simp [results,Tryz.results40,go_sem,z0,z1,z2,z3];try rfl) rfl ⟨by simp,KE.out.1⟩
 . by_cases c2:60000<d1-de*60000
   . have KE:=Lib.hid (dD K5.out (w.heap.size+1+1+1+1) 28 (.int .i64 0) (.int .i64 0) (.int .i64 0) (.int .i64 0) (by simp) (by omega) (.int .i64 0) (.int .i64 0) (.int .i64 0) (.int .i64 0))
     go_wp2;clear z0 z1 z2 z3 y0 y1 y2 y3 K5 v0 v1 ll0 ll1;generalize ((((World.setCell _ _ _).setCell _ _).setCell _ _).setCell _ _)=wE at *
     obtain ⟨z0,z1,z2,z3⟩:=kc4 KE.out (w.heap.size+1+1+1+1) 28 (.int .i64 0) (.int .i64 0) (.int .i64 0) (.int .i64 0) (by simp)
     refine bodyPost_ret (by simp [results,Tryz.results40,go_sem,z0,z1,z2,z3];try rfl) rfl ⟨by simp,KE.out.1⟩
   . by_cases c3:l0<0
     . have KE:=Lib.hid (dD K5.out (w.heap.size+1+1+1+1) 28 (.int .i64 0) (.int .i64 0) (.int .i64 0) (.int .i64 0) (by simp) (by omega) (.int .i64 0) (.int .i64 0) (.int .i64 0) (.int .i64 0))
       go_wp2;clear z0 z1 z2 z3 y0 y1 y2 y3 K5 v0 v1 ll0 ll1;generalize ((((World.setCell _ _ _).setCell _ _).setCell _ _).setCell _ _)=wE at *
       obtain ⟨z0,z1,z2,z3⟩:=kc4 KE.out (w.heap.size+1+1+1+1) 28 (.int .i64 0) (.int .i64 0) (.int .i64 0) (.int .i64 0) (by simp)
       refine bodyPost_ret (by simp [results,Tryz.results40,go_sem,z0,z1,z2,z3];try rfl) rfl ⟨by simp,KE.out.1⟩
     . by_cases c4:10800000<l1
       . have KE:=Lib.hid (dD K5.out (w.heap.size+1+1+1+1) 28 (.int .i64 0) (.int .i64 0) (.int .i64 0) (.int .i64 0) (by simp) (by omega) (.int .i64 0) (.int .i64 0) (.int .i64 0) (.int .i64 0))
         go_wp2;clear z0 z1 z2 z3 y0 y1 y2 y3 K5 v0 v1 ll0 ll1;generalize ((((World.setCell _ _ _).setCell _ _).setCell _ _).setCell _ _)=wE at *
         obtain ⟨z0,z1,z2,z3⟩:=kc4 KE.out (w.heap.size+1+1+1+1) 28 (.int .i64 0) (.int .i64 0) (.int .i64 0) (.int .i64 0) (by simp)
         refine bodyPost_ret (by simp [results,Tryz.results40,go_sem,z0,z1,z2,z3];try rfl) rfl ⟨by simp,KE.out.1⟩
       . exfalso;exact hr.out (by omega)
theorem Gx (la de eh ez eh2 ez2 d0 d1 l0 l1:Int) (aH aZ bH bZ:Option Addr) (cH cZ dH dZ:Nat) (k:Nat) (u0 u1:Int) (r1:¬ d0-de*60000<0) (r2:¬ 60000<d1-de*60000) (r3:¬ l0<0) (r4:¬ 10800000<l1) (w:World) (hb1:-90<=de/\de<=90) (hv:(-1099511627776<=d0/\d0<=1099511627776)/\-1099511627776<=d1/\d1<=1099511627776) (hb2:-90<=(de+1)/\(de+1)<=90)
 (CV:CtB w 113 #[.agg #[.int .i64 la,.int .i64 de,.slice aH 181 cH,.slice aZ 181 cZ,.int .i64 eh,.int .i64 ez]] (.bool true))
 (CW:CtB w 113 #[.agg #[.int .i64 la,.int .i64 (de+1),.slice bH 181 dH,.slice bZ 181 dZ,.int .i64 eh2,.int .i64 ez2]] (.bool true))
 (CD:CtB w 52 #[.agg #[.int .i64 d0,.int .i64 d1]] (.bool true))
 (CL:CtB w 52 #[.agg #[.int .i64 l0,.int .i64 l1]] (.bool true))
 (CG:CtB w 54 #[.agg #[.int .i64 l0,.int .i64 l1],.int .i64 0,.int .i64 180] (.tuple #[.int .i64 (k:Int),.agg #[.int .i64 u0,.int .i64 u1],.bool false])) :
 Calls Tryz.prog 40 #[.agg #[.int .i64 la,.int .i64 de,.slice aH 181 cH,.slice aZ 181 cZ,.int .i64 eh,.int .i64 ez],.agg #[.int .i64 la,.int .i64 (de+1),.slice bH 181 dH,.slice bZ 181 dZ,.int .i64 eh2,.int .i64 ez2],.agg #[.int .i64 d0,.int .i64 d1],.agg #[.int .i64 l0,.int .i64 l1]] w fun e w'=>e=.returned (.tuple #[.agg #[.int .i64 0,.int .i64 0,.int .i64 0,.int .i64 0],.int .i64 24])/\Below w.heap.size w w':=by
 have hw1:IntKind.i64.wrap (de+1)=de+1:=Go.IntWalk.i64_in _ (by omega)
 have hw2:IntKind.i64.wrap (de*60000)=de*60000:=Go.IntWalk.i64_in _ (by omega)
 have hs0:IntKind.i64.wrap (d0-de*60000)=d0-de*60000:=Go.IntWalk.i64_in _ (by omega)
 have hs1:IntKind.i64.wrap (d1-de*60000)=d1-de*60000:=Go.IntWalk.i64_in _ (by omega)
 have K0:=Lib.hid (((((az w).new w.heap.size rfl 78 #[.int .i64 la,.int .i64 de,.slice aH 181 cH,.slice aZ 181 cZ,.int .i64 eh,.int .i64 ez]).new (w.heap.size+1) (by simp) 78 #[.int .i64 la,.int .i64 (de+1),.slice bH 181 dH,.slice bZ 181 dZ,.int .i64 eh2,.int .i64 ez2]).new (w.heap.size+1+1) (by simp) 23 #[.int .i64 d0,.int .i64 d1]).new (w.heap.size+1+1+1) (by simp) 23 #[.int .i64 l0,.int .i64 l1] |>.new (w.heap.size+1+1+1+1) (by simp) 28 #[.int .i64 0,.int .i64 0,.int .i64 0,.int .i64 0])
 go_enter Tryz.func40,Tryz.ntmps40;obtain ⟨a0,a1,a2,a3,a4,a5⟩:=kc6 K0.out (w.heap.size) 78 (.int .i64 la) (.int .i64 de) (.slice aH 181 cH) (.slice aZ 181 cZ) (.int .i64 eh) (.int .i64 ez) (by simp)
 go_wp2_with fail;refine (CV.out _ K0.out.1).mono ?_;rintro e w1 ⟨rfl,hb⟩;have K1:=Lib.hid (K0.out.below hb);clear hb K0 CV a0 a1 a2 a3 a4 a5;obtain ⟨a0,a1,a2,a3,a4,a5⟩:=kc6 K1.out (w.heap.size+1) 78 (.int .i64 la) (.int .i64 (de+1)) (.slice bH 181 dH) (.slice bZ 181 dZ) (.int .i64 eh2) (.int .i64 ez2) (by simp)
 go_wp2_with fail;refine (CW.out _ K1.out.1).mono ?_;rintro e w2 ⟨rfl,hb⟩;have K2:=Lib.hid (K1.out.below hb);clear hb K1 CW a0 a1 a2 a3 a4 a5;obtain ⟨a0,a1⟩:=kc2 K2.out (w.heap.size+1+1) 23 (.int .i64 d0) (.int .i64 d1) (by simp)
 go_wp2_with fail;refine (CD.out _ K2.out.1).mono ?_;rintro e w3 ⟨rfl,hb⟩;have K3:=Lib.hid (K2.out.below hb);clear hb K2 CD a0 a1;obtain ⟨a0,a1⟩:=kc2 K3.out (w.heap.size+1+1+1) 23 (.int .i64 l0) (.int .i64 l1) (by simp)
 go_wp2_with fail;refine (CL.out _ K3.out.1).mono ?_;rintro e w4 ⟨rfl,hb⟩;have K4:=Lib.hid (K3.out.below hb);clear hb K3 CL a0 a1;obtain ⟨a0,a1,-,-,-,-⟩:=kc6 K4.out (w.heap.size) 78 (.int .i64 la) (.int .i64 de) (.slice aH 181 cH) (.slice aZ 181 cZ) (.int .i64 eh) (.int .i64 ez) (by simp)
 obtain ⟨b0,b1,-,-,-,-⟩:=kc6 K4.out (w.heap.size+1) 78 (.int .i64 la) (.int .i64 (de+1)) (.slice bH 181 dH) (.slice bZ 181 dZ) (.int .i64 eh2) (.int .i64 ez2) (by simp)
 obtain ⟨dd0,dd1⟩:=kc2 K4.out (w.heap.size+1+1) 23 (.int .i64 d0) (.int .i64 d1) (by simp)
 have K5:=Lib.hid (K4.out.new w4.heap.size rfl 23 #[.int .i64 (d0-de*60000),.int .i64 (d1-de*60000)]);go_upto_region 6 with (fail)
 clear K4 a0 a1 b0 b1 dd0 dd1;generalize hV:w4.alloc _=w5 at *
 clear hV;generalize w4.heap.size=B4 at *
 obtain ⟨v0,v1⟩:=kc2 K5.out (B4) 23 (.int .i64 (d0-de*60000)) (.int .i64 (d1-de*60000)) (by simp)
 obtain ⟨ll0,ll1⟩:=kc2 K5.out (w.heap.size+1+1+1) 23 (.int .i64 l0) (.int .i64 l1) (by simp)
 go_wp2_with fail;refine (CG.out _ K5.out.1).mono ?_;rintro e w6 ⟨rfl,hb⟩;have K6:=Lib.hid (K5.out.below hb);clear hb K5 CG v0 v1 ll0 ll1;have K7:=Lib.hid (K6.out.new w6.heap.size rfl 23 #[.int .i64 u0,.int .i64 u1]);clear K6;obtain ⟨z0,z1,z2,z3⟩:=kc4 K7.out (w.heap.size+1+1+1+1) 28 (.int .i64 0) (.int .i64 0) (.int .i64 0) (.int .i64 0) (by simp)
 obtain ⟨y0,y1,y2,y3⟩:=kf4 K7.out (w.heap.size+1+1+1+1) 28 (.int .i64 0) (.int .i64 0) (.int .i64 0) (.int .i64 0) (by simp)
 have KE:=Lib.hid (dD K7.out (w.heap.size+1+1+1+1) 28 (.int .i64 0) (.int .i64 0) (.int .i64 0) (.int .i64 0) (by simp) (by omega) (.int .i64 0) (.int .i64 0) (.int .i64 0) (.int .i64 0))
 go_wp2;clear z0 z1 z2 z3 y0 y1 y2 y3 K7;generalize ((((World.setCell _ _ _).setCell _ _).setCell _ _).setCell _ _)=wE at *
 obtain ⟨z0,z1,z2,z3⟩:=kc4 KE.out (w.heap.size+1+1+1+1) 28 (.int .i64 0) (.int .i64 0) (.int .i64 0) (.int .i64 0) (by simp)
 refine bodyPost_ret (by simp [results,Tryz.results40,go_sem,z0,z1,z2,z3];try rfl) rfl ⟨by simp,KE.out.1⟩
