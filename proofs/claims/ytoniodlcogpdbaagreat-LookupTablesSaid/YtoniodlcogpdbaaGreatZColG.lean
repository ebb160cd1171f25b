/- Walks of LookupColumns over contracts: the program's solution from two columns. -/
import Derived.Test.YtoniodlcogpdbaaGreatZColW
import Derived.Test.YtoniodlcogpdbaaGreatZCol1
import Derived.Test.YtoniodlcogpdbaaGreatZColR
import Derived.Test.YtoniodlcogpdbaaGreatZColS
import Derived.Test.YtoniodlcogpdbaaGreatZLkQ
import Derived.Test.YtoniodlcogpdbaaGreatZLkP
set_option linter.unusedVariables false
set_option linter.unusedSimpArgs false
set_option maxRecDepth 100000
set_option maxHeartbeats 4000000
namespace Go.Proofs.YtoniodlcogpdbaaGreat
open Go.RowKit Alm Sx
theorem Qa (la de eh ez la2 de2 eh2 ez2 d0 d1 l0 l1:Int) (aH aZ bH bZ:Option Addr) (nH cH nZ cZ mH dH mZ dZ:Nat) (V W D L:Bool) (w:World) (hbad:(V&&W&&D&&L)=false)
 (CV:CtB w 13 #[.agg #[.int .i64 la,.int .i64 de,.slice aH nH cH,.slice aZ nZ cZ,.int .i64 eh,.int .i64 ez]] (.bool V))
 (CW:CtB w 13 #[.agg #[.int .i64 la2,.int .i64 de2,.slice bH mH dH,.slice bZ mZ dZ,.int .i64 eh2,.int .i64 ez2]] (.bool W))
 (CD:CtB w 14 #[.agg #[.int .i64 d0,.int .i64 d1]] (.bool D))
 (CL:CtB w 14 #[.agg #[.int .i64 l0,.int .i64 l1]] (.bool L)) :
 Calls Tryz.prog 6 #[.agg #[.int .i64 la,.int .i64 de,.slice aH nH cH,.slice aZ nZ cZ,.int .i64 eh,.int .i64 ez],.agg #[.int .i64 la2,.int .i64 de2,.slice bH mH dH,.slice bZ mZ dZ,.int .i64 eh2,.int .i64 ez2],.agg #[.int .i64 d0,.int .i64 d1],.agg #[.int .i64 l0,.int .i64 l1]] w fun e w'=>e=.returned (.tuple #[.agg #[.int .i64 0,.int .i64 0,.int .i64 0,.int .i64 0],.int .i64 1])/\Below w.heap.size w w':=by
 have K0:=Lib.hid (((((az w).new w.heap.size rfl 24 #[.int .i64 la,.int .i64 de,.slice aH nH cH,.slice aZ nZ cZ,.int .i64 eh,.int .i64 ez]).new (w.heap.size+1) (by simp) 24 #[.int .i64 la2,.int .i64 de2,.slice bH mH dH,.slice bZ mZ dZ,.int .i64 eh2,.int .i64 ez2]).new (w.heap.size+1+1) (by simp) 26 #[.int .i64 d0,.int .i64 d1]).new (w.heap.size+1+1+1) (by simp) 26 #[.int .i64 l0,.int .i64 l1] |>.new (w.heap.size+1+1+1+1) (by simp) 30 #[.int .i64 0,.int .i64 0,.int .i64 0,.int .i64 0])
 go_enter Tryz.func6,Tryz.ntmps6;obtain ⟨a0,a1,a2,a3,a4,a5⟩:=kc6 K0.out (w.heap.size) 24 (.int .i64 la) (.int .i64 de) (.slice aH nH cH) (.slice aZ nZ cZ) (.int .i64 eh) (.int .i64 ez) (by simp)
 go_wp2_with fail;refine (CV.out _ K0.out.1).mono ?_;rintro e w1 ⟨rfl,hb⟩;have K1:=Lib.hid (K0.out.below hb);clear hb K0 CV a0 a1 a2 a3 a4 a5;cases V
 . obtain ⟨z0,z1,z2,z3⟩:=kc4 K1.out (w.heap.size+1+1+1+1) 30 (.int .i64 0) (.int .i64 0) (.int .i64 0) (.int .i64 0) (by simp)
   obtain ⟨y0,y1,y2,y3⟩:=kf4 K1.out (w.heap.size+1+1+1+1) 30 (.int .i64 0) (.int .i64 0) (.int .i64 0) (.int .i64 0) (by simp)
   have KE:=Lib.hid (jq K1.out (w.heap.size+1+1+1+1) 30 (.int .i64 0) (.int .i64 0) (.int .i64 0) (.int .i64 0) (by simp) (by omega) (.int .i64 0) (.int .i64 0) (.int .i64 0) (.int .i64 0))
   go_wp2;clear z0 z1 z2 z3 y0 y1 y2 y3 K1;generalize ((((World.setCell _ _ _).setCell _ _).setCell _ _).setCell _ _)=wE at *
   obtain ⟨z0,z1,z2,z3⟩:=kc4 KE.out (w.heap.size+1+1+1+1) 30 (.int .i64 0) (.int .i64 0) (.int .i64 0) (.int .i64 0) (by simp)
   refine bodyPost_ret (by simp [results,Tryz.results6,go_sem,z0,z1,z2,z3];try rfl) rfl ⟨by simp,KE.out.1⟩
 . obtain ⟨a0,a1,a2,a3,a4,a5⟩:=kc6 K1.out (w.heap.size+1) 24 (.int .i64 la2) (.int .i64 de2) (.slice bH mH dH) (.slice bZ mZ dZ) (.int .i64 eh2) (.int .i64 ez2) (by simp)
   go_wp2_with fail;refine (CW.out _ K1.out.1).mono ?_;rintro e w2 ⟨rfl,hb⟩;have K2:=Lib.hid (K1.out.below hb);clear hb K1 CW a0 a1 a2 a3 a4 a5;cases W
   . obtain ⟨z0,z1,z2,z3⟩:=kc4 K2.out (w.heap.size+1+1+1+1) 30 (.int .i64 0) (.int .i64 0) (.int .i64 0) (.int .i64 0) (by simp)
     obtain ⟨y0,y1,y2,y3⟩:=kf4 K2.out (w.heap.size+1+1+1+1) 30 (.int .i64 0) (.int .i64 0) (.int .i64 0) (.int .i64 0) (by simp)
     have KE:=Lib.hid (jq K2.out (w.heap.size+1+1+1+1) 30 (.int .i64 0) (.int .i64 0) (.int .i64 0) (.int .i64 0) (by simp) (by omega) (.int .i64 0) (.int .i64 0) (.int .i64 0) (.int .i64 0))
     go_wp2;clear z0 z1 z2 z3 y0 y1 y2 y3 K2;generalize ((((World.setCell _ _ _).setCell _ _).setCell _ _).setCell _ _)=wE at *
     obtain ⟨z0,z1,z2,z3⟩:=kc4 KE.out (w.heap.size+1+1+1+1) 30 (.int .i64 0) (.int .i64 0) (.int .i64 0) (.int .i64 0) (by simp)
     refine bodyPost_ret (by simp [results,Tryz.results6,go_sem,z0,z1,z2,z3];try rfl) rfl ⟨by simp,KE.out.1⟩
   . obtain ⟨a0,a1⟩:=kc2 K2.out (w.heap.size+1+1) 26 (.int .i64 d0) (.int .i64 d1) (by simp)
     go_wp2_with fail;refine (CD.out _ K2.out.1).mono ?_;rintro e w3 ⟨rfl,hb⟩;have K3:=Lib.hid (K2.out.below hb);clear hb K2 CD a0 a1;cases D
     . obtain ⟨z0,z1,z2,z3⟩:=kc4 K3.out (w.heap.size+1+1+1+1) 30 (.int .i64 0) (.int .i64 0) (.int .i64 0) (.int .i64 0) (by simp)
       obtain ⟨y0,y1,y2,y3⟩:=kf4 K3.out (w.heap.size+1+1+1+1) 30 (.int .i64 0) (.int .i64 0) (.int .i64 0) (.int .i64 0) (by simp)
       have KE:=Lib.hid (jq K3.out (w.heap.size+1+1+1+1) 30 (.int .i64 0) (.int .i64 0) (.int .i64 0) (.int .i64 0) (by simp) (by omega) (.int .i64 0) (.int .i64 0) (.int .i64 0) (.int .i64 0))
       go_wp2;clear z0 z1 z2 z3 y0 y1 y2 y3 K3;generalize ((((World.setCell _ _ _).setCell _ _).setCell _ _).setCell _ _)=wE at *
       obtain ⟨z0,z1,z2,z3⟩:=kc4 KE.out (w.heap.size+1+1+1+1) 30 (.int .i64 0) (.int .i64 0) (.int .i64 0) (.int .i64 0) (by simp)
       refine bodyPost_ret (by simp [results,Tryz.results6,go_sem,z0,z1,z2,z3];try rfl) rfl ⟨by simp,KE.out.1⟩
     . obtain ⟨a0,a1⟩:=kc2 K3.out (w.heap.size+1+1+1) 26 (.int .i64 l0) (.int .i64 l1) (by simp)
       go_wp2_with fail;refine (CL.out _ K3.out.1).mono ?_;rintro e w4 ⟨rfl,hb⟩;have K4:=Lib.hid (K3.out.below hb);clear hb K3 CL a0 a1;cases L
       . obtain ⟨z0,z1,z2,z3⟩:=kc4 K4.out (w.heap.size+1+1+1+1) 30 (.int .i64 0) (.int .i64 0) (.int .i64 0) (.int .i64 0) (by simp)
         obtain ⟨y0,y1,y2,y3⟩:=kf4 K4.out (w.heap.size+1+1+1+1) 30 (.int .i64 0) (.int .i64 0) (.int .i64 0) (.int .i64 0) (by simp)
         have KE:=Lib.hid (jq K4.out (w.heap.size+1+1+1+1) 30 (.int .i64 0) (.int .i64 0) (.int .i64 0) (.int .i64 0) (by simp) (by omega) (.int .i64 0) (.int .i64 0) (.int .i64 0) (.int .i64 0))
         go_wp2;clear z0 z1 z2 z3 y0 y1 y2 y3 K4;generalize ((((World.setCell _ _ _).setCell _ _).setCell _ _).setCell _ _)=wE at *
         obtain ⟨z0,z1,z2,z3⟩:=kc4 KE.out (w.heap.size+1+1+1+1) 30 (.int .i64 0) (.int .i64 0) (.int .i64 0) (.int .i64 0) (by simp)
         refine bodyPost_ret (by simp [results,Tryz.results6,go_sem,z0,z1,z2,z3];try rfl) rfl ⟨by simp,KE.out.1⟩
       . cases hbad
theorem La (la de eh ez la2 de2 eh2 ez2 d0 d1 l0 l1:Int) (aH aZ bH bZ:Option Addr) (cH cZ dH dZ:Nat) (hk:la≠la2∨de2≠de+1) (w:World) (hb1:-90<=de/\de<=90) (hv:(-1099511627776<=d0/\d0<=1099511627776)/\-1099511627776<=d1/\d1<=1099511627776) (hb2:-90<=de2/\de2<=90)
 (CV:CtB w 13 #[.agg #[.int .i64 la,.int .i64 de,.slice aH 181 cH,.slice aZ 181 cZ,.int .i64 eh,.int .i64 ez]] (.bool true))
 (CW:CtB w 13 #[.agg #[.int .i64 la2,.int .i64 de2,.slice bH 181 dH,.slice bZ 181 dZ,.int .i64 eh2,.int .i64 ez2]] (.bool true))
 (CD:CtB w 14 #[.agg #[.int .i64 d0,.int .i64 d1]] (.bool true))
 (CL:CtB w 14 #[.agg #[.int .i64 l0,.int .i64 l1]] (.bool true)) :
 Calls Tryz.prog 6 #[.agg #[.int .i64 la,.int .i64 de,.slice aH 181 cH,.slice aZ 181 cZ,.int .i64 eh,.int .i64 ez],.agg #[.int .i64 la2,.int .i64 de2,.slice bH 181 dH,.slice bZ 181 dZ,.int .i64 eh2,.int .i64 ez2],.agg #[.int .i64 d0,.int .i64 d1],.agg #[.int .i64 l0,.int .i64 l1]] w fun e w'=>e=.returned (.tuple #[.agg #[.int .i64 0,.int .i64 0,.int .i64 0,.int .i64 0],.int .i64 11])/\Below w.heap.size w w':=by
 have hw1:IntKind.i64.wrap (de+1)=de+1:=Go.IntWalk.i64_in _ (by omega)
 have hw2:IntKind.i64.wrap (de*60000)=de*60000:=Go.IntWalk.i64_in _ (by omega)
 have hw3:IntKind.i64.wrap (de2*60000)=de2*60000:=Go.IntWalk.i64_in _ (by omega)
 have K0:=Lib.hid (((((az w).new w.heap.size rfl 24 #[.int .i64 la,.int .i64 de,.slice aH 181 cH,.slice aZ 181 cZ,.int .i64 eh,.int .i64 ez]).new (w.heap.size+1) (by simp) 24 #[.int .i64 la2,.int .i64 de2,.slice bH 181 dH,.slice bZ 181 dZ,.int .i64 eh2,.int .i64 ez2]).new (w.heap.size+1+1) (by simp) 26 #[.int .i64 d0,.int .i64 d1]).new (w.heap.size+1+1+1) (by simp) 26 #[.int .i64 l0,.int .i64 l1] |>.new (w.heap.size+1+1+1+1) (by simp) 30 #[.int .i64 0,.int .i64 0,.int .i64 0,.int .i64 0])
 go_enter Tryz.func6,Tryz.ntmps6;obtain ⟨a0,a1,a2,a3,a4,a5⟩:=kc6 K0.out (w.heap.size) 24 (.int .i64 la) (.int .i64 de) (.slice aH 181 cH) (.slice aZ 181 cZ) (.int .i64 eh) (.int .i64 ez) (by simp)
 go_wp2_with fail;refine (CV.out _ K0.out.1).mono ?_;rintro e w1 ⟨rfl,hb⟩;have K1:=Lib.hid (K0.out.below hb);clear hb K0 CV a0 a1 a2 a3 a4 a5;obtain ⟨a0,a1,a2,a3,a4,a5⟩:=kc6 K1.out (w.heap.size+1) 24 (.int .i64 la2) (.int .i64 de2) (.slice bH 181 dH) (.slice bZ 181 dZ) (.int .i64 eh2) (.int .i64 ez2) (by simp)
 go_wp2_with fail;refine (CW.out _ K1.out.1).mono ?_;rintro e w2 ⟨rfl,hb⟩;have K2:=Lib.hid (K1.out.below hb);clear hb K1 CW a0 a1 a2 a3 a4 a5;obtain ⟨a0,a1⟩:=kc2 K2.out (w.heap.size+1+1) 26 (.int .i64 d0) (.int .i64 d1) (by simp)
 go_wp2_with fail;refine (CD.out _ K2.out.1).mono ?_;rintro e w3 ⟨rfl,hb⟩;have K3:=Lib.hid (K2.out.below hb);clear hb K2 CD a0 a1;obtain ⟨a0,a1⟩:=kc2 K3.out (w.heap.size+1+1+1) 26 (.int .i64 l0) (.int .i64 l1) (by simp)
 go_wp2_with fail;refine (CL.out _ K3.out.1).mono ?_;rintro e w4 ⟨rfl,hb⟩;have K4:=Lib.hid (K3.out.below hb);clear hb K3 CL a0 a1;obtain ⟨a0,a1,-,-,-,-⟩:=kc6 K4.out (w.heap.size) 24 (.int .i64 la) (.int .i64 de) (.slice aH 181 cH) (.slice aZ 181 cZ) (.int .i64 eh) (.int .i64 ez) (by simp)
 obtain ⟨b0,b1,-,-,-,-⟩:=kc6 K4.out (w.heap.size+1) 24 (.int .i64 la2) (.int .i64 de2) (.slice bH 181 dH) (.slice bZ 181 dZ) (.int .i64 eh2) (.int .i64 ez2) (by simp)
 obtain ⟨z0,z1,z2,z3⟩:=kc4 K4.out (w.heap.size+1+1+1+1) 30 (.int .i64 0) (.int .i64 0) (.int .i64 0) (.int .i64 0) (by simp)
 obtain ⟨y0,y1,y2,y3⟩:=kf4 K4.out (w.heap.size+1+1+1+1) 30 (.int .i64 0) (.int .i64 0) (.int .i64 0) (.int .i64 0) (by simp)
 by_cases q1:la=la2
 . subst q1;have q2:¬ de2=de+1:=by omega
   have KE:=Lib.hid (jq K4.out (w.heap.size+1+1+1+1) 30 (.int .i64 0) (.int .i64 0) (.int .i64 0) (.int .i64 0) (by simp) (by omega) (.int .i64 0) (.int .i64 0) (.int .i64 0) (.int .i64 0))
   go_wp2;clear z0 z1 z2 z3 y0 y1 y2 y3 K4 a0 a1 b0 b1;generalize ((((World.setCell _ _ _).setCell _ _).setCell _ _).setCell _ _)=wE at *
   obtain ⟨z0,z1,z2,z3⟩:=kc4 KE.out (w.heap.size+1+1+1+1) 30 (.int .i64 0) (.int .i64 0) (.int .i64 0) (.int .i64 0) (by simp)
   refine bodyPost_ret (by simp [results,Tryz.results6,go_sem,z0,z1,z2,z3];try rfl) rfl ⟨by simp,KE.out.1⟩
 . have KE:=Lib.hid (jq K4.out (w.heap.size+1+1+1+1) 30 (.int .i64 0) (.int .i64 0) (.int .i64 0) (.int .i64 0) (by simp) (by omega) (.int .i64 0) (.int .i64 0) (.int .i64 0) (.int .i64 0))
   go_wp2;clear z0 z1 z2 z3 y0 y1 y2 y3 K4 a0 a1 b0 b1;generalize ((((World.setCell _ _ _).setCell _ _).setCell _ _).setCell _ _)=wE at *
   obtain ⟨z0,z1,z2,z3⟩:=kc4 KE.out (w.heap.size+1+1+1+1) 30 (.int .i64 0) (.int .i64 0) (.int .i64 0) (.int .i64 0) (by simp)
   refine bodyPost_ret (by simp [results,Tryz.results6,go_sem,z0,z1,z2,z3];try rfl) rfl ⟨by simp,KE.out.1⟩
theorem G8 (la de eh ez eh2 ez2 d0 d1 l0 l1:Int) (aH aZ bH bZ:Option Addr) (cH cZ dH dZ:Nat) (hr:Hid (¬ (de*60000<=d0/\d1<=(de+1)*60000/\0<=l0/\l1<=10800000))) (w:World) (hb1:-90<=de/\de<=90) (hv:(-1099511627776<=d0/\d0<=1099511627776)/\-1099511627776<=d1/\d1<=1099511627776) (hb2:-90<=(de+1)/\(de+1)<=90)
 (CV:CtB w 13 #[.agg #[.int .i64 la,.int .i64 de,.slice aH 181 cH,.slice aZ 181 cZ,.int .i64 eh,.int .i64 ez]] (.bool true))
 (CW:CtB w 13 #[.agg #[.int .i64 la,.int .i64 (de+1),.slice bH 181 dH,.slice bZ 181 dZ,.int .i64 eh2,.int .i64 ez2]] (.bool true))
 (CD:CtB w 14 #[.agg #[.int .i64 d0,.int .i64 d1]] (.bool true))
 (CL:CtB w 14 #[.agg #[.int .i64 l0,.int .i64 l1]] (.bool true)) :
 Calls Tryz.prog 6 #[.agg #[.int .i64 la,.int .i64 de,.slice aH 181 cH,.slice aZ 181 cZ,.int .i64 eh,.int .i64 ez],.agg #[.int .i64 la,.int .i64 (de+1),.slice bH 181 dH,.slice bZ 181 dZ,.int .i64 eh2,.int .i64 ez2],.agg #[.int .i64 d0,.int .i64 d1],.agg #[.int .i64 l0,.int .i64 l1]] w fun e w'=>e=.returned (.tuple #[.agg #[.int .i64 0,.int .i64 0,.int .i64 0,.int .i64 0],.int .i64 2])/\Below w.heap.size w w':=by
 have hw1:IntKind.i64.wrap (de+1)=de+1:=Go.IntWalk.i64_in _ (by omega)
 have hw2:IntKind.i64.wrap (de*60000)=de*60000:=Go.IntWalk.i64_in _ (by omega)
 have hw3:IntKind.i64.wrap ((de+1)*60000)=(de+1)*60000:=Go.IntWalk.i64_in _ (by omega)
 have K0:=Lib.hid (((((az w).new w.heap.size rfl 24 #[.int .i64 la,.int .i64 de,.slice aH 181 cH,.slice aZ 181 cZ,.int .i64 eh,.int .i64 ez]).new (w.heap.size+1) (by simp) 24 #[.int .i64 la,.int .i64 (de+1),.slice bH 181 dH,.slice bZ 181 dZ,.int .i64 eh2,.int .i64 ez2]).new (w.heap.size+1+1) (by simp) 26 #[.int .i64 d0,.int .i64 d1]).new (w.heap.size+1+1+1) (by simp) 26 #[.int .i64 l0,.int .i64 l1] |>.new (w.heap.size+1+1+1+1) (by simp) 30 #[.int .i64 0,.int .i64 0,.int .i64 0,.int .i64 0])
 go_enter Tryz.func6,Tryz.ntmps6;obtain ⟨a0,a1,a2,a3,a4,a5⟩:=kc6 K0.out (w.heap.size) 24 (.int .i64 la) (.int .i64 de) (.slice aH 181 cH) (.slice aZ 181 cZ) (.int .i64 eh) (.int .i64 ez) (by simp)
 go_wp2_with fail;refine (CV.out _ K0.out.1).mono ?_;rintro e w1 ⟨rfl,hb⟩;have K1:=Lib.hid (K0.out.below hb);clear hb K0 CV a0 a1 a2 a3 a4 a5;obtain ⟨a0,a1,a2,a3,a4,a5⟩:=kc6 K1.out (w.heap.size+1) 24 (.int .i64 la) (.int .i64 (de+1)) (.slice bH 181 dH) (.slice bZ 181 dZ) (.int .i64 eh2) (.int .i64 ez2) (by simp)
 go_wp2_with fail;refine (CW.out _ K1.out.1).mono ?_;rintro e w2 ⟨rfl,hb⟩;have K2:=Lib.hid (K1.out.below hb);clear hb K1 CW a0 a1 a2 a3 a4 a5;obtain ⟨a0,a1⟩:=kc2 K2.out (w.heap.size+1+1) 26 (.int .i64 d0) (.int .i64 d1) (by simp)
 go_wp2_with fail;refine (CD.out _ K2.out.1).mono ?_;rintro e w3 ⟨rfl,hb⟩;have K3:=Lib.hid (K2.out.below hb);clear hb K2 CD a0 a1;obtain ⟨a0,a1⟩:=kc2 K3.out (w.heap.size+1+1+1) 26 (.int .i64 l0) (.int .i64 l1) (by simp)
 go_wp2_with fail;refine (CL.out _ K3.out.1).mono ?_;rintro e w4 ⟨rfl,hb⟩;have K4:=Lib.hid (K3.out.below hb);clear hb K3 CL a0 a1;obtain ⟨a0,a1,-,-,-,-⟩:=kc6 K4.out (w.heap.size) 24 (.int .i64 la) (.int .i64 de) (.slice aH 181 cH) (.slice aZ 181 cZ) (.int .i64 eh) (.int .i64 ez) (by simp)
 obtain ⟨b0,b1,-,-,-,-⟩:=kc6 K4.out (w.heap.size+1) 24 (.int .i64 la) (.int .i64 (de+1)) (.slice bH 181 dH) (.slice bZ 181 dZ) (.int .i64 eh2) (.int .i64 ez2) (by simp)
 obtain ⟨z0,z1,z2,z3⟩:=kc4 K4.out (w.heap.size+1+1+1+1) 30 (.int .i64 0) (.int .i64 0) (.int .i64 0) (.int .i64 0) (by simp)
 obtain ⟨y0,y1,y2,y3⟩:=kf4 K4.out (w.heap.size+1+1+1+1) 30 (.int .i64 0) (.int .i64 0) (.int .i64 0) (.int .i64 0) (by simp)
 obtain ⟨dd0,dd1⟩:=kc2 K4.out (w.heap.size+1+1) 26 (.int .i64 d0) (.int .i64 d1) (by simp)
 obtain ⟨ll0,ll1⟩:=kc2 K4.out (w.heap.size+1+1+1) 26 (.int .i64 l0) (.int .i64 l1) (by simp)
 by_cases c1:d0<de*60000
 . have KE:=Lib.hid (jq K4.out (w.heap.size+1+1+1+1) 30 (.int .i64 0) (.int .i64 0) (.int .i64 0) (.int .i64 0) (by simp) (by omega) (.int .i64 0) (.int .i64 0) (.int .i64 0) (.int .i64 0))
   go_wp2;clear z0 z1 z2 z3 y0 y1 y2 y3 K4 a0 a1 b0 b1 dd0 dd1 ll0 ll1;generalize ((((World.setCell _ _ _).setCell _ _).setCell _ _).setCell _ _)=wE at *
   obtain ⟨z0,z1,z2,z3⟩:=kc4 KE.out (w.heap.size+1+1+1+1) 30 (.int .i64 0) (.int .i64 0) (.int .i64 0) (.int .i64 0) (by simp)
   refine bodyPost_ret (by simp [results,Tryz.results6,go_sem,z0,z1,z2,z3];try rfl) rfl ⟨by simp,KE.out.1⟩
 . by_cases c2:(de+1)*60000<d1
   . have KE:=Lib.hid (jq K4.out (w.heap.size+1+1+1+1) 30 (.int .i64 0) (.int .i64 0) (.int .i64 0) (.int .i64 0) (by simp) (by omega) (.int .i64 0) (.int .i64 0) (.int .i64 0) (.int .i64 0))
     go_wp2;clear z0 z1 z2 z3 y0 y1 y2 y3 K4 a0 a1 b0 b1 dd0 dd1 ll0 ll1;generalize ((((World.setCell _ _ _).setCell _ _).setCell _ _).setCell _ _)=wE at *
     obtain ⟨z0,z1,z2,z3⟩:=kc4 KE.out (w.heap.size+1+1+1+1) 30 (.int .i64 0) (.int .i64 0) (.int .i64 0) (.int .i64 0) (by simp)
     refine bodyPost_ret (by simp [results,Tryz.results6,go_sem,z0,z1,z2,z3];try rfl) rfl ⟨by simp,KE.out.1⟩
   . by_cases c3:l0<0
     . have KE:=Lib.hid (jq K4.out (w.heap.size+1+1+1+1) 30 (.int .i64 0) (.int .i64 0) (.int .i64 0) (.int .i64 0) (by simp) (by omega) (.int .i64 0) (.int .i64 0) (.int .i64 0) (.int .i64 0))
       go_wp2;clear z0 z1 z2 z3 y0 y1 y2 y3 K4 a0 a1 b0 b1 dd0 dd1 ll0 ll1;generalize ((((World.setCell _ _ _).setCell _ _).setCell _ _).setCell _ _)=wE at *
       obtain ⟨z0,z1,z2,z3⟩:=kc4 KE.out (w.heap.size+1+1+1+1) 30 (.int .i64 0) (.int .i64 0) (.int .i64 0) (.int .i64 0) (by simp)
       refine bodyPost_ret (by simp [results,Tryz.results6,go_sem,z0,z1,z2,z3];try rfl) rfl ⟨by simp,KE.out.1⟩
     . by_cases c4:10800000<l1
       . have KE:=Lib.hid (jq K4.out (w.heap.size+1+1+1+1) 30 (.int .i64 0) (.int .i64 0) (.int .i64 0) (.int .i64 0) (by simp) (by omega) (.int .i64 0) (.int .i64 0) (.int .i64 0) (.int .i64 0))
         go_wp2;clear z0 z1 z2 z3 y0 y1 y2 y3 K4 a0 a1 b0 b1 dd0 dd1 ll0 ll1;generalize ((((World.setCell _ _ _).setCell _ _).setCell _ _).setCell _ _)=wE at *
         obtain ⟨z0,z1,z2,z3⟩:=kc4 KE.out (w.heap.size+1+1+1+1) 30 (.int .i64 0) (.int .i64 0) (.int .i64 0) (.int .i64 0) (by simp)
         refine bodyPost_ret (by simp [results,Tryz.results6,go_sem,z0,z1,z2,z3];try rfl) rfl ⟨by simp,KE.out.1⟩
       . exfalso;exact hr.out (by omega)
theorem Lh (la de eh ez eh2 ez2 d0 d1 l0 l1:Int) (aH aZ bH bZ:Option Addr) (cH cZ dH dZ:Nat) (k:Nat) (u0 u1:Int) (r1:¬ d0<de*60000) (r2:¬ (de+1)*60000<d1) (r3:¬ l0<0) (r4:¬ 10800000<l1) (w:World) (hb1:-90<=de/\de<=90) (hv:(-1099511627776<=d0/\d0<=1099511627776)/\-1099511627776<=d1/\d1<=1099511627776) (hb2:-90<=(de+1)/\(de+1)<=90)
 (CV:CtB w 13 #[.agg #[.int .i64 la,.int .i64 de,.slice aH 181 cH,.slice aZ 181 cZ,.int .i64 eh,.int .i64 ez]] (.bool true))
 (CW:CtB w 13 #[.agg #[.int .i64 la,.int .i64 (de+1),.slice bH 181 dH,.slice bZ 181 dZ,.int .i64 eh2,.int .i64 ez2]] (.bool true))
 (CD:CtB w 14 #[.agg #[.int .i64 d0,.int .i64 d1]] (.bool true))
 (CL:CtB w 14 #[.agg #[.int .i64 l0,.int .i64 l1]] (.bool true))
 (CG:CtB w 15 #[.agg #[.int .i64 l0,.int .i64 l1],.int .i64 0,.int .i64 179] (.tuple #[.int .i64 (k:Int),.agg #[.int .i64 u0,.int .i64 u1],.bool false])) :
 Calls Tryz.prog 6 #[.agg #[.int .i64 la,.int .i64 de,.slice aH 181 cH,.slice aZ 181 cZ,.int .i64 eh,.int .i64 ez],.agg #[.int .i64 la,.int .i64 (de+1),.slice bH 181 dH,.slice bZ 181 dZ,.int .i64 eh2,.int .i64 ez2],.agg #[.int .i64 d0,.int .i64 d1],.agg #[.int .i64 l0,.int .i64 l1]] w fun e w'=>e=.returned (.tuple #[.agg #[.int .i64 0,.int .i64 0,.int .i64 0,.int .i64 0],.int .i64 24])/\Below w.heap.size w w':=by
 have hw1:IntKind.i64.wrap (de+1)=de+1:=Go.IntWalk.i64_in _ (by omega)
 have hw2:IntKind.i64.wrap (de*60000)=de*60000:=Go.IntWalk.i64_in _ (by omega)
 have hw3:IntKind.i64.wrap ((de+1)*60000)=(de+1)*60000:=Go.IntWalk.i64_in _ (by omega)
 have K0:=Lib.hid (((((az w).new w.heap.size rfl 24 #[.int .i64 la,.int .i64 de,.slice aH 181 cH,.slice aZ 181 cZ,.int .i64 eh,.int .i64 ez]).new (w.heap.size+1) (by simp) 24 #[.int .i64 la,.int .i64 (de+1),.slice bH 181 dH,.slice bZ 181 dZ,.int .i64 eh2,.int .i64 ez2]).new (w.heap.size+1+1) (by simp) 26 #[.int .i64 d0,.int .i64 d1]).new (w.heap.size+1+1+1) (by simp) 26 #[.int .i64 l0,.int .i64 l1] |>.new (w.heap.size+1+1+1+1) (by simp) 30 #[.int .i64 0,.int .i64 0,.int .i64 0,.int .i64 0])
 go_enter Tryz.func6,Tryz.ntmps6;obtain ⟨a0,a1,a2,a3,a4,a5⟩:=kc6 K0.out (w.heap.size) 24 (.int .i64 la) (.int .i64 de) (.slice aH 181 cH) (.slice aZ 181 cZ) (.int .i64 eh) (.int .i64 ez) (by simp)
 go_wp2_with fail;refine (CV.out _ K0.out.1).mono ?_;rintro e w1 ⟨rfl,hb⟩;have K1:=Lib.hid (K0.out.below hb);clear hb K0 CV a0 a1 a2 a3 a4 a5;obtain ⟨a0,a1,a2,a3,a4,a5⟩:=kc6 K1.out (w.heap.size+1) 24 (.int .i64 la) (.int .i64 (de+1)) (.slice bH 181 dH) (.slice bZ 181 dZ) (.int .i64 eh2) (.int .i64 ez2) (by simp)
 go_wp2_with fail;refine (CW.out _ K1.out.1).mono ?_;rintro e w2 ⟨rfl,hb⟩;have K2:=Lib.hid (K1.out.below hb);clear hb K1 CW a0 a1 a2 a3 a4 a5;obtain ⟨a0,a1⟩:=kc2 K2.out (w.heap.size+1+1) 26 (.int .i64 d0) (.int .i64 d1) (by simp)
 go_wp2_with fail;refine (CD.out _ K2.out.1).mono ?_;rintro e w3 ⟨rfl,hb⟩;have K3:=Lib.hid (K2.out.below hb);clear hb K2 CD a0 a1;obtain ⟨a0,a1⟩:=kc2 K3.out (w.heap.size+1+1+1) 26 (.int .i64 l0) (.int .i64 l1) (by simp)
 go_wp2_with fail;refine (CL.out _ K3.out.1).mono ?_;rintro e w4 ⟨rfl,hb⟩;have K4:=Lib.hid (K3.out.below hb);clear hb K3 CL a0 a1;obtain ⟨a0,a1,-,-,-,-⟩:=kc6 K4.out (w.heap.size) 24 (.int .i64 la) (.int .i64 de) (.slice aH 181 cH) (.slice aZ 181 cZ) (.int .i64 eh) (.int .i64 ez) (by simp)
 obtain ⟨b0,b1,-,-,-,-⟩:=kc6 K4.out (w.heap.size+1) 24 (.int .i64 la) (.int .i64 (de+1)) (.slice bH 181 dH) (.slice bZ 181 dZ) (.int .i64 eh2) (.int .i64 ez2) (by simp)
 obtain ⟨dd0,dd1⟩:=kc2 K4.out (w.heap.size+1+1) 26 (.int .i64 d0) (.int .i64 d1) (by simp)
 obtain ⟨ll0,ll1⟩:=kc2 K4.out (w.heap.size+1+1+1) 26 (.int .i64 l0) (.int .i64 l1) (by simp)
 go_wp2_with fail;refine (CG.out _ K4.out.1).mono ?_;rintro e w5 ⟨rfl,hb⟩;have K5:=Lib.hid (K4.out.below hb);clear hb K4 CG a0 a1 b0 b1 dd0 dd1 ll0 ll1;have K6:=Lib.hid ((K5.out.new w5.heap.size rfl 3 #[.int .i64 (k:Int)]).new (w5.heap.size+1) (by simp) 26 #[.int .i64 u0,.int .i64 u1]);clear K5
 obtain ⟨z0,z1,z2,z3⟩:=kc4 K6.out (w.heap.size+1+1+1+1) 30 (.int .i64 0) (.int .i64 0) (.int .i64 0) (.int .i64 0) (by simp)
 obtain ⟨y0,y1,y2,y3⟩:=kf4 K6.out (w.heap.size+1+1+1+1) 30 (.int .i64 0) (.int .i64 0) (.int .i64 0) (.int .i64 0) (by simp)
 have KE:=Lib.hid (jq K6.out (w.heap.size+1+1+1+1) 30 (.int .i64 0) (.int .i64 0) (.int .i64 0) (.int .i64 0) (by simp) (by omega) (.int .i64 0) (.int .i64 0) (.int .i64 0) (.int .i64 0))
 go_wp2;clear z0 z1 z2 z3 y0 y1 y2 y3 K6;generalize ((((World.setCell _ _ _).setCell _ _).setCell _ _).setCell _ _)=wE at *
 obtain ⟨z0,z1,z2,z3⟩:=kc4 KE.out (w.heap.size+1+1+1+1) 30 (.int .i64 0) (.int .i64 0) (.int .i64 0) (.int .i64 0) (by simp)
 refine bodyPost_ret (by simp [results,Tryz.results6,go_sem,z0,z1,z2,z3];try rfl) rfl ⟨by simp,KE.out.1⟩
theorem Vm (la de eh ez eh2 ez2 d0 d1 l0 l1:Int) (aH aZ bH bZ:Option Addr) (cH cZ dH dZ:Nat) (k:Nat) (u0 u1 o0 o1 o2 o3 o4 x0 x1 x2 x3 y0 y1 y2 y3:Int) (r1:¬ d0<de*60000) (r2:¬ (de+1)*60000<d1) (r3:¬ l0<0) (r4:¬ 10800000<l1) (w:World) (hb1:-90<=de/\de<=90) (hv:(-1099511627776<=d0/\d0<=1099511627776)/\-1099511627776<=d1/\d1<=1099511627776) (hb2:-90<=(de+1)/\(de+1)<=90)
 (CV:CtB w 13 #[.agg #[.int .i64 la,.int .i64 de,.slice aH 181 cH,.slice aZ 181 cZ,.int .i64 eh,.int .i64 ez]] (.bool true))
 (CW:CtB w 13 #[.agg #[.int .i64 la,.int .i64 (de+1),.slice bH 181 dH,.slice bZ 181 dZ,.int .i64 eh2,.int .i64 ez2]] (.bool true))
 (CD:CtB w 14 #[.agg #[.int .i64 d0,.int .i64 d1]] (.bool true))
 (CL:CtB w 14 #[.agg #[.int .i64 l0,.int .i64 l1]] (.bool true))
 (CG:CtB w 15 #[.agg #[.int .i64 l0,.int .i64 l1],.int .i64 0,.int .i64 179] (.tuple #[.int .i64 (k:Int),.agg #[.int .i64 u0,.int .i64 u1],.bool true]))
 (F1:Hid (∀ (gk gu:Nat) (wx:World),Below w.heap.size w wx->BK wx gk 3 #[.int .i64 (k:Int)]->BK wx gu 26 #[.int .i64 u0,.int .i64 u1]->Calls Tryz.prog 16 #[.agg #[.int .i64 la,.int .i64 de,.slice aH 181 cH,.slice aZ 181 cZ,.int .i64 eh,.int .i64 ez],.pointer (some ⟨gk,0,none⟩),.pointer (some ⟨gu,0,none⟩)] wx fun e w'=>e=.returned (.agg #[.int .i64 x0,.int .i64 x1,.int .i64 x2,.int .i64 x3])/\Below wx.heap.size wx w'))
 (F2:Hid (∀ (gk gu:Nat) (wx:World),Below w.heap.size w wx->BK wx gk 3 #[.int .i64 (k:Int)]->BK wx gu 26 #[.int .i64 u0,.int .i64 u1]->Calls Tryz.prog 16 #[.agg #[.int .i64 la,.int .i64 (de+1),.slice bH 181 dH,.slice bZ 181 dZ,.int .i64 eh2,.int .i64 ez2],.pointer (some ⟨gk,0,none⟩),.pointer (some ⟨gu,0,none⟩)] wx fun e w'=>e=.returned (.agg #[.int .i64 y0,.int .i64 y1,.int .i64 y2,.int .i64 y3])/\Below wx.heap.size wx w'))
 (CB:Hid (∀ wx:World,Calls Tryz.prog 18 #[.agg #[.int .i64 x0,.int .i64 x1,.int .i64 x2,.int .i64 x3],.agg #[.int .i64 y0,.int .i64 y1,.int .i64 y2,.int .i64 y3],.agg #[.int .i64 (d0-de*60000),.int .i64 (d1-de*60000)]] wx fun e w'=>e=.returned (.tuple #[.agg #[.int .i64 o0,.int .i64 o1,.int .i64 o2,.int .i64 o3],.int .i64 o4])/\Below wx.heap.size wx w')) :
 Calls Tryz.prog 6 #[.agg #[.int .i64 la,.int .i64 de,.slice aH 181 cH,.slice aZ 181 cZ,.int .i64 eh,.int .i64 ez],.agg #[.int .i64 la,.int .i64 (de+1),.slice bH 181 dH,.slice bZ 181 dZ,.int .i64 eh2,.int .i64 ez2],.agg #[.int .i64 d0,.int .i64 d1],.agg #[.int .i64 l0,.int .i64 l1]] w fun e w'=>e=.returned (.tuple #[.agg #[.int .i64 o0,.int .i64 o1,.int .i64 o2,.int .i64 o3],.int .i64 o4])/\Below w.heap.size w w':=by
 have hw1:IntKind.i64.wrap (de+1)=de+1:=Go.IntWalk.i64_in _ (by omega)
 have hw2:IntKind.i64.wrap (de*60000)=de*60000:=Go.IntWalk.i64_in _ (by omega)
 have hw3:IntKind.i64.wrap ((de+1)*60000)=(de+1)*60000:=Go.IntWalk.i64_in _ (by omega)
 have K0:=Lib.hid (((((az w).new w.heap.size rfl 24 #[.int .i64 la,.int .i64 de,.slice aH 181 cH,.slice aZ 181 cZ,.int .i64 eh,.int .i64 ez]).new (w.heap.size+1) (by simp) 24 #[.int .i64 la,.int .i64 (de+1),.slice bH 181 dH,.slice bZ 181 dZ,.int .i64 eh2,.int .i64 ez2]).new (w.heap.size+1+1) (by simp) 26 #[.int .i64 d0,.int .i64 d1]).new (w.heap.size+1+1+1) (by simp) 26 #[.int .i64 l0,.int .i64 l1] |>.new (w.heap.size+1+1+1+1) (by simp) 30 #[.int .i64 0,.int .i64 0,.int .i64 0,.int .i64 0])
 go_enter Tryz.func6,Tryz.ntmps6;obtain ⟨a0,a1,a2,a3,a4,a5⟩:=kc6 K0.out (w.heap.size) 24 (.int .i64 la) (.int .i64 de) (.slice aH 181 cH) (.slice aZ 181 cZ) (.int .i64 eh) (.int .i64 ez) (by simp)
 go_wp2_with fail;refine (CV.out _ K0.out.1).mono ?_;rintro e w1 ⟨rfl,hb⟩;have K1:=Lib.hid (K0.out.below hb);clear hb K0 CV a0 a1 a2 a3 a4 a5;obtain ⟨a0,a1,a2,a3,a4,a5⟩:=kc6 K1.out (w.heap.size+1) 24 (.int .i64 la) (.int .i64 (de+1)) (.slice bH 181 dH) (.slice bZ 181 dZ) (.int .i64 eh2) (.int .i64 ez2) (by simp)
 go_wp2_with fail;refine (CW.out _ K1.out.1).mono ?_;rintro e w2 ⟨rfl,hb⟩;have K2:=Lib.hid (K1.out.below hb);clear hb K1 CW a0 a1 a2 a3 a4 a5;obtain ⟨a0,a1⟩:=kc2 K2.out (w.heap.size+1+1) 26 (.int .i64 d0) (.int .i64 d1) (by simp)
 go_wp2_with fail;refine (CD.out _ K2.out.1).mono ?_;rintro e w3 ⟨rfl,hb⟩;have K3:=Lib.hid (K2.out.below hb);clear hb K2 CD a0 a1;obtain ⟨a0,a1⟩:=kc2 K3.out (w.heap.size+1+1+1) 26 (.int .i64 l0) (.int .i64 l1) (by simp)
 go_wp2_with fail;refine (CL.out _ K3.out.1).mono ?_;rintro e w4 ⟨rfl,hb⟩;have K4:=Lib.hid (K3.out.below hb);clear hb K3 CL a0 a1;obtain ⟨a0,a1,-,-,-,-⟩:=kc6 K4.out (w.heap.size) 24 (.int .i64 la) (.int .i64 de) (.slice aH 181 cH) (.slice aZ 181 cZ) (.int .i64 eh) (.int .i64 ez) (by simp)
 obtain ⟨b0,b1,-,-,-,-⟩:=kc6 K4.out (w.heap.size+1) 24 (.int .i64 la) (.int .i64 (de+1)) (.slice bH 181 dH) (.slice bZ 181 dZ) (.int .i64 eh2) (.int .i64 ez2) (by simp)
 obtain ⟨dd0,dd1⟩:=kc2 K4.out (w.heap.size+1+1) 26 (.int .i64 d0) (.int .i64 d1) (by simp)
 obtain ⟨ll0,ll1⟩:=kc2 K4.out (w.heap.size+1+1+1) 26 (.int .i64 l0) (.int .i64 l1) (by simp)
 go_wp2_with fail;refine (CG.out _ K4.out.1).mono ?_;rintro e w5 ⟨rfl,hb⟩;have K5:=Lib.hid (K4.out.below hb);clear hb K4 CG a0 a1 b0 b1 dd0 dd1 ll0 ll1;have K6:=Lib.hid ((K5.out.new w5.heap.size rfl 3 #[.int .i64 (k:Int)]).new (w5.heap.size+1) (by simp) 26 #[.int .i64 u0,.int .i64 u1]);clear K5
 go_upto_region 11 with (fail)
 generalize hW:((w5.alloc _).alloc _)=wC at *
 clear hW;generalize w5.heap.size=B5 at *
 have FF1:Hid (∀ wx:World,KS w wx [(B5+1,26,#[.int .i64 u0,.int .i64 u1]),(B5,3,#[.int .i64 (k:Int)]),(w.heap.size+1+1+1+1,30,#[.int .i64 0,.int .i64 0,.int .i64 0,.int .i64 0]),(w.heap.size+1+1+1,26,#[.int .i64 l0,.int .i64 l1]),(w.heap.size+1+1,26,#[.int .i64 d0,.int .i64 d1]),(w.heap.size+1,24,#[.int .i64 la,.int .i64 (de+1),.slice bH 181 dH,.slice bZ 181 dZ,.int .i64 eh2,.int .i64 ez2]),(w.heap.size,24,#[.int .i64 la,.int .i64 de,.slice aH 181 cH,.slice aZ 181 cZ,.int .i64 eh,.int .i64 ez])]->Calls Tryz.prog 16 #[.agg #[.int .i64 la,.int .i64 de,.slice aH 181 cH,.slice aZ 181 cZ,.int .i64 eh,.int .i64 ez],.pointer (some ⟨B5,0,none⟩),.pointer (some ⟨B5+1,0,none⟩)] wx fun e w'=>e=.returned (.agg #[.int .i64 x0,.int .i64 x1,.int .i64 x2,.int .i64 x3])/\Below wx.heap.size wx w'):=Lib.hid (fun wx K=>F1.out _ _ wx K.1 (K.2 _ (List.mem_cons_of_mem _ (List.mem_cons_self ..))) (K.2 _ (List.mem_cons_self ..)))
 have FF2:Hid (∀ wx:World,KS w wx [(B5+1,26,#[.int .i64 u0,.int .i64 u1]),(B5,3,#[.int .i64 (k:Int)]),(w.heap.size+1+1+1+1,30,#[.int .i64 0,.int .i64 0,.int .i64 0,.int .i64 0]),(w.heap.size+1+1+1,26,#[.int .i64 l0,.int .i64 l1]),(w.heap.size+1+1,26,#[.int .i64 d0,.int .i64 d1]),(w.heap.size+1,24,#[.int .i64 la,.int .i64 (de+1),.slice bH 181 dH,.slice bZ 181 dZ,.int .i64 eh2,.int .i64 ez2]),(w.heap.size,24,#[.int .i64 la,.int .i64 de,.slice aH 181 cH,.slice aZ 181 cZ,.int .i64 eh,.int .i64 ez])]->Calls Tryz.prog 16 #[.agg #[.int .i64 la,.int .i64 (de+1),.slice bH 181 dH,.slice bZ 181 dZ,.int .i64 eh2,.int .i64 ez2],.pointer (some ⟨B5,0,none⟩),.pointer (some ⟨B5+1,0,none⟩)] wx fun e w'=>e=.returned (.agg #[.int .i64 y0,.int .i64 y1,.int .i64 y2,.int .i64 y3])/\Below wx.heap.size wx w'):=Lib.hid (fun wx K=>F2.out _ _ wx K.1 (K.2 _ (List.mem_cons_of_mem _ (List.mem_cons_self ..))) (K.2 _ (List.mem_cons_self ..)))
 have SB:Hid (∀ wx:World,KS w wx [(w.heap.size+1+1,26,#[.int .i64 d0,.int .i64 d1]),(w.heap.size+1,24,#[.int .i64 la,.int .i64 (de+1),.slice bH 181 dH,.slice bZ 181 dZ,.int .i64 eh2,.int .i64 ez2]),(w.heap.size,24,#[.int .i64 la,.int .i64 de,.slice aH 181 cH,.slice aZ 181 cZ,.int .i64 eh,.int .i64 ez])]->wx.cell? ⟨w.heap.size,0,none⟩=some (.int .i64 la)/\wx.cell? ⟨w.heap.size,1,none⟩=some (.int .i64 de)/\wx.cell? ⟨w.heap.size,2,none⟩=some (.slice aH 181 cH)/\wx.cell? ⟨w.heap.size,3,none⟩=some (.slice aZ 181 cZ)/\wx.cell? ⟨w.heap.size,4,none⟩=some (.int .i64 eh)/\wx.cell? ⟨w.heap.size,5,none⟩=some (.int .i64 ez)/\wx.cell? ⟨w.heap.size+1,0,none⟩=some (.int .i64 la)/\wx.cell? ⟨w.heap.size+1,1,none⟩=some (.int .i64 (de+1))/\wx.cell? ⟨w.heap.size+1,2,none⟩=some (.slice bH 181 dH)/\wx.cell? ⟨w.heap.size+1,3,none⟩=some (.slice bZ 181 dZ)/\wx.cell? ⟨w.heap.size+1,4,none⟩=some (.int .i64 eh2)/\wx.cell? ⟨w.heap.size+1,5,none⟩=some (.int .i64 ez2)/\wx.cell? ⟨w.heap.size+1+1,0,none⟩=some (.int .i64 d0)/\wx.cell? ⟨w.heap.size+1+1,1,none⟩=some (.int .i64 d1)):=Lib.hid (fun wx K=>⟨K.c (g:=w.heap.size) (t:=24) (cs:=#[.int .i64 la,.int .i64 de,.slice aH 181 cH,.slice aZ 181 cZ,.int .i64 eh,.int .i64 ez]) (by simp) (i:=0) rfl,K.c (g:=w.heap.size) (t:=24) (cs:=#[.int .i64 la,.int .i64 de,.slice aH 181 cH,.slice aZ 181 cZ,.int .i64 eh,.int .i64 ez]) (by simp) (i:=1) rfl,K.c (g:=w.heap.size) (t:=24) (cs:=#[.int .i64 la,.int .i64 de,.slice aH 181 cH,.slice aZ 181 cZ,.int .i64 eh,.int .i64 ez]) (by simp) (i:=2) rfl,K.c (g:=w.heap.size) (t:=24) (cs:=#[.int .i64 la,.int .i64 de,.slice aH 181 cH,.slice aZ 181 cZ,.int .i64 eh,.int .i64 ez]) (by simp) (i:=3) rfl,K.c (g:=w.heap.size) (t:=24) (cs:=#[.int .i64 la,.int .i64 de,.slice aH 181 cH,.slice aZ 181 cZ,.int .i64 eh,.int .i64 ez]) (by simp) (i:=4) rfl,K.c (g:=w.heap.size) (t:=24) (cs:=#[.int .i64 la,.int .i64 de,.slice aH 181 cH,.slice aZ 181 cZ,.int .i64 eh,.int .i64 ez]) (by simp) (i:=5) rfl,K.c (g:=w.heap.size+1) (t:=24) (cs:=#[.int .i64 la,.int .i64 (de+1),.slice bH 181 dH,.slice bZ 181 dZ,.int .i64 eh2,.int .i64 ez2]) (by simp) (i:=0) rfl,K.c (g:=w.heap.size+1) (t:=24) (cs:=#[.int .i64 la,.int .i64 (de+1),.slice bH 181 dH,.slice bZ 181 dZ,.int .i64 eh2,.int .i64 ez2]) (by simp) (i:=1) rfl,K.c (g:=w.heap.size+1) (t:=24) (cs:=#[.int .i64 la,.int .i64 (de+1),.slice bH 181 dH,.slice bZ 181 dZ,.int .i64 eh2,.int .i64 ez2]) (by simp) (i:=2) rfl,K.c (g:=w.heap.size+1) (t:=24) (cs:=#[.int .i64 la,.int .i64 (de+1),.slice bH 181 dH,.slice bZ 181 dZ,.int .i64 eh2,.int .i64 ez2]) (by simp) (i:=3) rfl,K.c (g:=w.heap.size+1) (t:=24) (cs:=#[.int .i64 la,.int .i64 (de+1),.slice bH 181 dH,.slice bZ 181 dZ,.int .i64 eh2,.int .i64 ez2]) (by simp) (i:=4) rfl,K.c (g:=w.heap.size+1) (t:=24) (cs:=#[.int .i64 la,.int .i64 (de+1),.slice bH 181 dH,.slice bZ 181 dZ,.int .i64 eh2,.int .i64 ez2]) (by simp) (i:=5) rfl,K.c (g:=w.heap.size+1+1) (t:=26) (cs:=#[.int .i64 d0,.int .i64 d1]) (by simp) (i:=0) rfl,K.c (g:=w.heap.size+1+1) (t:=26) (cs:=#[.int .i64 d0,.int .i64 d1]) (by simp) (i:=1) rfl⟩)
 clear F1 F2;have KX:=Lib.hid K6.out.drew;clear K6;have SS:Hid (∀ wx:World,KS w wx [(B5+1,26,#[.int .i64 u0,.int .i64 u1]),(B5,3,#[.int .i64 (k:Int)]),(w.heap.size+1+1+1+1,30,#[.int .i64 0,.int .i64 0,.int .i64 0,.int .i64 0]),(w.heap.size+1+1+1,26,#[.int .i64 l0,.int .i64 l1]),(w.heap.size+1+1,26,#[.int .i64 d0,.int .i64 d1]),(w.heap.size+1,24,#[.int .i64 la,.int .i64 (de+1),.slice bH 181 dH,.slice bZ 181 dZ,.int .i64 eh2,.int .i64 ez2]),(w.heap.size,24,#[.int .i64 la,.int .i64 de,.slice aH 181 cH,.slice aZ 181 cZ,.int .i64 eh,.int .i64 ez])]->KS w wx [(w.heap.size+1+1,26,#[.int .i64 d0,.int .i64 d1]),(w.heap.size+1,24,#[.int .i64 la,.int .i64 (de+1),.slice bH 181 dH,.slice bZ 181 dZ,.int .i64 eh2,.int .i64 ez2]),(w.heap.size,24,#[.int .i64 la,.int .i64 de,.slice aH 181 cH,.slice aZ 181 cZ,.int .i64 eh,.int .i64 ez])]):=Lib.hid (fun wx K=>K.sub (by intro x hx;simp at hx ⊢;rcases hx with rfl|rfl|rfl<;>simp))
 have SR:Hid (∀ wx:World,KS w wx [(B5+1,26,#[.int .i64 u0,.int .i64 u1]),(B5,3,#[.int .i64 (k:Int)]),(w.heap.size+1+1+1+1,30,#[.int .i64 0,.int .i64 0,.int .i64 0,.int .i64 0]),(w.heap.size+1+1+1,26,#[.int .i64 l0,.int .i64 l1]),(w.heap.size+1+1,26,#[.int .i64 d0,.int .i64 d1]),(w.heap.size+1,24,#[.int .i64 la,.int .i64 (de+1),.slice bH 181 dH,.slice bZ 181 dZ,.int .i64 eh2,.int .i64 ez2]),(w.heap.size,24,#[.int .i64 la,.int .i64 de,.slice aH 181 cH,.slice aZ 181 cZ,.int .i64 eh,.int .i64 ez])]->KS w wx [(w.heap.size+1+1+1+1,30,#[.int .i64 0,.int .i64 0,.int .i64 0,.int .i64 0]),(w.heap.size+1+1,26,#[.int .i64 d0,.int .i64 d1]),(w.heap.size+1,24,#[.int .i64 la,.int .i64 (de+1),.slice bH 181 dH,.slice bZ 181 dZ,.int .i64 eh2,.int .i64 ez2]),(w.heap.size,24,#[.int .i64 la,.int .i64 de,.slice aH 181 cH,.slice aZ 181 cZ,.int .i64 eh,.int .i64 ez])]):=Lib.hid (fun wx K=>K.sub (by intro x hx;simp at hx ⊢;rcases hx with rfl|rfl|rfl|rfl<;>simp))
 have SE:Hid (∀ wx:World,KS w wx [(w.heap.size+1+1+1+1,30,#[.int .i64 0,.int .i64 0,.int .i64 0,.int .i64 0]),(w.heap.size+1+1,26,#[.int .i64 d0,.int .i64 d1]),(w.heap.size+1,24,#[.int .i64 la,.int .i64 (de+1),.slice bH 181 dH,.slice bZ 181 dZ,.int .i64 eh2,.int .i64 ez2]),(w.heap.size,24,#[.int .i64 la,.int .i64 de,.slice aH 181 cH,.slice aZ 181 cZ,.int .i64 eh,.int .i64 ez])]->KS w ((((wx.setCell ⟨w.heap.size+1+1+1+1,0,none⟩ (.int .i64 o0)).setCell ⟨w.heap.size+1+1+1+1,1,none⟩ (.int .i64 o1)).setCell ⟨w.heap.size+1+1+1+1,2,none⟩ (.int .i64 o2)).setCell ⟨w.heap.size+1+1+1+1,3,none⟩ (.int .i64 o3)) [(w.heap.size+1+1+1+1,30,#[.int .i64 o0,.int .i64 o1,.int .i64 o2,.int .i64 o3]),(w.heap.size+1+1,26,#[.int .i64 d0,.int .i64 d1]),(w.heap.size+1,24,#[.int .i64 la,.int .i64 (de+1),.slice bH 181 dH,.slice bZ 181 dZ,.int .i64 eh2,.int .i64 ez2]),(w.heap.size,24,#[.int .i64 la,.int .i64 de,.slice aH 181 cH,.slice aZ 181 cZ,.int .i64 eh,.int .i64 ez])]):=Lib.hid (fun wx K=>((((K).set (by omega) (by intro x hx;simp at hx;rcases hx with rfl|rfl|rfl<;>(simp;try omega)) 0 (.int .i64 o0)).set (by omega) (by intro x hx;simp at hx;rcases hx with rfl|rfl|rfl<;>(simp;try omega)) 1 (.int .i64 o1)).set (by omega) (by intro x hx;simp at hx;rcases hx with rfl|rfl|rfl<;>(simp;try omega)) 2 (.int .i64 o2)).set (by omega) (by intro x hx;simp at hx;rcases hx with rfl|rfl|rfl<;>(simp;try omega)) 3 (.int .i64 o3))
 have S3:Hid (∀ wx:World,KS w wx [(w.heap.size+1+1+1+1,30,#[.int .i64 o0,.int .i64 o1,.int .i64 o2,.int .i64 o3]),(w.heap.size+1+1,26,#[.int .i64 d0,.int .i64 d1]),(w.heap.size+1,24,#[.int .i64 la,.int .i64 (de+1),.slice bH 181 dH,.slice bZ 181 dZ,.int .i64 eh2,.int .i64 ez2]),(w.heap.size,24,#[.int .i64 la,.int .i64 de,.slice aH 181 cH,.slice aZ 181 cZ,.int .i64 eh,.int .i64 ez])]->KS w wx [(w.heap.size+1+1,26,#[.int .i64 d0,.int .i64 d1]),(w.heap.size+1,24,#[.int .i64 la,.int .i64 (de+1),.slice bH 181 dH,.slice bZ 181 dZ,.int .i64 eh2,.int .i64 ez2]),(w.heap.size,24,#[.int .i64 la,.int .i64 de,.slice aH 181 cH,.slice aZ 181 cZ,.int .i64 eh,.int .i64 ez])]):=Lib.hid (fun wx K=>K.sub (by intro x hx;exact List.mem_cons_of_mem _ hx))
 obtain ⟨s0,s1,s2,s3,s4,s5,s6,s7,s8,s9,s10,s11,s12,s13⟩:=SB.out _ (SS.out _ KX.out);have hs0:IntKind.i64.wrap (d0-de*60000)=d0-de*60000:=Go.IntWalk.i64_in _ (by omega)
 have hs1:IntKind.i64.wrap (d1-de*60000)=d1-de*60000:=Go.IntWalk.i64_in _ (by omega)
 go_region_held3 (fun w'=>w'.cell? ⟨w.heap.size,0,none⟩=some (.int .i64 la)/\w'.cell? ⟨w.heap.size,1,none⟩=some (.int .i64 de)/\w'.cell? ⟨w.heap.size,2,none⟩=some (.slice aH 181 cH)/\w'.cell? ⟨w.heap.size,3,none⟩=some (.slice aZ 181 cZ)/\w'.cell? ⟨w.heap.size,4,none⟩=some (.int .i64 eh)/\w'.cell? ⟨w.heap.size,5,none⟩=some (.int .i64 ez)/\w'.cell? ⟨w.heap.size+1,0,none⟩=some (.int .i64 la)/\w'.cell? ⟨w.heap.size+1,1,none⟩=some (.int .i64 (de+1))/\w'.cell? ⟨w.heap.size+1,2,none⟩=some (.slice bH 181 dH)/\w'.cell? ⟨w.heap.size+1,3,none⟩=some (.slice bZ 181 dZ)/\w'.cell? ⟨w.heap.size+1,4,none⟩=some (.int .i64 eh2)/\w'.cell? ⟨w.heap.size+1,5,none⟩=some (.int .i64 ez2)/\w'.cell? ⟨w.heap.size+1+1,0,none⟩=some (.int .i64 d0)/\w'.cell? ⟨w.heap.size+1+1,1,none⟩=some (.int .i64 d1))
  (first|exact ⟨s0,s1,s2,s3,s4,s5,s6,s7,s8,s9,s10,s11,s12,s13⟩|exact ⟨q0,q1,q2,q3,q4,q5,q6,q7,q8,q9,q10,q11,q12,q13⟩)
  (first
   | ((go_at_call 16;with_reducible refine (FF1.out _ KX.out).mono ?_);rintro r w6 ⟨rfl,hb⟩;replace KX:=Lib.hid (KX.out.below hb);clear hb s0 s1 s2 s3 s4 s5 s6 s7 s8 s9 s10 s11 s12 s13;obtain ⟨s0,s1,s2,s3,s4,s5,s6,s7,s8,s9,s10,s11,s12,s13⟩:=SB.out _ (SS.out _ KX.out))
   | ((go_at_call 16;with_reducible refine (FF2.out _ KX.out).mono ?_);rintro r w7 ⟨rfl,hb⟩;replace KX:=Lib.hid (KX.out.below hb);clear hb s0 s1 s2 s3 s4 s5 s6 s7 s8 s9 s10 s11 s12 s13;obtain ⟨s0,s1,s2,s3,s4,s5,s6,s7,s8,s9,s10,s11,s12,s13⟩:=SB.out _ (SS.out _ KX.out))
   | ((go_at_call 18;with_reducible refine (CB.out _).mono ?_);rintro r w8 ⟨rfl,hb⟩;replace KX:=Lib.hid (KX.out.below hb);clear hb s0 s1 s2 s3 s4 s5 s6 s7 s8 s9 s10 s11 s12 s13;obtain ⟨s0,s1,s2,s3,s4,s5,s6,s7,s8,s9,s10,s11,s12,s13⟩:=SB.out _ (SS.out _ KX.out);have KE:=Lib.hid (SE.out _ (SR.out _ KX.out));obtain ⟨q0,q1,q2,q3,q4,q5,q6,q7,q8,q9,q10,q11,q12,q13⟩:=SB.out _ (S3.out _ KE.out);obtain ⟨z0,z1,z2,z3⟩:=kc4 KX.out (w.heap.size+1+1+1+1) 30 (.int .i64 0) (.int .i64 0) (.int .i64 0) (.int .i64 0) (by simp);obtain ⟨y0,y1,y2,y3⟩:=kf4 KX.out (w.heap.size+1+1+1+1) 30 (.int .i64 0) (.int .i64 0) (.int .i64 0) (.int .i64 0) (by simp)))
 go_wp2;clear z0 z1 z2 z3 y0 y1 y2 y3 KX s0 s1 s2 s3 s4 s5 s6 s7 s8 s9 s10 s11 s12 s13 q0 q1 q2 q3 q4 q5 q6 q7 q8 q9 q10 q11 q12 q13;generalize ((((World.setCell _ _ _).setCell _ _).setCell _ _).setCell _ _)=wE at *
 obtain ⟨z0,z1,z2,z3⟩:=kc4 KE.out (w.heap.size+1+1+1+1) 30 (.int .i64 o0) (.int .i64 o1) (.int .i64 o2) (.int .i64 o3) (by simp)
 refine bodyPost_ret (by simp [results,Tryz.results6,go_sem,z0,z1,z2,z3];try rfl) rfl ⟨by simp,KE.out.1⟩
end Go.Proofs.YtoniodlcogpdbaaGreat
namespace Go.Proofs.YtoniodlcogpdbaaGreat
open Go.RowKit Alm Sx
def vS (la de eh ez:Int) (H Z:Cs):Bool:=decide (-90<=la/\la<=90)&&decide (-90<=de/\de<=90)&&decide (H.length=181)&&decide (Z.length=181)&&decide (0<=eh/\eh<=10800000)&&decide (0<=ez/\ez<=10800000)&&H.all hOk&&Z.all zOk
theorem Dc (la de eh ez:Int) (aH aZ:Option Addr) (cH cZ:Nat) (H Z:Cs) (w:World) (hH:SlI 2 w aH H) (hZ:SlI 2 w aZ Z) (hn:H.length<=200) (hm:Z.length<=200) :
 Calls Tryz.prog 13 #[.agg #[.int .i64 la,.int .i64 de,.slice aH H.length cH,.slice aZ Z.length cZ,.int .i64 eh,.int .i64 ez]] w fun e w'=>e=.returned (.bool (vS la de eh ez H Z))/\Below w.heap.size w w':=by
 have h:=Ml la de eh ez aH aZ H.length cH Z.length cZ (decide (-90<=la/\la<=90)) (decide (-90<=de/\de<=90)) (!H.all hOk) (!Z.all zOk) w (Lib.hid (fun w=>Ea la w)) (Lib.hid (fun w=>Ea de w)) (Lib.hid (fun w1 hb=>VT aH cH H w1 (hH.below hb) (by omega))) (Lib.hid (fun w1 hb=>Vs aZ cZ Z w1 (hZ.below hb) (by omega)))
 rw [Bool.not_not,Bool.not_not] at h;exact h
def ro (L:Cs) (i j:Nat):Int:=(L.getD i []).getD j 0
def frK (l0:Int):Int:=min (l0/60000) 179
def frN (l0:Int):Nat:=(frK l0).toNat
def frE (H Z:Cs) (eh ez l0 l1:Int) (j:Nat):Int:=(hrV (ro H (frN l0) 0) (ro H (frN l0) 1) (ro Z (frN l0) 0) (ro Z (frN l0) 1) (ro H (frN l0+1) 0) (ro H (frN l0+1) 1) (ro Z (frN l0+1) 0) (ro Z (frN l0+1) 1) eh ez (l0-frK l0*60000) (l1-frK l0*60000)).getD j 0
def frV (la de eh ez la2 de2 eh2 ez2 d0 d1 l0 l1:Int) (H Z I Y:Cs):List Int :=
 if (vS la de eh ez H Z&&vS la2 de2 eh2 ez2 I Y&&aQ d0 d1&&aQ l0 l1)=false then [0,0,0,0,1] else if la≠la2∨de2≠de+1 then [0,0,0,0,11] else if ¬ (de*60000<=d0/\d1<=de2*60000/\0<=l0/\l1<=10800000) then [0,0,0,0,2] else if ¬ l1-frK l0*60000<=60000 then [0,0,0,0,24] else dcV (frE H Z eh ez l0 l1 0) (frE H Z eh ez l0 l1 1) (frE H Z eh ez l0 l1 2) (frE H Z eh ez l0 l1 3) (frE I Y eh2 ez2 l0 l1 0) (frE I Y eh2 ez2 l0 l1 1) (frE I Y eh2 ez2 l0 l1 2) (frE I Y eh2 ez2 l0 l1 3) (d0-de*60000) (d1-de*60000)
theorem Cc {a0 a1 a2 a3 b0 b1 b2 b3 f g u v:Int} (ha:Ls a0 a1 a2 a3) (hb:Ls b0 b1 b2 b3) (hf:0<=f/\f<=10800000) (hg:0<=g/\g<=10800000) (hu:0<=u/\u<=60000) (hv:0<=v/\v<=60000) :
 hrP a0 a1 a2 a3 b0 b1 b2 b3 f g u v/\(hrQ ((hrV a0 a1 a2 a3 b0 b1 b2 b3 f g u v).getD 0 0)/\hrQ ((hrV a0 a1 a2 a3 b0 b1 b2 b3 f g u v).getD 1 0)/\hrQ ((hrV a0 a1 a2 a3 b0 b1 b2 b3 f g u v).getD 2 0)/\hrQ ((hrV a0 a1 a2 a3 b0 b1 b2 b3 f g u v).getD 3 0))/\(hrV a0 a1 a2 a3 b0 b1 b2 b3 f g u v).getD 0 0<=(hrV a0 a1 a2 a3 b0 b1 b2 b3 f g u v).getD 1 0:=by
 obtain ⟨ha1,ha2⟩:=ha;obtain ⟨hb1,hb2⟩:=hb;have x1:=uT (a:=a0) (b:=b0) (B:=5400000) (by omega) (by omega) hu
 have x2:=uT (a:=a0) (b:=b0) (B:=5400000) (by omega) (by omega) hv
 have x3:=uT (a:=a1) (b:=b1) (B:=5400000) (by omega) (by omega) hu
 have x4:=uT (a:=a1) (b:=b1) (B:=5400000) (by omega) (by omega) hv
 have x5:=vo (a:=a0) (b:=b0) (a2:=a1) (b2:=b1) (by omega) (by omega) hu
 have sg:=Qu (b2-a2);have x6:=vo (a:=a2) (b:=a2+sgt (b2-a2)) (a2:=a3) (b2:=a2+sgt (b2-a2)+b3-b2) (by omega) (by omega) hu
 have HL:hrL a2 b2 u v g<=hrH a2 a3 b2 b3 u v g:=by
  unfold hrL hrH ovL ovH;generalize atF a2 (a2+sgt (b2-a2)) u=P1 at *
  generalize atF a2 (a2+sgt (b2-a2)) v=P2 at *
  generalize atC a3 (a2+sgt (b2-a2)+b3-b2) u=P3 at *
  generalize atC a3 (a2+sgt (b2-a2)+b3-b2) v=P4 at *
  omega
 have T:=JY HL;refine ⟨⟨⟨⟨by omega,by omega⟩,⟨by omega,by omega⟩,⟨by omega,by omega⟩,⟨by omega,by omega⟩⟩,⟨⟨by omega,by omega⟩,⟨by omega,by omega⟩,⟨by omega,by omega⟩,⟨by omega,by omega⟩⟩,⟨⟨by omega,by omega⟩,⟨by omega,by omega⟩⟩,hu,hv⟩,⟨?_,?_,?_,?_⟩,?_⟩
 . show hrQ (ovL a0 b0 u v f);unfold hrQ ovL;omega
 . show hrQ (ovH a1 b1 u v f);unfold hrQ ovH;omega
 . show hrQ (if hrB a2 a3 b2 b3 then trL (hrL a2 b2 u v g) (hrH a2 a3 b2 b3 u v g) else 0);unfold hrQ;split<;>omega
 . show hrQ (if hrB a2 a3 b2 b3 then trH (hrL a2 b2 u v g) (hrH a2 a3 b2 b3 u v g) else 21600000);unfold hrQ;split<;>omega
 . show ovL a0 b0 u v f<=ovH a1 b1 u v f;unfold ovL ovH;omega
theorem gD {L:Cs} {i:Nat} (hi:i<L.length):L.getD i []=L[i]:=by
 rw [List.getD_eq_getElem?_getD,List.getElem?_eq_getElem hi];rfl
theorem jL {L:Cs} (h:∀ x∈L,x.length=2) (i:Nat) (hi:i<L.length):L[i]=[ro L i 0,ro L i 1]:=by
 obtain ⟨a,b,e⟩:=xQ (h _ (List.getElem_mem hi));unfold ro;rw [gD hi,e];rfl
theorem mD {H Z:Cs} (hH:H.all hOk=true) (hZ:Z.all zOk=true) (i:Nat) (h1:i<H.length) (h2:i<Z.length):Ls (ro H i 0) (ro H i 1) (ro Z i 0) (ro Z i 1):=by
 rw [List.all_eq_true] at hH hZ;have a:=of_decide_eq_true (hH _ (List.getElem_mem h1));have b:=of_decide_eq_true (hZ _ (List.getElem_mem h2));unfold ro;rw [gD h1,gD h2];exact ⟨a,b.1,b.2.1,b.2.2.1,b.2.2.2.1⟩
theorem nD {la de eh ez:Int} {H Z:Cs} (h:vS la de eh ez H Z=true):(-90<=la/\la<=90)/\(-90<=de/\de<=90)/\H.length=181/\Z.length=181/\(0<=eh/\eh<=10800000)/\(0<=ez/\ez<=10800000)/\H.all hOk=true/\Z.all zOk=true:=by
 unfold vS at h;simp only [Bool.and_eq_true,decide_eq_true_eq] at h;obtain ⟨⟨⟨⟨⟨⟨⟨h1,h2⟩,h3⟩,h4⟩,h5⟩,h6⟩,h7⟩,h8⟩:=h;exact ⟨h1,h2,h3,h4,h5,h6,h7,h8⟩
theorem Ta (la de eh ez la2 de2 eh2 ez2 d0 d1 l0 l1:Int) (aH aZ bH bZ:Option Addr) (cH cZ dH dZ:Nat) (H Z I Y:Cs) (w:World) (hH:SlI 2 w aH H) (hZ:SlI 2 w aZ Z) (hI:SlI 2 w bH I) (hY:SlI 2 w bZ Y) (nH:H.length<=200) (nZ:Z.length<=200) (nI:I.length<=200) (nY:Y.length<=200) :
 Calls Tryz.prog 6 #[.agg #[.int .i64 la,.int .i64 de,.slice aH H.length cH,.slice aZ Z.length cZ,.int .i64 eh,.int .i64 ez],.agg #[.int .i64 la2,.int .i64 de2,.slice bH I.length dH,.slice bZ Y.length dZ,.int .i64 eh2,.int .i64 ez2],.agg #[.int .i64 d0,.int .i64 d1],.agg #[.int .i64 l0,.int .i64 l1]] w fun e w'=>e=.returned (.tuple #[.agg #[.int .i64 ((frV la de eh ez la2 de2 eh2 ez2 d0 d1 l0 l1 H Z I Y).getD 0 0),.int .i64 ((frV la de eh ez la2 de2 eh2 ez2 d0 d1 l0 l1 H Z I Y).getD 1 0),.int .i64 ((frV la de eh ez la2 de2 eh2 ez2 d0 d1 l0 l1 H Z I Y).getD 2 0),.int .i64 ((frV la de eh ez la2 de2 eh2 ez2 d0 d1 l0 l1 H Z I Y).getD 3 0)],.int .i64 ((frV la de eh ez la2 de2 eh2 ez2 d0 d1 l0 l1 H Z I Y).getD 4 0)])/\Below w.heap.size w w':=by
 have T1:=fun (wx:World) (hb:Below w.heap.size w wx)=>Dc la de eh ez aH aZ cH cZ H Z wx (hH.below hb) (hZ.below hb) nH nZ
 have T2:=fun (wx:World) (hb:Below w.heap.size w wx)=>Dc la2 de2 eh2 ez2 bH bZ dH dZ I Y wx (hI.below hb) (hY.below hb) nI nY
 have A1:=fun (wx:World) (hb:Below w.heap.size w wx)=>Ff d0 d1 wx
 have A2:=fun (wx:World) (hb:Below w.heap.size w wx)=>Ff l0 l1 wx
 cases hB:(vS la de eh ez H Z&&vS la2 de2 eh2 ez2 I Y&&aQ d0 d1&&aQ l0 l1)
 . rw [show (frV la de eh ez la2 de2 eh2 ez2 d0 d1 l0 l1 H Z I Y)=[0,0,0,0,1] from if_pos hB]
   exact Qa la de eh ez la2 de2 eh2 ez2 d0 d1 l0 l1 aH aZ bH bZ H.length cH Z.length cZ I.length dH Y.length dZ _ _ _ _ w hB (Lib.hid T1) (Lib.hid T2) (Lib.hid A1) (Lib.hid A2)
 . have E0:¬ (vS la de eh ez H Z&&vS la2 de2 eh2 ez2 I Y&&aQ d0 d1&&aQ l0 l1)=false:=by rw [hB];decide
   simp only [Bool.and_eq_true] at hB;obtain ⟨⟨⟨v1,v2⟩,v3⟩,v4⟩:=hB;obtain ⟨_,hde,lH,lZ,he,hz,oH,oZ⟩:=nD v1;obtain ⟨_,hde2,lI,lY,he2,hz2,oI,oY⟩:=nD v2;have a3:=(aJ _ _).1 v3;have a4:=(aJ _ _).1 v4;have hv:(-1099511627776<=d0/\d0<=1099511627776)/\-1099511627776<=d1/\d1<=1099511627776:=by omega
   have sH:=hH.len;have sZ:=hZ.len;have sI:=hI.len;have sY:=hY.len;rw [v1,lH,lZ] at T1;rw [v2,lI,lY] at T2;rw [v3] at A1;rw [v4] at A2;rw [lH,lZ,lI,lY]
   by_cases k1:la≠la2∨de2≠de+1
   . rw [show (frV la de eh ez la2 de2 eh2 ez2 d0 d1 l0 l1 H Z I Y)=[0,0,0,0,11] from (if_neg E0).trans (if_pos k1)]
     exact La la de eh ez la2 de2 eh2 ez2 d0 d1 l0 l1 aH aZ bH bZ cH cZ dH dZ k1 w hde hv hde2 (Lib.hid T1) (Lib.hid T2) (Lib.hid A1) (Lib.hid A2)
   . obtain rfl:la=la2:=by omega
     obtain rfl:de2=de+1:=by omega
     by_cases k3:de*60000<=d0/\d1<=(de+1)*60000/\0<=l0/\l1<=10800000
     rotate_left
     . rw [show (frV la de eh ez la (de+1) eh2 ez2 d0 d1 l0 l1 H Z I Y)=[0,0,0,0,2] from (if_neg E0).trans ((if_neg k1).trans (if_pos k3))]
       exact G8 la de eh ez eh2 ez2 d0 d1 l0 l1 aH aZ bH bZ cH cZ dH dZ (Lib.hid k3) w hde hv hde2 (Lib.hid T1) (Lib.hid T2) (Lib.hid A1) (Lib.hid A2)
     . have kN:((frN l0:Nat):Int)=frK l0:=by unfold frN frK;omega
       have kb:0<=frK l0/\frK l0<=179/\0<=l0-frK l0*60000:=by unfold frK;omega
       have kl:frN l0<180:=by omega
       have DG:∀ (wx:World),Below w.heap.size w wx->Calls Tryz.prog 15 #[.agg #[.int .i64 l0,.int .i64 l1],.int .i64 0,.int .i64 179] wx fun e w'=>e=.returned (.tuple #[.int .i64 (frK l0),.agg #[.int .i64 (l0-frK l0*60000),.int .i64 (l1-frK l0*60000)],.bool (decide (0<=frK l0/\0<=l0-frK l0*60000/\l1-frK l0*60000<=60000))])/\Below wx.heap.size wx w':=fun wx hb=>Zm l0 l1 0 179 wx (by omega) (by omega) (by omega)
       by_cases k4:l1-frK l0*60000<=60000
       rotate_left
       . rw [show (frV la de eh ez la (de+1) eh2 ez2 d0 d1 l0 l1 H Z I Y)=[0,0,0,0,24] from (if_neg E0).trans ((if_neg k1).trans ((if_neg (not_not_intro k3)).trans (if_pos k4)))]
         rw [decide_eq_false (by omega),<-kN] at DG
         exact Lh la de eh ez eh2 ez2 d0 d1 l0 l1 aH aZ bH bZ cH cZ dH dZ (frN l0) _ _ (by omega) (by omega) (by omega) (by omega) w hde hv hde2 (Lib.hid T1) (Lib.hid T2) (Lib.hid A1) (Lib.hid A2) (Lib.hid DG)
       . rw [show (frV la de eh ez la (de+1) eh2 ez2 d0 d1 l0 l1 H Z I Y)=(dcV (frE H Z eh ez l0 l1 0) (frE H Z eh ez l0 l1 1) (frE H Z eh ez l0 l1 2) (frE H Z eh ez l0 l1 3) (frE I Y eh2 ez2 l0 l1 0) (frE I Y eh2 ez2 l0 l1 1) (frE I Y eh2 ez2 l0 l1 2) (frE I Y eh2 ez2 l0 l1 3) (d0-de*60000) (d1-de*60000)) from (if_neg E0).trans ((if_neg k1).trans ((if_neg (not_not_intro k3)).trans (if_neg (not_not_intro k4))))]
         rw [decide_eq_true (by omega)] at DG
         have DG2:∀ (wx:World),Below w.heap.size w wx->Calls Tryz.prog 15 #[.agg #[.int .i64 l0,.int .i64 l1],.int .i64 0,.int .i64 179] wx fun e w'=>e=.returned (.tuple #[.int .i64 ((frN l0:Nat):Int),.agg #[.int .i64 (l0-frK l0*60000),.int .i64 (l1-frK l0*60000)],.bool true])/\Below wx.heap.size wx w':=fun wx hb=>by rw [kN];exact DG wx hb
         have e1:=mD oH oZ (frN l0) (by omega) (by omega)
         have e2:=mD oH oZ (frN l0+1) (by omega) (by omega)
         have e3:=mD oI oY (frN l0) (by omega) (by omega)
         have e4:=mD oI oY (frN l0+1) (by omega) (by omega)
         have q1:=Cc (u:=l0-frK l0*60000) (v:=l1-frK l0*60000) e1 e2 he hz (by omega) (by omega)
         have q2:=Cc (u:=l0-frK l0*60000) (v:=l1-frK l0*60000) e3 e4 he2 hz2 (by omega) (by omega)
         have dp:dcP (frE H Z eh ez l0 l1 0) (frE H Z eh ez l0 l1 1) (frE H Z eh ez l0 l1 2) (frE H Z eh ez l0 l1 3) (frE I Y eh2 ez2 l0 l1 0) (frE I Y eh2 ez2 l0 l1 1) (frE I Y eh2 ez2 l0 l1 2) (frE I Y eh2 ez2 l0 l1 3) (d0-de*60000) (d1-de*60000):=⟨q1.2.1,q2.2.1,q1.2.2,q2.2.2,by omega,by omega⟩
         exact Vm la de eh ez eh2 ez2 d0 d1 l0 l1 aH aZ bH bZ cH cZ dH dZ (frN l0) (l0-frK l0*60000) (l1-frK l0*60000) ((dcV (frE H Z eh ez l0 l1 0) (frE H Z eh ez l0 l1 1) (frE H Z eh ez l0 l1 2) (frE H Z eh ez l0 l1 3) (frE I Y eh2 ez2 l0 l1 0) (frE I Y eh2 ez2 l0 l1 1) (frE I Y eh2 ez2 l0 l1 2) (frE I Y eh2 ez2 l0 l1 3) (d0-de*60000) (d1-de*60000)).getD 0 0) ((dcV (frE H Z eh ez l0 l1 0) (frE H Z eh ez l0 l1 1) (frE H Z eh ez l0 l1 2) (frE H Z eh ez l0 l1 3) (frE I Y eh2 ez2 l0 l1 0) (frE I Y eh2 ez2 l0 l1 1) (frE I Y eh2 ez2 l0 l1 2) (frE I Y eh2 ez2 l0 l1 3) (d0-de*60000) (d1-de*60000)).getD 1 0) ((dcV (frE H Z eh ez l0 l1 0) (frE H Z eh ez l0 l1 1) (frE H Z eh ez l0 l1 2) (frE H Z eh ez l0 l1 3) (frE I Y eh2 ez2 l0 l1 0) (frE I Y eh2 ez2 l0 l1 1) (frE I Y eh2 ez2 l0 l1 2) (frE I Y eh2 ez2 l0 l1 3) (d0-de*60000) (d1-de*60000)).getD 2 0) ((dcV (frE H Z eh ez l0 l1 0) (frE H Z eh ez l0 l1 1) (frE H Z eh ez l0 l1 2) (frE H Z eh ez l0 l1 3) (frE I Y eh2 ez2 l0 l1 0) (frE I Y eh2 ez2 l0 l1 1) (frE I Y eh2 ez2 l0 l1 2) (frE I Y eh2 ez2 l0 l1 3) (d0-de*60000) (d1-de*60000)).getD 3 0) ((dcV (frE H Z eh ez l0 l1 0) (frE H Z eh ez l0 l1 1) (frE H Z eh ez l0 l1 2) (frE H Z eh ez l0 l1 3) (frE I Y eh2 ez2 l0 l1 0) (frE I Y eh2 ez2 l0 l1 1) (frE I Y eh2 ez2 l0 l1 2) (frE I Y eh2 ez2 l0 l1 3) (d0-de*60000) (d1-de*60000)).getD 4 0) (frE H Z eh ez l0 l1 0) (frE H Z eh ez l0 l1 1) (frE H Z eh ez l0 l1 2) (frE H Z eh ez l0 l1 3) (frE I Y eh2 ez2 l0 l1 0) (frE I Y eh2 ez2 l0 l1 1) (frE I Y eh2 ez2 l0 l1 2) (frE I Y eh2 ez2 l0 l1 3) (by omega) (by omega) (by omega) (by omega) w hde hv hde2 (Lib.hid T1) (Lib.hid T2) (Lib.hid A1) (Lib.hid A2) (Lib.hid DG2)
          (Lib.hid (fun gk gu wx hb b1 b2=>zB la de eh ez (l0-frK l0*60000) (l1-frK l0*60000) aH aZ cH cZ (frN l0) gk gu H Z (ro H (frN l0) 0) (ro H (frN l0) 1) (ro H (frN l0+1) 0) (ro H (frN l0+1) 1) (ro Z (frN l0) 0) (ro Z (frN l0) 1) (ro Z (frN l0+1) 0) (ro Z (frN l0+1) 1) (frE H Z eh ez l0 l1 0) (frE H Z eh ez l0 l1 1) (frE H Z eh ez l0 l1 2) (frE H Z eh ez l0 l1 3) wx (hH.below hb) (hZ.below hb) lH lZ kl (jL sH _ _) (jL sH _ _) (jL sZ _ _) (jL sZ _ _) (b1.cell 0) (b2.cell 0) (b2.cell 1) b1.lt b2.lt (Lib.hid (fun w=>AU (ro H (frN l0) 0) (ro H (frN l0) 1) (ro Z (frN l0) 0) (ro Z (frN l0) 1) (ro H (frN l0+1) 0) (ro H (frN l0+1) 1) (ro Z (frN l0+1) 0) (ro Z (frN l0+1) 1) eh ez (l0-frK l0*60000) (l1-frK l0*60000) w q1.1))))
          (Lib.hid (fun gk gu wx hb b1 b2=>zB la (de+1) eh2 ez2 (l0-frK l0*60000) (l1-frK l0*60000) bH bZ dH dZ (frN l0) gk gu I Y (ro I (frN l0) 0) (ro I (frN l0) 1) (ro I (frN l0+1) 0) (ro I (frN l0+1) 1) (ro Y (frN l0) 0) (ro Y (frN l0) 1) (ro Y (frN l0+1) 0) (ro Y (frN l0+1) 1) (frE I Y eh2 ez2 l0 l1 0) (frE I Y eh2 ez2 l0 l1 1) (frE I Y eh2 ez2 l0 l1 2) (frE I Y eh2 ez2 l0 l1 3) wx (hI.below hb) (hY.below hb) lI lY kl (jL sI _ _) (jL sI _ _) (jL sY _ _) (jL sY _ _) (b1.cell 0) (b2.cell 0) (b2.cell 1) b1.lt b2.lt (Lib.hid (fun w=>AU (ro I (frN l0) 0) (ro I (frN l0) 1) (ro Y (frN l0) 0) (ro Y (frN l0) 1) (ro I (frN l0+1) 0) (ro I (frN l0+1) 1) (ro Y (frN l0+1) 0) (ro Y (frN l0+1) 1) eh2 ez2 (l0-frK l0*60000) (l1-frK l0*60000) w q2.1))))
          (Lib.hid (fun w=>Qp _ _ _ _ _ _ _ _ _ _ w dp))
end Go.Proofs.YtoniodlcogpdbaaGreat
namespace Go.Proofs.YtoniodlcogpdbaaGreat
open Go.RowKit Alm Sx
theorem jB (la de eh ez:Int) (aH aZ:Option Addr) (nH cH nZ cZ:Nat) (w:World) :
 Calls Tryz.prog 5 #[.agg #[.int .i64 la,.int .i64 de,.slice aH nH cH,.slice aZ nZ cZ,.int .i64 eh,.int .i64 ez]] w fun e w'=>e=.returned (.bool (decide (nH>200) || decide (nZ>200)))/\Below w.heap.size w w':=by
 have K0:=Lib.hid ((az w).new w.heap.size rfl 24 #[.int .i64 la,.int .i64 de,.slice aH nH cH,.slice aZ nZ cZ,.int .i64 eh,.int .i64 ez]);go_enter Tryz.func5,Tryz.ntmps5;have t2:=K0.out.c (g:=w.heap.size) (t:=24) (cs:=#[.int .i64 la,.int .i64 de,.slice aH nH cH,.slice aZ nZ cZ,.int .i64 eh,.int .i64 ez]) (by simp) (i:=2) rfl
 have t3:=K0.out.c (g:=w.heap.size) (t:=24) (cs:=#[.int .i64 la,.int .i64 de,.slice aH nH cH,.slice aZ nZ cZ,.int .i64 eh,.int .i64 ez]) (by simp) (i:=3) rfl
 by_cases p1:nH>200
 . have i1:(200:Int)<(nH:Int):=by omega
   go_wp2
   all_goals
    go_ret;exact ⟨dY (by simp [p1]),K0.out.1⟩
 . have i1:¬ (200:Int)<(nH:Int):=by omega
   by_cases p2:nZ>200
   . have i2:(200:Int)<(nZ:Int):=by omega
     go_wp2
     all_goals
      go_ret;exact ⟨dY (by simp [p1,p2,i1,i2]),K0.out.1⟩
   . have i2:¬ (200:Int)<(nZ:Int):=by omega
     go_wp2
     all_goals
      go_ret;exact ⟨dY (by simp [p1,p2,i1,i2]),K0.out.1⟩
