/- The contract of vectors.Rotate, and of Between where no operation fails. -/
import Derived.Test.YtbdlccacamalpaaZVe2
set_option linter.unusedVariables false
set_option linter.unusedSimpArgs false
set_option maxRecDepth 100000
namespace Go.Proofs.Ytbdlccacamalpaa
open Go.RowKit Alm Sx
def roX (X Y:IV) (t u:Int):IV:=uD (uM X (uC t u)) (uM Y (uS t u))
def roY (X Y:IV) (t u:Int):IV:=uA (uM X (uS t u)) (uM Y (uC t u))
def ol:List Nd:=[
 .arg 0,
 .arg 1,
 .arg 2,
 .arg 3,
 .arg 4,
 .arg 5,
 .arg 6,
 .arg 7,
 .app 8 0 [.n 0,.n 1],
 .app 8 0 [.n 2,.n 3],
 .ite (.n 8) (.n 9) (.c 0),
 .app 8 0 [.n 4,.n 5],
 .ite (.n 10) (.n 11) (.c 0),
 .ite (.n 12) (.c 0) (.c 1),
 .bin .leq .i64 (.n 6) (.n 7),
 .bin .geq .i64 (.n 6) (.c (-1099511627776)),
 .bin .leq .i64 (.n 6) (.c 1099511627776),
 .ite (.n 15) (.n 16) (.c 0),
 .ite (.n 14) (.n 17) (.c 0),
 .bin .geq .i64 (.n 7) (.c (-1099511627776)),
 .bin .leq .i64 (.n 7) (.c 1099511627776),
 .ite (.n 19) (.n 20) (.c 0),
 .ite (.n 18) (.n 21) (.c 0),
 .ite (.n 22) (.c 0) (.c 1),
 .ite (.n 13) (.c 1) (.n 23),
 .ite (.n 24) (.c 0) (.c 1),
 .app 6 0 [.n 6,.n 7],
 .app 6 1 [.n 6,.n 7],
 .app 6 2 [.n 6,.n 7],
 .app 5 0 [.n 6,.n 7],
 .app 5 1 [.n 6,.n 7],
 .app 5 2 [.n 6,.n 7],
 .bin .eql .i64 (.n 28) (.c 0),
 .ite (.n 32) (.c 0) (.c 1),
 .ite (.n 32) (.n 31) (.n 28),
 .app 0 0 [.n 0,.n 1,.n 26,.n 27],
 .app 0 1 [.n 0,.n 1,.n 26,.n 27],
 .app 0 2 [.n 0,.n 1,.n 26,.n 27],
 .bin .eql .i64 (.n 34) (.c 0),
 .ite (.n 38) (.c 0) (.c 1),
 .ite (.n 38) (.n 37) (.n 34),
 .app 0 0 [.n 2,.n 3,.n 29,.n 30],
 .app 0 1 [.n 2,.n 3,.n 29,.n 30],
 .app 0 2 [.n 2,.n 3,.n 29,.n 30],
 .bin .eql .i64 (.n 40) (.c 0),
 .ite (.n 44) (.c 0) (.c 1),
 .ite (.n 44) (.n 43) (.n 40),
 .app 2 0 [.n 35,.n 36,.n 41,.n 42],
 .app 2 1 [.n 35,.n 36,.n 41,.n 42],
 .app 2 2 [.n 35,.n 36,.n 41,.n 42],
 .bin .eql .i64 (.n 46) (.c 0),
 .ite (.n 50) (.c 0) (.c 1),
 .ite (.n 50) (.n 49) (.n 46),
 .app 0 0 [.n 0,.n 1,.n 29,.n 30],
 .app 0 1 [.n 0,.n 1,.n 29,.n 30],
 .app 0 2 [.n 0,.n 1,.n 29,.n 30],
 .bin .eql .i64 (.n 52) (.c 0),
 .ite (.n 56) (.c 0) (.c 1),
 .ite (.n 56) (.n 55) (.n 52),
 .app 0 0 [.n 2,.n 3,.n 26,.n 27],
 .app 0 1 [.n 2,.n 3,.n 26,.n 27],
 .app 0 2 [.n 2,.n 3,.n 26,.n 27],
 .bin .eql .i64 (.n 58) (.c 0),
 .ite (.n 62) (.c 0) (.c 1),
 .ite (.n 62) (.n 61) (.n 58),
 .app 1 0 [.n 53,.n 54,.n 59,.n 60],
 .app 1 1 [.n 53,.n 54,.n 59,.n 60],
 .app 1 2 [.n 53,.n 54,.n 59,.n 60],
 .bin .eql .i64 (.n 64) (.c 0),
 .ite (.n 68) (.c 0) (.c 1),
 .ite (.n 68) (.n 67) (.n 64),
 .bin .neq .i64 (.n 70) (.c 0),
 .ite (.n 71) (.c 0) (.c 1),
 .ite (.n 71) (.n 70) (.c 0),
 .ite (.n 71) (.c 0) (.n 47),
 .ite (.n 71) (.c 0) (.n 48),
 .ite (.n 71) (.c 0) (.n 65),
 .ite (.n 71) (.c 0) (.n 66),
 .ite (.n 71) (.c 0) (.n 4),
 .ite (.n 71) (.c 0) (.n 5),
 .ite (.n 24) (.c 1) (.n 73),
 .ite (.n 24) (.c 0) (.n 74),
 .ite (.n 24) (.c 0) (.n 75),
 .ite (.n 24) (.c 0) (.n 76),
 .ite (.n 24) (.c 0) (.n 77),
 .ite (.n 24) (.c 0) (.n 78),
 .ite (.n 24) (.c 0) (.n 79)]
def Uw:List Vc:=[
 ⟨[],.pre 8 [.n 0,.n 1]⟩,
 ⟨[(.n 8,true)],.pre 8 [.n 2,.n 3]⟩,
 ⟨[(.n 10,true)],.pre 8 [.n 4,.n 5]⟩,
 ⟨[(.n 25,true)],.pre 6 [.n 6,.n 7]⟩,
 ⟨[(.n 25,true)],.pre 5 [.n 6,.n 7]⟩,
 ⟨[(.n 25,true)],.pre 0 [.n 0,.n 1,.n 26,.n 27]⟩,
 ⟨[(.n 25,true)],.pre 0 [.n 2,.n 3,.n 29,.n 30]⟩,
 ⟨[(.n 25,true)],.pre 2 [.n 35,.n 36,.n 41,.n 42]⟩,
 ⟨[(.n 25,true)],.pre 0 [.n 0,.n 1,.n 29,.n 30]⟩,
 ⟨[(.n 25,true)],.pre 0 [.n 2,.n 3,.n 26,.n 27]⟩,
 ⟨[(.n 25,true)],.pre 1 [.n 53,.n 54,.n 59,.n 60]⟩]
theorem Uh:whole Try.prog kr 20 40 7 [(true,[some .i64,some .i64,some .i64,some .i64,some .i64,some .i64]),(true,[some .i64,some .i64])]=some (.tup [.agg [.int .i64 (.n 81),.int .i64 (.n 82),.int .i64 (.n 83),.int .i64 (.n 84),.int .i64 (.n 85),.int .i64 (.n 86)],.c (.int .i64 (.n 80))],⟨ol.reverse,Uw.reverse⟩):=by kernel_rfl
theorem TV:wfN ol.reverse=true:=by kernel_rfl
theorem UB (a0 a1 a2 a3 a4 a5 a6 a7:Int) (w:World) (u0:U (a0,a1)) (u1:U (a2,a3)) (u2:U (a4,a5)) (h1:dW a6 a7=true):Calls Try.prog 7 #[.agg #[.int .i64 a0,.int .i64 a1,.int .i64 a2,.int .i64 a3,.int .i64 a4,.int .i64 a5],.agg #[.int .i64 a6,.int .i64 a7]] w fun e w'=>e=.returned (.tuple #[.agg #[.int .i64 (roX ((a0,a1):IV) ((a2,a3):IV) a6 a7).1,.int .i64 (roX ((a0,a1):IV) ((a2,a3):IV) a6 a7).2,.int .i64 (roY ((a0,a1):IV) ((a2,a3):IV) a6 a7).1,.int .i64 (roY ((a0,a1):IV) ((a2,a3):IV) a6 a7).2,.int .i64 a4,.int .i64 a5],.int .i64 0])/\Below w.heap.size w w':=by
 refine Sx.calls (X:=cxB [a0,a1,a2,a3,a4,a5,a6,a7]) iJ (il _) Uh TV (fun v hs=>?_) w
 have e0:v 0=a0:=aj hs 0 rfl;have e1:v 1=a1:=aj hs 1 rfl;have e2:v 2=a2:=aj hs 2 rfl;have e3:v 3=a3:=aj hs 3 rfl;have e4:v 4=a4:=aj hs 4 rfl;have e5:v 5=a5:=aj hs 5 rfl;have e6:v 6=a6:=aj hs 6 rfl;have e7:v 7=a7:=aj hs 7 rfl;have P0:((v 0,v 1):IV)=(a0,a1):=by rw [e0,e1]
 have U0:U (v 0,v 1):=by rw [P0];exact u0
 have F0:fxV (v 0) (v 1)=true:=za U0;have P2:((v 2,v 3):IV)=(a2,a3):=by rw [e2,e3]
 have U2:U (v 2,v 3):=by rw [P2];exact u1
 have F2:fxV (v 2) (v 3)=true:=za U2;have P4:((v 4,v 5):IV)=(a4,a5):=by rw [e4,e5]
 have U4:U (v 4,v 5):=by rw [P4];exact u2
 have F4:fxV (v 4) (v 5)=true:=za U4;have A6:dW (v 6) (v 7)=true:=by rw [e6,e7];exact h1
 have k8:v 8=1:=by have h:v 8=b2i (fxV (v 0) (v 1)):=aj hs 8 rfl;rw [h,F0];rfl
 have k9:v 9=1:=by have h:v 9=b2i (fxV (v 2) (v 3)):=aj hs 9 rfl;rw [h,F2];rfl
 have k11:v 11=1:=by have h:v 11=b2i (fxV (v 4) (v 5)):=aj hs 11 rfl;rw [h,F4];rfl
 have q6:=(fw _ _).1 A6;have k14:v 14=1:=by have h:v 14=b2i (decide (v 6<=v 7)):=aj hs 14 rfl;rw [h,decide_eq_true (by omega)];rfl
 have k15:v 15=1:=by have h:v 15=b2i (decide (v 6>=-1099511627776)):=aj hs 15 rfl;rw [h,decide_eq_true (by omega)];rfl
 have k16:v 16=1:=by have h:v 16=b2i (decide (v 6<=1099511627776)):=aj hs 16 rfl;rw [h,decide_eq_true (by omega)];rfl
 have k19:v 19=1:=by have h:v 19=b2i (decide (v 7>=-1099511627776)):=aj hs 19 rfl;rw [h,decide_eq_true (by omega)];rfl
 have k20:v 20=1:=by have h:v 20=b2i (decide (v 7<=1099511627776)):=aj hs 20 rfl;rw [h,decide_eq_true (by omega)];rfl
 have e26:v 26=(az 6 [v 6,v 7]).getD 0 0:=aj hs 26 rfl;have e27:v 27=(az 6 [v 6,v 7]).getD 1 0:=aj hs 27 rfl;have P26:((v 26,v 27):IV)=uC a6 a7:=by rw [e26,e27,e6,e7];rfl
 have U26:U (v 26,v 27):=by rw [P26];exact U_C _ _
 have e29:v 29=(az 5 [v 6,v 7]).getD 0 0:=aj hs 29 rfl;have e30:v 30=(az 5 [v 6,v 7]).getD 1 0:=aj hs 30 rfl;have P29:((v 29,v 30):IV)=uS a6 a7:=by rw [e29,e30,e6,e7];rfl
 have U29:U (v 29,v 30):=by rw [P29];exact U_S _ _
 have e35:v 35=(az 0 [v 0,v 1,v 26,v 27]).getD 0 0:=aj hs 35 rfl;have e36:v 36=(az 0 [v 0,v 1,v 26,v 27]).getD 1 0:=aj hs 36 rfl;have P35:((v 35,v 36):IV)=uM (v 0,v 1) (v 26,v 27):=by rw [e35,e36];rfl
 have U35:U (v 35,v 36):=by rw [P35];exact (U_M U0 U26).2.2
 have e37:v 37=(az 0 [v 0,v 1,v 26,v 27]).getD 2 0:=aj hs 37 rfl;have E37:v 37=0:=e37.trans (U_M U0 U26).2.1;have e41:v 41=(az 0 [v 2,v 3,v 29,v 30]).getD 0 0:=aj hs 41 rfl;have e42:v 42=(az 0 [v 2,v 3,v 29,v 30]).getD 1 0:=aj hs 42 rfl;have P41:((v 41,v 42):IV)=uM (v 2,v 3) (v 29,v 30):=by rw [e41,e42];rfl
 have U41:U (v 41,v 42):=by rw [P41];exact (U_M U2 U29).2.2
 have e43:v 43=(az 0 [v 2,v 3,v 29,v 30]).getD 2 0:=aj hs 43 rfl;have E43:v 43=0:=e43.trans (U_M U2 U29).2.1;have e47:v 47=(az 2 [v 35,v 36,v 41,v 42]).getD 0 0:=aj hs 47 rfl;have e48:v 48=(az 2 [v 35,v 36,v 41,v 42]).getD 1 0:=aj hs 48 rfl;have P47:((v 47,v 48):IV)=uD (v 35,v 36) (v 41,v 42):=by rw [e47,e48];rfl
 have F47:fxV (v 47) (v 48)=true:=by have:=(U_D U35 U41).2.2;rw [<-P47] at this;exact this
 have e49:v 49=(az 2 [v 35,v 36,v 41,v 42]).getD 2 0:=aj hs 49 rfl;have E49:v 49=0:=e49.trans (U_D U35 U41).2.1;have e53:v 53=(az 0 [v 0,v 1,v 29,v 30]).getD 0 0:=aj hs 53 rfl;have e54:v 54=(az 0 [v 0,v 1,v 29,v 30]).getD 1 0:=aj hs 54 rfl;have P53:((v 53,v 54):IV)=uM (v 0,v 1) (v 29,v 30):=by rw [e53,e54];rfl
 have U53:U (v 53,v 54):=by rw [P53];exact (U_M U0 U29).2.2
 have e55:v 55=(az 0 [v 0,v 1,v 29,v 30]).getD 2 0:=aj hs 55 rfl;have E55:v 55=0:=e55.trans (U_M U0 U29).2.1;have e59:v 59=(az 0 [v 2,v 3,v 26,v 27]).getD 0 0:=aj hs 59 rfl;have e60:v 60=(az 0 [v 2,v 3,v 26,v 27]).getD 1 0:=aj hs 60 rfl;have P59:((v 59,v 60):IV)=uM (v 2,v 3) (v 26,v 27):=by rw [e59,e60];rfl
 have U59:U (v 59,v 60):=by rw [P59];exact (U_M U2 U26).2.2
 have e61:v 61=(az 0 [v 2,v 3,v 26,v 27]).getD 2 0:=aj hs 61 rfl;have E61:v 61=0:=e61.trans (U_M U2 U26).2.1;have e65:v 65=(az 1 [v 53,v 54,v 59,v 60]).getD 0 0:=aj hs 65 rfl;have e66:v 66=(az 1 [v 53,v 54,v 59,v 60]).getD 1 0:=aj hs 66 rfl;have P65:((v 65,v 66):IV)=uA (v 53,v 54) (v 59,v 60):=by rw [e65,e66];rfl
 have F65:fxV (v 65) (v 66)=true:=by have:=(U_A U53 U59).2.2;rw [<-P65] at this;exact this
 have e67:v 67=(az 1 [v 53,v 54,v 59,v 60]).getD 2 0:=aj hs 67 rfl;have E67:v 67=0:=e67.trans (U_A U53 U59).2.1;have C47:((v 47,v 48):IV)=roX ((a0,a1):IV) ((a2,a3):IV) a6 a7:=by rw [P47,P35,P41,P2,P0,P26,P29];rfl
 have C65:((v 65,v 66):IV)=roY ((a0,a1):IV) ((a2,a3):IV) a6 a7:=by rw [P65,P53,P59,P2,P0,P26,P29];rfl
 have r81:v 81=(roX ((a0,a1):IV) ((a2,a3):IV) a6 a7).1:=(bD (X:=cxB [a0,a1,a2,a3,a4,a5,a6,a7]) (v:=v) (l:=ol) (bg _) hs (k:=81) (j:=47) (ps:=[(8,.c 1),(9,.c 1),(11,.c 1),(14,.c 1),(15,.c 1),(16,.c 1),(19,.c 1),(20,.c 1),(37,.c 0),(43,.c 0),(49,.c 0),(55,.c 0),(61,.c 0),(67,.c 0)]) (aa k8 (aa k9 (aa k11 (aa k14 (aa k15 (aa k16 (aa k19 (aa k20 (aa E37 (aa E43 (aa E49 (aa E55 (aa E61 (aa E67 bA)))))))))))))) (by kernel_rfl)).trans (congrArg Prod.fst C47)
 have r82:v 82=(roX ((a0,a1):IV) ((a2,a3):IV) a6 a7).2:=(bD (X:=cxB [a0,a1,a2,a3,a4,a5,a6,a7]) (v:=v) (l:=ol) (bg _) hs (k:=82) (j:=48) (ps:=[(8,.c 1),(9,.c 1),(11,.c 1),(14,.c 1),(15,.c 1),(16,.c 1),(19,.c 1),(20,.c 1),(37,.c 0),(43,.c 0),(49,.c 0),(55,.c 0),(61,.c 0),(67,.c 0)]) (aa k8 (aa k9 (aa k11 (aa k14 (aa k15 (aa k16 (aa k19 (aa k20 (aa E37 (aa E43 (aa E49 (aa E55 (aa E61 (aa E67 bA)))))))))))))) (by kernel_rfl)).trans (congrArg Prod.snd C47)
 have r83:v 83=(roY ((a0,a1):IV) ((a2,a3):IV) a6 a7).1:=(bD (X:=cxB [a0,a1,a2,a3,a4,a5,a6,a7]) (v:=v) (l:=ol) (bg _) hs (k:=83) (j:=65) (ps:=[(8,.c 1),(9,.c 1),(11,.c 1),(14,.c 1),(15,.c 1),(16,.c 1),(19,.c 1),(20,.c 1),(37,.c 0),(43,.c 0),(49,.c 0),(55,.c 0),(61,.c 0),(67,.c 0)]) (aa k8 (aa k9 (aa k11 (aa k14 (aa k15 (aa k16 (aa k19 (aa k20 (aa E37 (aa E43 (aa E49 (aa E55 (aa E61 (aa E67 bA)))))))))))))) (by kernel_rfl)).trans (congrArg Prod.fst C65)
 have r84:v 84=(roY ((a0,a1):IV) ((a2,a3):IV) a6 a7).2:=(bD (X:=cxB [a0,a1,a2,a3,a4,a5,a6,a7]) (v:=v) (l:=ol) (bg _) hs (k:=84) (j:=66) (ps:=[(8,.c 1),(9,.c 1),(11,.c 1),(14,.c 1),(15,.c 1),(16,.c 1),(19,.c 1),(20,.c 1),(37,.c 0),(43,.c 0),(49,.c 0),(55,.c 0),(61,.c 0),(67,.c 0)]) (aa k8 (aa k9 (aa k11 (aa k14 (aa k15 (aa k16 (aa k19 (aa k20 (aa E37 (aa E43 (aa E49 (aa E55 (aa E61 (aa E67 bA)))))))))))))) (by kernel_rfl)).trans (congrArg Prod.snd C65)
 have r85:v 85=a4:=(bD (X:=cxB [a0,a1,a2,a3,a4,a5,a6,a7]) (v:=v) (l:=ol) (bg _) hs (k:=85) (j:=4) (ps:=[(8,.c 1),(9,.c 1),(11,.c 1),(14,.c 1),(15,.c 1),(16,.c 1),(19,.c 1),(20,.c 1),(37,.c 0),(43,.c 0),(49,.c 0),(55,.c 0),(61,.c 0),(67,.c 0)]) (aa k8 (aa k9 (aa k11 (aa k14 (aa k15 (aa k16 (aa k19 (aa k20 (aa E37 (aa E43 (aa E49 (aa E55 (aa E61 (aa E67 bA)))))))))))))) (by kernel_rfl)).trans (e4)
 have r86:v 86=a5:=(bD (X:=cxB [a0,a1,a2,a3,a4,a5,a6,a7]) (v:=v) (l:=ol) (bg _) hs (k:=86) (j:=5) (ps:=[(8,.c 1),(9,.c 1),(11,.c 1),(14,.c 1),(15,.c 1),(16,.c 1),(19,.c 1),(20,.c 1),(37,.c 0),(43,.c 0),(49,.c 0),(55,.c 0),(61,.c 0),(67,.c 0)]) (aa k8 (aa k9 (aa k11 (aa k14 (aa k15 (aa k16 (aa k19 (aa k20 (aa E37 (aa E43 (aa E49 (aa E55 (aa E61 (aa E67 bA)))))))))))))) (by kernel_rfl)).trans (e5)
 have rE:v 80=0:=bv (X:=cxB [a0,a1,a2,a3,a4,a5,a6,a7]) (v:=v) (l:=ol) (bg _) hs (k:=80) (r:=.c 0) (ps:=[(8,.c 1),(9,.c 1),(11,.c 1),(14,.c 1),(15,.c 1),(16,.c 1),(19,.c 1),(20,.c 1),(37,.c 0),(43,.c 0),(49,.c 0),(55,.c 0),(61,.c 0),(67,.c 0)]) (nz:=[]) (aa k8 (aa k9 (aa k11 (aa k14 (aa k15 (aa k16 (aa k19 (aa k20 (aa E37 (aa E43 (aa E49 (aa E55 (aa E61 (aa E67 bA)))))))))))))) bM (by kernel_rfl)
 refine ⟨jF hs (fs:=[((.n 8,true),(.n 0,.n 1)),((.n 8,true),(.n 2,.n 3)),((.n 8,true),(.n 4,.n 5)),((.n 10,true),(.n 0,.n 1)),((.n 10,true),(.n 2,.n 3)),((.n 10,true),(.n 4,.n 5)),((.n 25,true),(.n 0,.n 1)),((.n 25,true),(.n 2,.n 3)),((.n 25,true),(.n 4,.n 5))]) (rs:=[((.n 25,true),(.n 6,.n 7))]) (fun e he=>by simp only [List.mem_cons,List.not_mem_nil,or_false] at he;rcases he with rfl|rfl|rfl|rfl|rfl|rfl|rfl|rfl|rfl<;>intro _<;>assumption) (fun e he=>by simp only [List.mem_cons,List.not_mem_nil,or_false] at he;rcases he with rfl<;>intro _<;>assumption) (by kernel_rfl),?_⟩
 intro x hx0;have hx':=oq (v:=v) (by rfl) hx0
 rw [hx'];show Value.tuple #[.agg #[.int .i64 (v 81),.int .i64 (v 82),.int .i64 (v 83),.int .i64 (v 84),.int .i64 (v 85),.int .i64 (v 86)],.int .i64 (v 80)]=_;rw [r81,r82,r83,r84,r85,r86,rE]
theorem Vb (a0 a1 a2 a3 a4 a5 a6 a7 a8 a9 a10 a11:Int) (w:World) (f0:fxV a0 a1=true) (f1:fxV a2 a3=true) (f2:fxV a4 a5=true) (f3:fxV a6 a7=true) (f4:fxV a8 a9=true) (f5:fxV a10 a11=true) (m26:er0 ((a2,a3):IV) ((a10,a11):IV)=0) (m29:er0 ((a4,a5):IV) ((a8,a9):IV)=0) (m35:er2 (uM ((a2,a3):IV) ((a10,a11):IV)) (uM ((a4,a5):IV) ((a8,a9):IV))=0) (m41:er0 ((a4,a5):IV) ((a6,a7):IV)=0) (m47:er0 ((a0,a1):IV) ((a10,a11):IV)=0) (m53:er2 (uM ((a4,a5):IV) ((a6,a7):IV)) (uM ((a0,a1):IV) ((a10,a11):IV))=0) (m59:er0 ((a0,a1):IV) ((a8,a9):IV)=0) (m65:er0 ((a2,a3):IV) ((a6,a7):IV)=0) (m71:er2 (uM ((a0,a1):IV) ((a8,a9):IV)) (uM ((a2,a3):IV) ((a6,a7):IV))=0) (m113:er0 ((a0,a1):IV) ((a6,a7):IV)=0) (m119:er0 ((a2,a3):IV) ((a8,a9):IV)=0) (m125:er1 (uM ((a0,a1):IV) ((a6,a7):IV)) (uM ((a2,a3):IV) ((a8,a9):IV))=0) (m131:er0 ((a4,a5):IV) ((a10,a11):IV)=0) (m137:er1 (dt2 ((a0,a1):IV) ((a2,a3):IV) ((a6,a7):IV) ((a8,a9):IV)) (uM ((a4,a5):IV) ((a10,a11):IV))=0) (g0:er3 (crX ((a2,a3):IV) ((a4,a5):IV) ((a8,a9):IV) ((a10,a11):IV))=0) (g1:er3 (crX ((a4,a5):IV) ((a0,a1):IV) ((a10,a11):IV) ((a6,a7):IV))=0) (g2:er1 (uQ (crX ((a2,a3):IV) ((a4,a5):IV) ((a8,a9):IV) ((a10,a11):IV))) (uQ (crX ((a4,a5):IV) ((a0,a1):IV) ((a10,a11):IV) ((a6,a7):IV)))=0) (g3:er3 (crX ((a0,a1):IV) ((a2,a3):IV) ((a6,a7):IV) ((a8,a9):IV))=0) (g4:er1 (sm2 (crX ((a2,a3):IV) ((a4,a5):IV) ((a8,a9):IV) ((a10,a11):IV)) (crX ((a4,a5):IV) ((a0,a1):IV) ((a10,a11):IV) ((a6,a7):IV))) (uQ (crX ((a0,a1):IV) ((a2,a3):IV) ((a6,a7):IV) ((a8,a9):IV)))=0) (g5:er4 (smI (crX ((a2,a3):IV) ((a4,a5):IV) ((a8,a9):IV) ((a10,a11):IV)) (crX ((a4,a5):IV) ((a0,a1):IV) ((a10,a11):IV) ((a6,a7):IV)) (crX ((a0,a1):IV) ((a2,a3):IV) ((a6,a7):IV) ((a8,a9):IV)))=0) (ho:bY (uR (smI (crX ((a2,a3):IV) ((a4,a5):IV) ((a8,a9):IV) ((a10,a11):IV)) (crX ((a4,a5):IV) ((a0,a1):IV) ((a10,a11):IV) ((a6,a7):IV)) (crX ((a0,a1):IV) ((a2,a3):IV) ((a6,a7):IV) ((a8,a9):IV)))).1 (uR (smI (crX ((a2,a3):IV) ((a4,a5):IV) ((a8,a9):IV) ((a10,a11):IV)) (crX ((a4,a5):IV) ((a0,a1):IV) ((a10,a11):IV) ((a6,a7):IV)) (crX ((a0,a1):IV) ((a2,a3):IV) ((a6,a7):IV) ((a8,a9):IV)))).2 (dtI ((a0,a1):IV) ((a2,a3):IV) ((a4,a5):IV) ((a6,a7):IV) ((a8,a9):IV) ((a10,a11):IV)).1 (dtI ((a0,a1):IV) ((a2,a3):IV) ((a4,a5):IV) ((a6,a7):IV) ((a8,a9):IV) ((a10,a11):IV)).2=false):Calls Try.prog 8 #[.agg #[.int .i64 a0,.int .i64 a1,.int .i64 a2,.int .i64 a3,.int .i64 a4,.int .i64 a5],.agg #[.int .i64 a6,.int .i64 a7,.int .i64 a8,.int .i64 a9,.int .i64 a10,.int .i64 a11]] w fun e w'=>e=.returned (.tuple #[.agg #[.int .i64 (ay (uR (smI (crX ((a2,a3):IV) ((a4,a5):IV) ((a8,a9):IV) ((a10,a11):IV)) (crX ((a4,a5):IV) ((a0,a1):IV) ((a10,a11):IV) ((a6,a7):IV)) (crX ((a0,a1):IV) ((a2,a3):IV) ((a6,a7):IV) ((a8,a9):IV)))).1 (uR (smI (crX ((a2,a3):IV) ((a4,a5):IV) ((a8,a9):IV) ((a10,a11):IV)) (crX ((a4,a5):IV) ((a0,a1):IV) ((a10,a11):IV) ((a6,a7):IV)) (crX ((a0,a1):IV) ((a2,a3):IV) ((a6,a7):IV) ((a8,a9):IV)))).2 (dtI ((a0,a1):IV) ((a2,a3):IV) ((a4,a5):IV) ((a6,a7):IV) ((a8,a9):IV) ((a10,a11):IV)).1 (dtI ((a0,a1):IV) ((a2,a3):IV) ((a4,a5):IV) ((a6,a7):IV) ((a8,a9):IV) ((a10,a11):IV)).2),.int .i64 (aU (uR (smI (crX ((a2,a3):IV) ((a4,a5):IV) ((a8,a9):IV) ((a10,a11):IV)) (crX ((a4,a5):IV) ((a0,a1):IV) ((a10,a11):IV) ((a6,a7):IV)) (crX ((a0,a1):IV) ((a2,a3):IV) ((a6,a7):IV) ((a8,a9):IV)))).1 (uR (smI (crX ((a2,a3):IV) ((a4,a5):IV) ((a8,a9):IV) ((a10,a11):IV)) (crX ((a4,a5):IV) ((a0,a1):IV) ((a10,a11):IV) ((a6,a7):IV)) (crX ((a0,a1):IV) ((a2,a3):IV) ((a6,a7):IV) ((a8,a9):IV)))).2 (dtI ((a0,a1):IV) ((a2,a3):IV) ((a4,a5):IV) ((a6,a7):IV) ((a8,a9):IV) ((a10,a11):IV)).1 (dtI ((a0,a1):IV) ((a2,a3):IV) ((a4,a5):IV) ((a6,a7):IV) ((a8,a9):IV) ((a10,a11):IV)).2)],.int .i64 0])/\Below w.heap.size w w':=by
 refine Sx.calls (X:=cxB [a0,a1,a2,a3,a4,a5,a6,a7,a8,a9,a10,a11]) iJ (il _) Ut Uj (fun v hs=>?_) w
 have e0:v 0=a0:=aj hs 0 rfl;have e1:v 1=a1:=aj hs 1 rfl;have e2:v 2=a2:=aj hs 2 rfl;have e3:v 3=a3:=aj hs 3 rfl;have e4:v 4=a4:=aj hs 4 rfl;have e5:v 5=a5:=aj hs 5 rfl;have e6:v 6=a6:=aj hs 6 rfl;have e7:v 7=a7:=aj hs 7 rfl;have e8:v 8=a8:=aj hs 8 rfl;have e9:v 9=a9:=aj hs 9 rfl;have e10:v 10=a10:=aj hs 10 rfl;have e11:v 11=a11:=aj hs 11 rfl;have P0:((v 0,v 1):IV)=(a0,a1):=by rw [e0,e1]
 have F0:fxV (v 0) (v 1)=true:=by rw [e0,e1];exact f0
 have P2:((v 2,v 3):IV)=(a2,a3):=by rw [e2,e3]
 have F2:fxV (v 2) (v 3)=true:=by rw [e2,e3];exact f1
 have P4:((v 4,v 5):IV)=(a4,a5):=by rw [e4,e5]
 have F4:fxV (v 4) (v 5)=true:=by rw [e4,e5];exact f2
 have P6:((v 6,v 7):IV)=(a6,a7):=by rw [e6,e7]
 have F6:fxV (v 6) (v 7)=true:=by rw [e6,e7];exact f3
 have P8:((v 8,v 9):IV)=(a8,a9):=by rw [e8,e9]
 have F8:fxV (v 8) (v 9)=true:=by rw [e8,e9];exact f4
 have P10:((v 10,v 11):IV)=(a10,a11):=by rw [e10,e11]
 have F10:fxV (v 10) (v 11)=true:=by rw [e10,e11];exact f5
 have k12:v 12=1:=by have h:v 12=b2i (fxV (v 0) (v 1)):=aj hs 12 rfl;rw [h,F0];rfl
 have k13:v 13=1:=by have h:v 13=b2i (fxV (v 2) (v 3)):=aj hs 13 rfl;rw [h,F2];rfl
 have k15:v 15=1:=by have h:v 15=b2i (fxV (v 4) (v 5)):=aj hs 15 rfl;rw [h,F4];rfl
 have k18:v 18=1:=by have h:v 18=b2i (fxV (v 6) (v 7)):=aj hs 18 rfl;rw [h,F6];rfl
 have k19:v 19=1:=by have h:v 19=b2i (fxV (v 8) (v 9)):=aj hs 19 rfl;rw [h,F8];rfl
 have k21:v 21=1:=by have h:v 21=b2i (fxV (v 10) (v 11)):=aj hs 21 rfl;rw [h,F10];rfl
 have e26:v 26=(az 0 [v 2,v 3,v 10,v 11]).getD 0 0:=aj hs 26 rfl;have e27:v 27=(az 0 [v 2,v 3,v 10,v 11]).getD 1 0:=aj hs 27 rfl;have e28:v 28=(az 0 [v 2,v 3,v 10,v 11]).getD 2 0:=aj hs 28 rfl;have P26:((v 26,v 27):IV)=uM (v 2,v 3) (v 10,v 11):=by rw [e26,e27];rfl
 have F26:fxV (v 26) (v 27)=true:=by have:=wB (v 2,v 3) (v 10,v 11);rw [<-P26] at this;exact this
 have e29:v 29=(az 0 [v 4,v 5,v 8,v 9]).getD 0 0:=aj hs 29 rfl;have e30:v 30=(az 0 [v 4,v 5,v 8,v 9]).getD 1 0:=aj hs 30 rfl;have e31:v 31=(az 0 [v 4,v 5,v 8,v 9]).getD 2 0:=aj hs 31 rfl;have P29:((v 29,v 30):IV)=uM (v 4,v 5) (v 8,v 9):=by rw [e29,e30];rfl
 have F29:fxV (v 29) (v 30)=true:=by have:=wB (v 4,v 5) (v 8,v 9);rw [<-P29] at this;exact this
 have e35:v 35=(az 2 [v 26,v 27,v 29,v 30]).getD 0 0:=aj hs 35 rfl;have e36:v 36=(az 2 [v 26,v 27,v 29,v 30]).getD 1 0:=aj hs 36 rfl;have e37:v 37=(az 2 [v 26,v 27,v 29,v 30]).getD 2 0:=aj hs 37 rfl;have P35:((v 35,v 36):IV)=uD (v 26,v 27) (v 29,v 30):=by rw [e35,e36];rfl
 have F35:fxV (v 35) (v 36)=true:=by have:=En (v 26,v 27) (v 29,v 30);rw [<-P35] at this;exact this
 have B26:((v 26,v 27):IV)=uM ((a2,a3):IV) ((a10,a11):IV):=by rw [P26,P2,P10]
 have B29:((v 29,v 30):IV)=uM ((a4,a5):IV) ((a8,a9):IV):=by rw [P29,P4,P8]
 have C35:((v 35,v 36):IV)=crX ((a2,a3):IV) ((a4,a5):IV) ((a8,a9):IV) ((a10,a11):IV):=by rw [P35,B26,B29];rfl
 have E28:v 28=0:=by have q:v 28=er0 (v 2,v 3) (v 10,v 11):=e28;rw [q,P2,P10];exact m26
 have E31:v 31=0:=by have q:v 31=er0 (v 4,v 5) (v 8,v 9):=e31;rw [q,P4,P8];exact m29
 have E37:v 37=0:=by have q:v 37=er2 (v 26,v 27) (v 29,v 30):=e37;rw [q,B26,B29];exact m35
 have e41:v 41=(az 0 [v 4,v 5,v 6,v 7]).getD 0 0:=aj hs 41 rfl;have e42:v 42=(az 0 [v 4,v 5,v 6,v 7]).getD 1 0:=aj hs 42 rfl;have e43:v 43=(az 0 [v 4,v 5,v 6,v 7]).getD 2 0:=aj hs 43 rfl;have P41:((v 41,v 42):IV)=uM (v 4,v 5) (v 6,v 7):=by rw [e41,e42];rfl
 have F41:fxV (v 41) (v 42)=true:=by have:=wB (v 4,v 5) (v 6,v 7);rw [<-P41] at this;exact this
 have e47:v 47=(az 0 [v 0,v 1,v 10,v 11]).getD 0 0:=aj hs 47 rfl;have e48:v 48=(az 0 [v 0,v 1,v 10,v 11]).getD 1 0:=aj hs 48 rfl;have e49:v 49=(az 0 [v 0,v 1,v 10,v 11]).getD 2 0:=aj hs 49 rfl;have P47:((v 47,v 48):IV)=uM (v 0,v 1) (v 10,v 11):=by rw [e47,e48];rfl
 have F47:fxV (v 47) (v 48)=true:=by have:=wB (v 0,v 1) (v 10,v 11);rw [<-P47] at this;exact this
 have e53:v 53=(az 2 [v 41,v 42,v 47,v 48]).getD 0 0:=aj hs 53 rfl;have e54:v 54=(az 2 [v 41,v 42,v 47,v 48]).getD 1 0:=aj hs 54 rfl;have e55:v 55=(az 2 [v 41,v 42,v 47,v 48]).getD 2 0:=aj hs 55 rfl;have P53:((v 53,v 54):IV)=uD (v 41,v 42) (v 47,v 48):=by rw [e53,e54];rfl
 have F53:fxV (v 53) (v 54)=true:=by have:=En (v 41,v 42) (v 47,v 48);rw [<-P53] at this;exact this
 have B41:((v 41,v 42):IV)=uM ((a4,a5):IV) ((a6,a7):IV):=by rw [P41,P4,P6]
 have B47:((v 47,v 48):IV)=uM ((a0,a1):IV) ((a10,a11):IV):=by rw [P47,P0,P10]
 have C53:((v 53,v 54):IV)=crX ((a4,a5):IV) ((a0,a1):IV) ((a10,a11):IV) ((a6,a7):IV):=by rw [P53,B41,B47];rfl
 have E43:v 43=0:=by have q:v 43=er0 (v 4,v 5) (v 6,v 7):=e43;rw [q,P4,P6];exact m41
 have E49:v 49=0:=by have q:v 49=er0 (v 0,v 1) (v 10,v 11):=e49;rw [q,P0,P10];exact m47
 have E55:v 55=0:=by have q:v 55=er2 (v 41,v 42) (v 47,v 48):=e55;rw [q,B41,B47];exact m53
 have e59:v 59=(az 0 [v 0,v 1,v 8,v 9]).getD 0 0:=aj hs 59 rfl;have e60:v 60=(az 0 [v 0,v 1,v 8,v 9]).getD 1 0:=aj hs 60 rfl;have e61:v 61=(az 0 [v 0,v 1,v 8,v 9]).getD 2 0:=aj hs 61 rfl;have P59:((v 59,v 60):IV)=uM (v 0,v 1) (v 8,v 9):=by rw [e59,e60];rfl
 have F59:fxV (v 59) (v 60)=true:=by have:=wB (v 0,v 1) (v 8,v 9);rw [<-P59] at this;exact this
 have e65:v 65=(az 0 [v 2,v 3,v 6,v 7]).getD 0 0:=aj hs 65 rfl;have e66:v 66=(az 0 [v 2,v 3,v 6,v 7]).getD 1 0:=aj hs 66 rfl;have e67:v 67=(az 0 [v 2,v 3,v 6,v 7]).getD 2 0:=aj hs 67 rfl;have P65:((v 65,v 66):IV)=uM (v 2,v 3) (v 6,v 7):=by rw [e65,e66];rfl
 have F65:fxV (v 65) (v 66)=true:=by have:=wB (v 2,v 3) (v 6,v 7);rw [<-P65] at this;exact this
 have e71:v 71=(az 2 [v 59,v 60,v 65,v 66]).getD 0 0:=aj hs 71 rfl;have e72:v 72=(az 2 [v 59,v 60,v 65,v 66]).getD 1 0:=aj hs 72 rfl;have e73:v 73=(az 2 [v 59,v 60,v 65,v 66]).getD 2 0:=aj hs 73 rfl;have P71:((v 71,v 72):IV)=uD (v 59,v 60) (v 65,v 66):=by rw [e71,e72];rfl
 have F71:fxV (v 71) (v 72)=true:=by have:=En (v 59,v 60) (v 65,v 66);rw [<-P71] at this;exact this
 have B59:((v 59,v 60):IV)=uM ((a0,a1):IV) ((a8,a9):IV):=by rw [P59,P0,P8]
 have B65:((v 65,v 66):IV)=uM ((a2,a3):IV) ((a6,a7):IV):=by rw [P65,P2,P6]
 have C71:((v 71,v 72):IV)=crX ((a0,a1):IV) ((a2,a3):IV) ((a6,a7):IV) ((a8,a9):IV):=by rw [P71,B59,B65];rfl
 have E61:v 61=0:=by have q:v 61=er0 (v 0,v 1) (v 8,v 9):=e61;rw [q,P0,P8];exact m59
 have E67:v 67=0:=by have q:v 67=er0 (v 2,v 3) (v 6,v 7):=e67;rw [q,P2,P6];exact m65
 have E73:v 73=0:=by have q:v 73=er2 (v 59,v 60) (v 65,v 66):=e73;rw [q,B59,B65];exact m71
 have e77:v 77=(az 3 [v 35,v 36]).getD 0 0:=aj hs 77 rfl;have e78:v 78=(az 3 [v 35,v 36]).getD 1 0:=aj hs 78 rfl;have e79:v 79=(az 3 [v 35,v 36]).getD 2 0:=aj hs 79 rfl;have P77:((v 77,v 78):IV)=uQ (v 35,v 36):=by rw [e77,e78];rfl
 have F77:fxV (v 77) (v 78)=true:=by have:=Ja (v 35,v 36);rw [<-P77] at this;exact this
 have e83:v 83=(az 3 [v 53,v 54]).getD 0 0:=aj hs 83 rfl;have e84:v 84=(az 3 [v 53,v 54]).getD 1 0:=aj hs 84 rfl;have e85:v 85=(az 3 [v 53,v 54]).getD 2 0:=aj hs 85 rfl;have P83:((v 83,v 84):IV)=uQ (v 53,v 54):=by rw [e83,e84];rfl
 have F83:fxV (v 83) (v 84)=true:=by have:=Ja (v 53,v 54);rw [<-P83] at this;exact this
 have e89:v 89=(az 1 [v 77,v 78,v 83,v 84]).getD 0 0:=aj hs 89 rfl;have e90:v 90=(az 1 [v 77,v 78,v 83,v 84]).getD 1 0:=aj hs 90 rfl;have e91:v 91=(az 1 [v 77,v 78,v 83,v 84]).getD 2 0:=aj hs 91 rfl;have P89:((v 89,v 90):IV)=uA (v 77,v 78) (v 83,v 84):=by rw [e89,e90];rfl
 have F89:fxV (v 89) (v 90)=true:=by have:=oO (v 77,v 78) (v 83,v 84);rw [<-P89] at this;exact this
 have e95:v 95=(az 3 [v 71,v 72]).getD 0 0:=aj hs 95 rfl;have e96:v 96=(az 3 [v 71,v 72]).getD 1 0:=aj hs 96 rfl;have e97:v 97=(az 3 [v 71,v 72]).getD 2 0:=aj hs 97 rfl;have P95:((v 95,v 96):IV)=uQ (v 71,v 72):=by rw [e95,e96];rfl
 have F95:fxV (v 95) (v 96)=true:=by have:=Ja (v 71,v 72);rw [<-P95] at this;exact this
 have e101:v 101=(az 1 [v 89,v 90,v 95,v 96]).getD 0 0:=aj hs 101 rfl;have e102:v 102=(az 1 [v 89,v 90,v 95,v 96]).getD 1 0:=aj hs 102 rfl;have e103:v 103=(az 1 [v 89,v 90,v 95,v 96]).getD 2 0:=aj hs 103 rfl;have P101:((v 101,v 102):IV)=uA (v 89,v 90) (v 95,v 96):=by rw [e101,e102];rfl
 have F101:fxV (v 101) (v 102)=true:=by have:=oO (v 89,v 90) (v 95,v 96);rw [<-P101] at this;exact this
 have e107:v 107=(az 4 [v 101,v 102]).getD 0 0:=aj hs 107 rfl;have e108:v 108=(az 4 [v 101,v 102]).getD 1 0:=aj hs 108 rfl;have e109:v 109=(az 4 [v 101,v 102]).getD 2 0:=aj hs 109 rfl;have P107:((v 107,v 108):IV)=uR (v 101,v 102):=by rw [e107,e108];rfl
 have F107:fxV (v 107) (v 108)=true:=by have:=Jd (v 101,v 102);rw [<-P107] at this;exact this
 have B77:((v 77,v 78):IV)=uQ (crX ((a2,a3):IV) ((a4,a5):IV) ((a8,a9):IV) ((a10,a11):IV)):=by rw [P77,C35]
 have B83:((v 83,v 84):IV)=uQ (crX ((a4,a5):IV) ((a0,a1):IV) ((a10,a11):IV) ((a6,a7):IV)):=by rw [P83,C53]
 have B95:((v 95,v 96):IV)=uQ (crX ((a0,a1):IV) ((a2,a3):IV) ((a6,a7):IV) ((a8,a9):IV)):=by rw [P95,C71]
 have B89:((v 89,v 90):IV)=sm2 (crX ((a2,a3):IV) ((a4,a5):IV) ((a8,a9):IV) ((a10,a11):IV)) (crX ((a4,a5):IV) ((a0,a1):IV) ((a10,a11):IV) ((a6,a7):IV)):=by rw [P89,B77,B83];rfl
 have B101:((v 101,v 102):IV)=smI (crX ((a2,a3):IV) ((a4,a5):IV) ((a8,a9):IV) ((a10,a11):IV)) (crX ((a4,a5):IV) ((a0,a1):IV) ((a10,a11):IV) ((a6,a7):IV)) (crX ((a0,a1):IV) ((a2,a3):IV) ((a6,a7):IV) ((a8,a9):IV)):=by rw [P101,B89,B95];rfl
 have B107:((v 107,v 108):IV)=uR (smI (crX ((a2,a3):IV) ((a4,a5):IV) ((a8,a9):IV) ((a10,a11):IV)) (crX ((a4,a5):IV) ((a0,a1):IV) ((a10,a11):IV) ((a6,a7):IV)) (crX ((a0,a1):IV) ((a2,a3):IV) ((a6,a7):IV) ((a8,a9):IV))):=by rw [P107,B101]
 have E79:v 79=0:=by have q:v 79=er3 (v 35,v 36):=e79;rw [q,C35];exact g0
 have E85:v 85=0:=by have q:v 85=er3 (v 53,v 54):=e85;rw [q,C53];exact g1
 have E91:v 91=0:=by have q:v 91=er1 (v 77,v 78) (v 83,v 84):=e91;rw [q,B77,B83];exact g2
 have E97:v 97=0:=by have q:v 97=er3 (v 71,v 72):=e97;rw [q,C71];exact g3
 have E103:v 103=0:=by have q:v 103=er1 (v 89,v 90) (v 95,v 96):=e103;rw [q,B89,B95];exact g4
 have E109:v 109=0:=by have q:v 109=er4 (v 101,v 102):=e109;rw [q,B101];exact g5
 have e113:v 113=(az 0 [v 0,v 1,v 6,v 7]).getD 0 0:=aj hs 113 rfl;have e114:v 114=(az 0 [v 0,v 1,v 6,v 7]).getD 1 0:=aj hs 114 rfl;have e115:v 115=(az 0 [v 0,v 1,v 6,v 7]).getD 2 0:=aj hs 115 rfl;have P113:((v 113,v 114):IV)=uM (v 0,v 1) (v 6,v 7):=by rw [e113,e114];rfl
 have F113:fxV (v 113) (v 114)=true:=by have:=wB (v 0,v 1) (v 6,v 7);rw [<-P113] at this;exact this
 have e119:v 119=(az 0 [v 2,v 3,v 8,v 9]).getD 0 0:=aj hs 119 rfl;have e120:v 120=(az 0 [v 2,v 3,v 8,v 9]).getD 1 0:=aj hs 120 rfl;have e121:v 121=(az 0 [v 2,v 3,v 8,v 9]).getD 2 0:=aj hs 121 rfl;have P119:((v 119,v 120):IV)=uM (v 2,v 3) (v 8,v 9):=by rw [e119,e120];rfl
 have F119:fxV (v 119) (v 120)=true:=by have:=wB (v 2,v 3) (v 8,v 9);rw [<-P119] at this;exact this
 have e125:v 125=(az 1 [v 113,v 114,v 119,v 120]).getD 0 0:=aj hs 125 rfl;have e126:v 126=(az 1 [v 113,v 114,v 119,v 120]).getD 1 0:=aj hs 126 rfl;have e127:v 127=(az 1 [v 113,v 114,v 119,v 120]).getD 2 0:=aj hs 127 rfl;have P125:((v 125,v 126):IV)=uA (v 113,v 114) (v 119,v 120):=by rw [e125,e126];rfl
 have F125:fxV (v 125) (v 126)=true:=by have:=oO (v 113,v 114) (v 119,v 120);rw [<-P125] at this;exact this
 have e131:v 131=(az 0 [v 4,v 5,v 10,v 11]).getD 0 0:=aj hs 131 rfl;have e132:v 132=(az 0 [v 4,v 5,v 10,v 11]).getD 1 0:=aj hs 132 rfl;have e133:v 133=(az 0 [v 4,v 5,v 10,v 11]).getD 2 0:=aj hs 133 rfl;have P131:((v 131,v 132):IV)=uM (v 4,v 5) (v 10,v 11):=by rw [e131,e132];rfl
 have F131:fxV (v 131) (v 132)=true:=by have:=wB (v 4,v 5) (v 10,v 11);rw [<-P131] at this;exact this
 have e137:v 137=(az 1 [v 125,v 126,v 131,v 132]).getD 0 0:=aj hs 137 rfl;have e138:v 138=(az 1 [v 125,v 126,v 131,v 132]).getD 1 0:=aj hs 138 rfl;have e139:v 139=(az 1 [v 125,v 126,v 131,v 132]).getD 2 0:=aj hs 139 rfl;have P137:((v 137,v 138):IV)=uA (v 125,v 126) (v 131,v 132):=by rw [e137,e138];rfl
 have F137:fxV (v 137) (v 138)=true:=by have:=oO (v 125,v 126) (v 131,v 132);rw [<-P137] at this;exact this
 have B113:((v 113,v 114):IV)=uM ((a0,a1):IV) ((a6,a7):IV):=by rw [P113,P0,P6]
 have B119:((v 119,v 120):IV)=uM ((a2,a3):IV) ((a8,a9):IV):=by rw [P119,P2,P8]
 have B131:((v 131,v 132):IV)=uM ((a4,a5):IV) ((a10,a11):IV):=by rw [P131,P4,P10]
 have B125:((v 125,v 126):IV)=dt2 ((a0,a1):IV) ((a2,a3):IV) ((a6,a7):IV) ((a8,a9):IV):=by rw [P125,B113,B119];rfl
 have B137:((v 137,v 138):IV)=dtI ((a0,a1):IV) ((a2,a3):IV) ((a4,a5):IV) ((a6,a7):IV) ((a8,a9):IV) ((a10,a11):IV):=by rw [P137,B125,B131];rfl
 have E115:v 115=0:=by have q:v 115=er0 (v 0,v 1) (v 6,v 7):=e115;rw [q,P0,P6];exact m113
 have E121:v 121=0:=by have q:v 121=er0 (v 2,v 3) (v 8,v 9):=e121;rw [q,P2,P8];exact m119
 have E127:v 127=0:=by have q:v 127=er1 (v 113,v 114) (v 119,v 120):=e127;rw [q,B113,B119];exact m125
 have E133:v 133=0:=by have q:v 133=er0 (v 4,v 5) (v 10,v 11):=e133;rw [q,P4,P10];exact m131
 have E139:v 139=0:=by have q:v 139=er1 (v 125,v 126) (v 131,v 132):=e139;rw [q,B125,B131];exact m137
 have e145:v 145=(az 7 [v 107,v 108,v 137,v 138]).getD 0 0:=aj hs 145 rfl;have e146:v 146=(az 7 [v 107,v 108,v 137,v 138]).getD 1 0:=aj hs 146 rfl;have b0:v 107=(uR (smI (crX ((a2,a3):IV) ((a4,a5):IV) ((a8,a9):IV) ((a10,a11):IV)) (crX ((a4,a5):IV) ((a0,a1):IV) ((a10,a11):IV) ((a6,a7):IV)) (crX ((a0,a1):IV) ((a2,a3):IV) ((a6,a7):IV) ((a8,a9):IV)))).1:=congrArg Prod.fst B107;have b1:v 108=(uR (smI (crX ((a2,a3):IV) ((a4,a5):IV) ((a8,a9):IV) ((a10,a11):IV)) (crX ((a4,a5):IV) ((a0,a1):IV) ((a10,a11):IV) ((a6,a7):IV)) (crX ((a0,a1):IV) ((a2,a3):IV) ((a6,a7):IV) ((a8,a9):IV)))).2:=congrArg Prod.snd B107;have b2:v 137=(dtI ((a0,a1):IV) ((a2,a3):IV) ((a4,a5):IV) ((a6,a7):IV) ((a8,a9):IV) ((a10,a11):IV)).1:=congrArg Prod.fst B137;have b3:v 138=(dtI ((a0,a1):IV) ((a2,a3):IV) ((a4,a5):IV) ((a6,a7):IV) ((a8,a9):IV) ((a10,a11):IV)).2:=congrArg Prod.snd B137;have L0:v 145=ay (v 107) (v 108) (v 137) (v 138):=e145;have L1:v 146=aU (v 107) (v 108) (v 137) (v 138):=e146;rw [<-b0,<-b1,<-b2,<-b3] at ho;have x1:=(bT _ _).1 F107;have x2:=(bT _ _).1 F137;have bh:=Ca (yl:=v 107) (yh:=v 108) (xl:=v 137) (xh:=v 138) (by omega) (by omega) (by omega) (by omega) ho
 have bb:=lc (v 107) (v 108) (v 137) (v 138);rw [<-L0,<-L1] at bh bb;have k149:v 149=v 146-v 145:=by have h:v 149=IntKind.i64.wrap (v 146-v 145):=aj hs 149 rfl;rw [h,Go.IntWalk.i64_in _ (by omega)]
 have k150:v 150=0:=by have h:v 150=b2i (decide (v 149>=21600000)):=aj hs 150 rfl;rw [h,k149,decide_eq_false (by omega)];rfl
 rw [b0,b1,b2,b3] at L0 L1;have r169:v 169=ay (uR (smI (crX ((a2,a3):IV) ((a4,a5):IV) ((a8,a9):IV) ((a10,a11):IV)) (crX ((a4,a5):IV) ((a0,a1):IV) ((a10,a11):IV) ((a6,a7):IV)) (crX ((a0,a1):IV) ((a2,a3):IV) ((a6,a7):IV) ((a8,a9):IV)))).1 (uR (smI (crX ((a2,a3):IV) ((a4,a5):IV) ((a8,a9):IV) ((a10,a11):IV)) (crX ((a4,a5):IV) ((a0,a1):IV) ((a10,a11):IV) ((a6,a7):IV)) (crX ((a0,a1):IV) ((a2,a3):IV) ((a6,a7):IV) ((a8,a9):IV)))).2 (dtI ((a0,a1):IV) ((a2,a3):IV) ((a4,a5):IV) ((a6,a7):IV) ((a8,a9):IV) ((a10,a11):IV)).1 (dtI ((a0,a1):IV) ((a2,a3):IV) ((a4,a5):IV) ((a6,a7):IV) ((a8,a9):IV) ((a10,a11):IV)).2:=(bD (X:=cxB [a0,a1,a2,a3,a4,a5,a6,a7,a8,a9,a10,a11]) (v:=v) (l:=BR) (bg _) hs (k:=169) (j:=145) (ps:=[(12,.c 1),(13,.c 1),(15,.c 1),(18,.c 1),(19,.c 1),(21,.c 1),(28,.c 0),(31,.c 0),(37,.c 0),(43,.c 0),(49,.c 0),(55,.c 0),(61,.c 0),(67,.c 0),(73,.c 0),(79,.c 0),(85,.c 0),(91,.c 0),(97,.c 0),(103,.c 0),(109,.c 0),(115,.c 0),(121,.c 0),(127,.c 0),(133,.c 0),(139,.c 0),(150,.c 0)]) (aa k12 (aa k13 (aa k15 (aa k18 (aa k19 (aa k21 (aa E28 (aa E31 (aa E37 (aa E43 (aa E49 (aa E55 (aa E61 (aa E67 (aa E73 (aa E79 (aa E85 (aa E91 (aa E97 (aa E103 (aa E109 (aa E115 (aa E121 (aa E127 (aa E133 (aa E139 (aa k150 bA))))))))))))))))))))))))))) (by kernel_rfl)).trans (L0)
 have r170:v 170=aU (uR (smI (crX ((a2,a3):IV) ((a4,a5):IV) ((a8,a9):IV) ((a10,a11):IV)) (crX ((a4,a5):IV) ((a0,a1):IV) ((a10,a11):IV) ((a6,a7):IV)) (crX ((a0,a1):IV) ((a2,a3):IV) ((a6,a7):IV) ((a8,a9):IV)))).1 (uR (smI (crX ((a2,a3):IV) ((a4,a5):IV) ((a8,a9):IV) ((a10,a11):IV)) (crX ((a4,a5):IV) ((a0,a1):IV) ((a10,a11):IV) ((a6,a7):IV)) (crX ((a0,a1):IV) ((a2,a3):IV) ((a6,a7):IV) ((a8,a9):IV)))).2 (dtI ((a0,a1):IV) ((a2,a3):IV) ((a4,a5):IV) ((a6,a7):IV) ((a8,a9):IV) ((a10,a11):IV)).1 (dtI ((a0,a1):IV) ((a2,a3):IV) ((a4,a5):IV) ((a6,a7):IV) ((a8,a9):IV) ((a10,a11):IV)).2:=(bD (X:=cxB [a0,a1,a2,a3,a4,a5,a6,a7,a8,a9,a10,a11]) (v:=v) (l:=BR) (bg _) hs (k:=170) (j:=146) (ps:=[(12,.c 1),(13,.c 1),(15,.c 1),(18,.c 1),(19,.c 1),(21,.c 1),(28,.c 0),(31,.c 0),(37,.c 0),(43,.c 0),(49,.c 0),(55,.c 0),(61,.c 0),(67,.c 0),(73,.c 0),(79,.c 0),(85,.c 0),(91,.c 0),(97,.c 0),(103,.c 0),(109,.c 0),(115,.c 0),(121,.c 0),(127,.c 0),(133,.c 0),(139,.c 0),(150,.c 0)]) (aa k12 (aa k13 (aa k15 (aa k18 (aa k19 (aa k21 (aa E28 (aa E31 (aa E37 (aa E43 (aa E49 (aa E55 (aa E61 (aa E67 (aa E73 (aa E79 (aa E85 (aa E91 (aa E97 (aa E103 (aa E109 (aa E115 (aa E121 (aa E127 (aa E133 (aa E139 (aa k150 bA))))))))))))))))))))))))))) (by kernel_rfl)).trans (L1)
 have rE:v 168=0:=bv (X:=cxB [a0,a1,a2,a3,a4,a5,a6,a7,a8,a9,a10,a11]) (v:=v) (l:=BR) (bg _) hs (k:=168) (r:=.c 0) (ps:=[(12,.c 1),(13,.c 1),(15,.c 1),(18,.c 1),(19,.c 1),(21,.c 1),(28,.c 0),(31,.c 0),(37,.c 0),(43,.c 0),(49,.c 0),(55,.c 0),(61,.c 0),(67,.c 0),(73,.c 0),(79,.c 0),(85,.c 0),(91,.c 0),(97,.c 0),(103,.c 0),(109,.c 0),(115,.c 0),(121,.c 0),(127,.c 0),(133,.c 0),(139,.c 0),(150,.c 0)]) (nz:=[]) (aa k12 (aa k13 (aa k15 (aa k18 (aa k19 (aa k21 (aa E28 (aa E31 (aa E37 (aa E43 (aa E49 (aa E55 (aa E61 (aa E67 (aa E73 (aa E79 (aa E85 (aa E91 (aa E97 (aa E103 (aa E109 (aa E115 (aa E121 (aa E127 (aa E133 (aa E139 (aa k150 bA))))))))))))))))))))))))))) bM (by kernel_rfl)
 refine ⟨jF hs (fs:=[((.n 12,true),(.n 0,.n 1)),((.n 12,true),(.n 2,.n 3)),((.n 12,true),(.n 4,.n 5)),((.n 12,true),(.n 6,.n 7)),((.n 12,true),(.n 8,.n 9)),((.n 12,true),(.n 10,.n 11)),((.n 14,true),(.n 0,.n 1)),((.n 14,true),(.n 2,.n 3)),((.n 14,true),(.n 4,.n 5)),((.n 14,true),(.n 6,.n 7)),((.n 14,true),(.n 8,.n 9)),((.n 14,true),(.n 10,.n 11)),((.n 18,true),(.n 0,.n 1)),((.n 18,true),(.n 2,.n 3)),((.n 18,true),(.n 4,.n 5)),((.n 18,true),(.n 6,.n 7)),((.n 18,true),(.n 8,.n 9)),((.n 18,true),(.n 10,.n 11)),((.n 20,true),(.n 0,.n 1)),((.n 20,true),(.n 2,.n 3)),((.n 20,true),(.n 4,.n 5)),((.n 20,true),(.n 6,.n 7)),((.n 20,true),(.n 8,.n 9)),((.n 20,true),(.n 10,.n 11)),((.n 25,true),(.n 0,.n 1)),((.n 25,true),(.n 2,.n 3)),((.n 25,true),(.n 4,.n 5)),((.n 25,true),(.n 6,.n 7)),((.n 25,true),(.n 8,.n 9)),((.n 25,true),(.n 10,.n 11)),((.n 144,true),(.n 0,.n 1)),((.n 144,true),(.n 2,.n 3)),((.n 144,true),(.n 4,.n 5)),((.n 144,true),(.n 6,.n 7)),((.n 144,true),(.n 8,.n 9)),((.n 144,true),(.n 10,.n 11))]) (rs:=[]) (fun e he=>by simp only [List.mem_cons,List.not_mem_nil,or_false] at he;rcases he with rfl|rfl|rfl|rfl|rfl|rfl|rfl|rfl|rfl|rfl|rfl|rfl|rfl|rfl|rfl|rfl|rfl|rfl|rfl|rfl|rfl|rfl|rfl|rfl|rfl|rfl|rfl|rfl|rfl|rfl|rfl|rfl|rfl|rfl|rfl|rfl<;>intro _<;>assumption) (fun e he=>by cases he) (by kernel_rfl),?_⟩
 intro x hx0;have hx':=oq (v:=v) (by rfl) hx0
 rw [hx'];show Value.tuple #[.agg #[.int .i64 (v 169),.int .i64 (v 170)],.int .i64 (v 168)]=_;rw [r169,r170,rE]
