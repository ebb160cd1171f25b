/- The contracts of vectors.Of, Cross, Dot, Between. -/
import Derived.Test.YtbdlccacamalpaaZSpV
import Derived.Test.YtbdlccacamalpaaZUnit
import Derived.Test.YtbdlccacamalpaaZTrc
import Derived.Test.YtbdlccacamalpaaZTr2
set_option linter.unusedVariables false
set_option linter.unusedSimpArgs false
set_option maxRecDepth 100000
namespace Go.Proofs.Ytbdlccacamalpaa
open Go.RowKit Alm Sx
theorem bD {X:Cx} {v:Nat->Int} {ext:Ext} (he:lJ X ext) {l:List Nd} (hs:aI X v l.reverse) {ps:List (Nat × Rf)} (hp:∀ q∈ps,v q.1=q.2.val v) {k j:Nat} (h:Rf.eq ((norm ext ps [] l).rep (.n k)) ((norm ext ps [] l).rep (.n j))=true):v k=v j:=by
 have a:=kE (lg he hs hp bM) (.n k);have b:=kE (lg he hs hp bM) (.n j);rw [Rf.eq_eq h] at a;exact a.symm.trans b
def er0 (p q:IV):Int:=(az 0 [p.1,p.2,q.1,q.2]).getD 2 0
def er1 (p q:IV):Int:=(az 1 [p.1,p.2,q.1,q.2]).getD 2 0
def er2 (p q:IV):Int:=(az 2 [p.1,p.2,q.1,q.2]).getD 2 0
def er3 (p:IV):Int:=(az 3 [p.1,p.2]).getD 2 0
def er4 (p:IV):Int:=(az 4 [p.1,p.2]).getD 2 0
theorem wB (p q:IV):fxV (uM p q).1 (uM p q).2=true:=(rD _ _).2.2
theorem oO (p q:IV):fxV (uA p q).1 (uA p q).2=true:=(rD _ _).2.2
theorem En (p q:IV):fxV (uD p q).1 (uD p q).2=true:=(rD _ _).2.2
theorem Ja (p:IV):fxV (uQ p).1 (uQ p).2=true:=(rD _ _).2.2
theorem Jd (p:IV):fxV (uR p).1 (uR p).2=true:=(rD _ _).2.2
def crX (p2 p3 q2 q3:IV):IV:=uD (uM p2 q3) (uM p3 q2)
def dt2 (p1 p2 q1 q2:IV):IV:=uA (uM p1 q1) (uM p2 q2)
def dtI (p1 p2 p3 q1 q2 q3:IV):IV:=uA (dt2 p1 p2 q1 q2) (uM p3 q3)
def sm2 (x y:IV):IV:=uA (uQ x) (uQ y)
def smI (x y z:IV):IV:=uA (sm2 x y) (uQ z)
def iI:List Nd:=[
 .arg 0,
 .arg 1,
 .arg 2,
 .arg 3,
 .bin .leq .i64 (.n 0) (.n 1),
 .bin .geq .i64 (.n 0) (.c (-1099511627776)),
 .bin .leq .i64 (.n 0) (.c 1099511627776),
 .ite (.n 5) (.n 6) (.c 0),
 .ite (.n 4) (.n 7) (.c 0),
 .bin .geq .i64 (.n 1) (.c (-1099511627776)),
 .bin .leq .i64 (.n 1) (.c 1099511627776),
 .ite (.n 9) (.n 10) (.c 0),
 .ite (.n 8) (.n 11) (.c 0),
 .ite (.n 12) (.c 0) (.c 1),
 .bin .leq .i64 (.n 2) (.n 3),
 .bin .geq .i64 (.n 2) (.c (-1099511627776)),
 .bin .leq .i64 (.n 2) (.c 1099511627776),
 .ite (.n 15) (.n 16) (.c 0),
 .ite (.n 14) (.n 17) (.c 0),
 .bin .geq .i64 (.n 3) (.c (-1099511627776)),
 .bin .leq .i64 (.n 3) (.c 1099511627776),
 .ite (.n 19) (.n 20) (.c 0),
 .ite (.n 18) (.n 21) (.c 0),
 .ite (.n 22) (.c 0) (.c 1),
 .ite (.n 13) (.c 1) (.n 23),
 .ite (.n 24) (.c 0) (.c 1),
 .app 6 0 [.n 0,.n 1],
 .app 6 1 [.n 0,.n 1],
 .app 6 2 [.n 0,.n 1],
 .app 6 0 [.n 2,.n 3],
 .app 6 1 [.n 2,.n 3],
 .app 6 2 [.n 2,.n 3],
 .bin .eql .i64 (.n 28) (.c 0),
 .ite (.n 32) (.c 0) (.c 1),
 .ite (.n 32) (.n 31) (.n 28),
 .app 0 0 [.n 26,.n 27,.n 29,.n 30],
 .app 0 1 [.n 26,.n 27,.n 29,.n 30],
 .app 0 2 [.n 26,.n 27,.n 29,.n 30],
 .bin .eql .i64 (.n 34) (.c 0),
 .ite (.n 38) (.c 0) (.c 1),
 .ite (.n 38) (.n 37) (.n 34),
 .app 5 0 [.n 2,.n 3],
 .app 5 1 [.n 2,.n 3],
 .app 5 2 [.n 2,.n 3],
 .bin .eql .i64 (.n 40) (.c 0),
 .ite (.n 44) (.c 0) (.c 1),
 .ite (.n 44) (.n 43) (.n 40),
 .app 0 0 [.n 26,.n 27,.n 41,.n 42],
 .app 0 1 [.n 26,.n 27,.n 41,.n 42],
 .app 0 2 [.n 26,.n 27,.n 41,.n 42],
 .bin .eql .i64 (.n 46) (.c 0),
 .ite (.n 50) (.c 0) (.c 1),
 .ite (.n 50) (.n 49) (.n 46),
 .app 5 0 [.n 0,.n 1],
 .app 5 1 [.n 0,.n 1],
 .app 5 2 [.n 0,.n 1],
 .bin .eql .i64 (.n 52) (.c 0),
 .ite (.n 56) (.c 0) (.c 1),
 .ite (.n 56) (.n 55) (.n 52),
 .bin .neq .i64 (.n 58) (.c 0),
 .ite (.n 59) (.c 0) (.c 1),
 .ite (.n 59) (.n 58) (.c 0),
 .ite (.n 59) (.c 0) (.n 35),
 .ite (.n 59) (.c 0) (.n 36),
 .ite (.n 59) (.c 0) (.n 47),
 .ite (.n 59) (.c 0) (.n 48),
 .ite (.n 59) (.c 0) (.n 53),
 .ite (.n 59) (.c 0) (.n 54),
 .ite (.n 24) (.c 1) (.n 61),
 .ite (.n 24) (.c 0) (.n 62),
 .ite (.n 24) (.c 0) (.n 63),
 .ite (.n 24) (.c 0) (.n 64),
 .ite (.n 24) (.c 0) (.n 65),
 .ite (.n 24) (.c 0) (.n 66),
 .ite (.n 24) (.c 0) (.n 67)]
def Kk:List Vc:=[
 ⟨[(.n 25,true)],.pre 6 [.n 0,.n 1]⟩,
 ⟨[(.n 25,true)],.pre 6 [.n 2,.n 3]⟩,
 ⟨[(.n 25,true)],.pre 0 [.n 26,.n 27,.n 29,.n 30]⟩,
 ⟨[(.n 25,true)],.pre 5 [.n 2,.n 3]⟩,
 ⟨[(.n 25,true)],.pre 0 [.n 26,.n 27,.n 41,.n 42]⟩,
 ⟨[(.n 25,true)],.pre 5 [.n 0,.n 1]⟩]
theorem JQ:whole Try.prog kr 20 40 9 [(true,[some .i64,some .i64]),(true,[some .i64,some .i64])]=some (.tup [.agg [.int .i64 (.n 69),.int .i64 (.n 70),.int .i64 (.n 71),.int .i64 (.n 72),.int .i64 (.n 73),.int .i64 (.n 74)],.c (.int .i64 (.n 68))],⟨iI.reverse,Kk.reverse⟩):=by kernel_rfl
theorem J3:wfN iI.reverse=true:=by kernel_rfl
theorem Rh (a0 a1 a2 a3:Int) (w:World) (h1:dW a0 a1=true) (h2:dW a2 a3=true):Calls Try.prog 9 #[.agg #[.int .i64 a0,.int .i64 a1],.agg #[.int .i64 a2,.int .i64 a3]] w fun e w'=>e=.returned (.tuple #[.agg #[.int .i64 (uM (uC a0 a1) (uC a2 a3)).1,.int .i64 (uM (uC a0 a1) (uC a2 a3)).2,.int .i64 (uM (uC a0 a1) (uS a2 a3)).1,.int .i64 (uM (uC a0 a1) (uS a2 a3)).2,.int .i64 (uS a0 a1).1,.int .i64 (uS a0 a1).2],.int .i64 0])/\Below w.heap.size w w':=by
 refine Sx.calls (X:=cxB [a0,a1,a2,a3]) iJ (il _) JQ J3 (fun v hs=>?_) w
 have e0:v 0=a0:=aj hs 0 rfl;have e1:v 1=a1:=aj hs 1 rfl;have e2:v 2=a2:=aj hs 2 rfl;have e3:v 3=a3:=aj hs 3 rfl;have A0:dW (v 0) (v 1)=true:=by rw [e0,e1];exact h1
 have A2:dW (v 2) (v 3)=true:=by rw [e2,e3];exact h2
 have q0:=(fw _ _).1 A0;have q2:=(fw _ _).1 A2;have k4:v 4=1:=by have h:v 4=b2i (decide (v 0<=v 1)):=aj hs 4 rfl;rw [h,decide_eq_true (by omega)];rfl
 have k5:v 5=1:=by have h:v 5=b2i (decide (v 0>=-1099511627776)):=aj hs 5 rfl;rw [h,decide_eq_true (by omega)];rfl
 have k6:v 6=1:=by have h:v 6=b2i (decide (v 0<=1099511627776)):=aj hs 6 rfl;rw [h,decide_eq_true (by omega)];rfl
 have k9:v 9=1:=by have h:v 9=b2i (decide (v 1>=-1099511627776)):=aj hs 9 rfl;rw [h,decide_eq_true (by omega)];rfl
 have k10:v 10=1:=by have h:v 10=b2i (decide (v 1<=1099511627776)):=aj hs 10 rfl;rw [h,decide_eq_true (by omega)];rfl
 have k14:v 14=1:=by have h:v 14=b2i (decide (v 2<=v 3)):=aj hs 14 rfl;rw [h,decide_eq_true (by omega)];rfl
 have k15:v 15=1:=by have h:v 15=b2i (decide (v 2>=-1099511627776)):=aj hs 15 rfl;rw [h,decide_eq_true (by omega)];rfl
 have k16:v 16=1:=by have h:v 16=b2i (decide (v 2<=1099511627776)):=aj hs 16 rfl;rw [h,decide_eq_true (by omega)];rfl
 have k19:v 19=1:=by have h:v 19=b2i (decide (v 3>=-1099511627776)):=aj hs 19 rfl;rw [h,decide_eq_true (by omega)];rfl
 have k20:v 20=1:=by have h:v 20=b2i (decide (v 3<=1099511627776)):=aj hs 20 rfl;rw [h,decide_eq_true (by omega)];rfl
 have e26:v 26=(az 6 [v 0,v 1]).getD 0 0:=aj hs 26 rfl;have e27:v 27=(az 6 [v 0,v 1]).getD 1 0:=aj hs 27 rfl;have P26:((v 26,v 27):IV)=uC a0 a1:=by rw [e26,e27,e0,e1];rfl
 have U26:U (v 26,v 27):=by rw [P26];exact U_C _ _
 have e29:v 29=(az 6 [v 2,v 3]).getD 0 0:=aj hs 29 rfl;have e30:v 30=(az 6 [v 2,v 3]).getD 1 0:=aj hs 30 rfl;have P29:((v 29,v 30):IV)=uC a2 a3:=by rw [e29,e30,e2,e3];rfl
 have U29:U (v 29,v 30):=by rw [P29];exact U_C _ _
 have e41:v 41=(az 5 [v 2,v 3]).getD 0 0:=aj hs 41 rfl;have e42:v 42=(az 5 [v 2,v 3]).getD 1 0:=aj hs 42 rfl;have P41:((v 41,v 42):IV)=uS a2 a3:=by rw [e41,e42,e2,e3];rfl
 have U41:U (v 41,v 42):=by rw [P41];exact U_S _ _
 have e53:v 53=(az 5 [v 0,v 1]).getD 0 0:=aj hs 53 rfl;have e54:v 54=(az 5 [v 0,v 1]).getD 1 0:=aj hs 54 rfl;have P53:((v 53,v 54):IV)=uS a0 a1:=by rw [e53,e54,e0,e1];rfl
 have U53:U (v 53,v 54):=by rw [P53];exact U_S _ _
 have e35:v 35=(az 0 [v 26,v 27,v 29,v 30]).getD 0 0:=aj hs 35 rfl;have e36:v 36=(az 0 [v 26,v 27,v 29,v 30]).getD 1 0:=aj hs 36 rfl;have P35:((v 35,v 36):IV)=uM (v 26,v 27) (v 29,v 30):=by rw [e35,e36];rfl
 have U35:U (v 35,v 36):=by rw [P35];exact (U_M U26 U29).2.2
 have e37:v 37=(az 0 [v 26,v 27,v 29,v 30]).getD 2 0:=aj hs 37 rfl;have E37:v 37=0:=e37.trans (U_M U26 U29).2.1;have e47:v 47=(az 0 [v 26,v 27,v 41,v 42]).getD 0 0:=aj hs 47 rfl;have e48:v 48=(az 0 [v 26,v 27,v 41,v 42]).getD 1 0:=aj hs 48 rfl;have P47:((v 47,v 48):IV)=uM (v 26,v 27) (v 41,v 42):=by rw [e47,e48];rfl
 have U47:U (v 47,v 48):=by rw [P47];exact (U_M U26 U41).2.2
 have e49:v 49=(az 0 [v 26,v 27,v 41,v 42]).getD 2 0:=aj hs 49 rfl;have E49:v 49=0:=e49.trans (U_M U26 U41).2.1;rw [P26,P29] at P35;rw [P26,P41] at P47;have r69:v 69=(uM (uC a0 a1) (uC a2 a3)).1:=(bD (X:=cxB [a0,a1,a2,a3]) (v:=v) (l:=iI) (bg _) hs (k:=69) (j:=35) (ps:=[(4,.c 1),(5,.c 1),(6,.c 1),(9,.c 1),(10,.c 1),(14,.c 1),(15,.c 1),(16,.c 1),(19,.c 1),(20,.c 1),(37,.c 0),(49,.c 0)]) (aa k4 (aa k5 (aa k6 (aa k9 (aa k10 (aa k14 (aa k15 (aa k16 (aa k19 (aa k20 (aa E37 (aa E49 bA)))))))))))) (by kernel_rfl)).trans (congrArg Prod.fst P35)
 have r70:v 70=(uM (uC a0 a1) (uC a2 a3)).2:=(bD (X:=cxB [a0,a1,a2,a3]) (v:=v) (l:=iI) (bg _) hs (k:=70) (j:=36) (ps:=[(4,.c 1),(5,.c 1),(6,.c 1),(9,.c 1),(10,.c 1),(14,.c 1),(15,.c 1),(16,.c 1),(19,.c 1),(20,.c 1),(37,.c 0),(49,.c 0)]) (aa k4 (aa k5 (aa k6 (aa k9 (aa k10 (aa k14 (aa k15 (aa k16 (aa k19 (aa k20 (aa E37 (aa E49 bA)))))))))))) (by kernel_rfl)).trans (congrArg Prod.snd P35)
 have r71:v 71=(uM (uC a0 a1) (uS a2 a3)).1:=(bD (X:=cxB [a0,a1,a2,a3]) (v:=v) (l:=iI) (bg _) hs (k:=71) (j:=47) (ps:=[(4,.c 1),(5,.c 1),(6,.c 1),(9,.c 1),(10,.c 1),(14,.c 1),(15,.c 1),(16,.c 1),(19,.c 1),(20,.c 1),(37,.c 0),(49,.c 0)]) (aa k4 (aa k5 (aa k6 (aa k9 (aa k10 (aa k14 (aa k15 (aa k16 (aa k19 (aa k20 (aa E37 (aa E49 bA)))))))))))) (by kernel_rfl)).trans (congrArg Prod.fst P47)
 have r72:v 72=(uM (uC a0 a1) (uS a2 a3)).2:=(bD (X:=cxB [a0,a1,a2,a3]) (v:=v) (l:=iI) (bg _) hs (k:=72) (j:=48) (ps:=[(4,.c 1),(5,.c 1),(6,.c 1),(9,.c 1),(10,.c 1),(14,.c 1),(15,.c 1),(16,.c 1),(19,.c 1),(20,.c 1),(37,.c 0),(49,.c 0)]) (aa k4 (aa k5 (aa k6 (aa k9 (aa k10 (aa k14 (aa k15 (aa k16 (aa k19 (aa k20 (aa E37 (aa E49 bA)))))))))))) (by kernel_rfl)).trans (congrArg Prod.snd P47)
 have r73:v 73=(uS a0 a1).1:=(bD (X:=cxB [a0,a1,a2,a3]) (v:=v) (l:=iI) (bg _) hs (k:=73) (j:=53) (ps:=[(4,.c 1),(5,.c 1),(6,.c 1),(9,.c 1),(10,.c 1),(14,.c 1),(15,.c 1),(16,.c 1),(19,.c 1),(20,.c 1),(37,.c 0),(49,.c 0)]) (aa k4 (aa k5 (aa k6 (aa k9 (aa k10 (aa k14 (aa k15 (aa k16 (aa k19 (aa k20 (aa E37 (aa E49 bA)))))))))))) (by kernel_rfl)).trans (congrArg Prod.fst P53)
 have r74:v 74=(uS a0 a1).2:=(bD (X:=cxB [a0,a1,a2,a3]) (v:=v) (l:=iI) (bg _) hs (k:=74) (j:=54) (ps:=[(4,.c 1),(5,.c 1),(6,.c 1),(9,.c 1),(10,.c 1),(14,.c 1),(15,.c 1),(16,.c 1),(19,.c 1),(20,.c 1),(37,.c 0),(49,.c 0)]) (aa k4 (aa k5 (aa k6 (aa k9 (aa k10 (aa k14 (aa k15 (aa k16 (aa k19 (aa k20 (aa E37 (aa E49 bA)))))))))))) (by kernel_rfl)).trans (congrArg Prod.snd P53)
 have rE:v 68=0:=bv (X:=cxB [a0,a1,a2,a3]) (v:=v) (l:=iI) (bg _) hs (k:=68) (r:=.c 0) (ps:=[(4,.c 1),(5,.c 1),(6,.c 1),(9,.c 1),(10,.c 1),(14,.c 1),(15,.c 1),(16,.c 1),(19,.c 1),(20,.c 1),(37,.c 0),(49,.c 0)]) (nz:=[]) (aa k4 (aa k5 (aa k6 (aa k9 (aa k10 (aa k14 (aa k15 (aa k16 (aa k19 (aa k20 (aa E37 (aa E49 bA)))))))))))) bM (by kernel_rfl)
 refine ⟨jF hs (fs:=[]) (rs:=[((.n 25,true),(.n 0,.n 1)),((.n 25,true),(.n 2,.n 3))]) (fun e he=>by cases he) (fun e he=>by simp only [List.mem_cons,List.not_mem_nil,or_false] at he;rcases he with rfl|rfl<;>intro _<;>assumption) (by kernel_rfl),?_⟩
 intro x hx0;have hx':=oq (v:=v) (by rfl) hx0
 rw [hx'];show Value.tuple #[.agg #[.int .i64 (v 69),.int .i64 (v 70),.int .i64 (v 71),.int .i64 (v 72),.int .i64 (v 73),.int .i64 (v 74)],.int .i64 (v 68)]=_;rw [r69,r70,r71,r72,r73,r74,rE]
def BR:List Nd:=[
 .arg 0,
 .arg 1,
 .arg 2,
 .arg 3,
 .arg 4,
 .arg 5,
 .arg 6,
 .arg 7,
 .arg 8,
 .arg 9,
 .arg 10,
 .arg 11,
 .app 8 0 [.n 0,.n 1],
 .app 8 0 [.n 2,.n 3],
 .ite (.n 12) (.n 13) (.c 0),
 .app 8 0 [.n 4,.n 5],
 .ite (.n 14) (.n 15) (.c 0),
 .ite (.n 16) (.c 0) (.c 1),
 .app 8 0 [.n 6,.n 7],
 .app 8 0 [.n 8,.n 9],
 .ite (.n 18) (.n 19) (.c 0),
 .app 8 0 [.n 10,.n 11],
 .ite (.n 20) (.n 21) (.c 0),
 .ite (.n 22) (.c 0) (.c 1),
 .ite (.n 17) (.c 1) (.n 23),
 .ite (.n 24) (.c 0) (.c 1),
 .app 0 0 [.n 2,.n 3,.n 10,.n 11],
 .app 0 1 [.n 2,.n 3,.n 10,.n 11],
 .app 0 2 [.n 2,.n 3,.n 10,.n 11],
 .app 0 0 [.n 4,.n 5,.n 8,.n 9],
 .app 0 1 [.n 4,.n 5,.n 8,.n 9],
 .app 0 2 [.n 4,.n 5,.n 8,.n 9],
 .bin .eql .i64 (.n 28) (.c 0),
 .ite (.n 32) (.c 0) (.c 1),
 .ite (.n 32) (.n 31) (.n 28),
 .app 2 0 [.n 26,.n 27,.n 29,.n 30],
 .app 2 1 [.n 26,.n 27,.n 29,.n 30],
 .app 2 2 [.n 26,.n 27,.n 29,.n 30],
 .bin .eql .i64 (.n 34) (.c 0),
 .ite (.n 38) (.c 0) (.c 1),
 .ite (.n 38) (.n 37) (.n 34),
 .app 0 0 [.n 4,.n 5,.n 6,.n 7],
 .app 0 1 [.n 4,.n 5,.n 6,.n 7],
 .app 0 2 [.n 4,.n 5,.n 6,.n 7],
 .bin .eql .i64 (.n 40) (.c 0),
 .ite (.n 44) (.c 0) (.c 1),
 .ite (.n 44) (.n 43) (.n 40),
 .app 0 0 [.n 0,.n 1,.n 10,.n 11],
 .app 0 1 [.n 0,.n 1,.n 10,.n 11],
 .app 0 2 [.n 0,.n 1,.n 10,.n 11],
 .bin .eql .i64 (.n 46) (.c 0),
 .ite (.n 50) (.c 0) (.c 1),
 .ite (.n 50) (.n 49) (.n 46),
 .app 2 0 [.n 41,.n 42,.n 47,.n 48],
 .app 2 1 [.n 41,.n 42,.n 47,.n 48],
 .app 2 2 [.n 41,.n 42,.n 47,.n 48],
 .bin .eql .i64 (.n 52) (.c 0),
 .ite (.n 56) (.c 0) (.c 1),
 .ite (.n 56) (.n 55) (.n 52),
 .app 0 0 [.n 0,.n 1,.n 8,.n 9],
 .app 0 1 [.n 0,.n 1,.n 8,.n 9],
 .app 0 2 [.n 0,.n 1,.n 8,.n 9],
 .bin .eql .i64 (.n 58) (.c 0),
 .ite (.n 62) (.c 0) (.c 1),
 .ite (.n 62) (.n 61) (.n 58),
 .app 0 0 [.n 2,.n 3,.n 6,.n 7],
 .app 0 1 [.n 2,.n 3,.n 6,.n 7],
 .app 0 2 [.n 2,.n 3,.n 6,.n 7],
 .bin .eql .i64 (.n 64) (.c 0),
 .ite (.n 68) (.c 0) (.c 1),
 .ite (.n 68) (.n 67) (.n 64),
 .app 2 0 [.n 59,.n 60,.n 65,.n 66],
 .app 2 1 [.n 59,.n 60,.n 65,.n 66],
 .app 2 2 [.n 59,.n 60,.n 65,.n 66],
 .bin .eql .i64 (.n 70) (.c 0),
 .ite (.n 74) (.c 0) (.c 1),
 .ite (.n 74) (.n 73) (.n 70),
 .app 3 0 [.n 35,.n 36],
 .app 3 1 [.n 35,.n 36],
 .app 3 2 [.n 35,.n 36],
 .bin .eql .i64 (.n 76) (.c 0),
 .ite (.n 80) (.c 0) (.c 1),
 .ite (.n 80) (.n 79) (.n 76),
 .app 3 0 [.n 53,.n 54],
 .app 3 1 [.n 53,.n 54],
 .app 3 2 [.n 53,.n 54],
 .bin .eql .i64 (.n 82) (.c 0),
 .ite (.n 86) (.c 0) (.c 1),
 .ite (.n 86) (.n 85) (.n 82),
 .app 1 0 [.n 77,.n 78,.n 83,.n 84],
 .app 1 1 [.n 77,.n 78,.n 83,.n 84],
 .app 1 2 [.n 77,.n 78,.n 83,.n 84],
 .bin .eql .i64 (.n 88) (.c 0),
 .ite (.n 92) (.c 0) (.c 1),
 .ite (.n 92) (.n 91) (.n 88),
 .app 3 0 [.n 71,.n 72],
 .app 3 1 [.n 71,.n 72],
 .app 3 2 [.n 71,.n 72],
 .bin .eql .i64 (.n 94) (.c 0),
 .ite (.n 98) (.c 0) (.c 1),
 .ite (.n 98) (.n 97) (.n 94),
 .app 1 0 [.n 89,.n 90,.n 95,.n 96],
 .app 1 1 [.n 89,.n 90,.n 95,.n 96],
 .app 1 2 [.n 89,.n 90,.n 95,.n 96],
 .bin .eql .i64 (.n 100) (.c 0),
 .ite (.n 104) (.c 0) (.c 1),
 .ite (.n 104) (.n 103) (.n 100),
 .app 4 0 [.n 101,.n 102],
 .app 4 1 [.n 101,.n 102],
 .app 4 2 [.n 101,.n 102],
 .bin .eql .i64 (.n 106) (.c 0),
 .ite (.n 110) (.c 0) (.c 1),
 .ite (.n 110) (.n 109) (.n 106),
 .app 0 0 [.n 0,.n 1,.n 6,.n 7],
 .app 0 1 [.n 0,.n 1,.n 6,.n 7],
 .app 0 2 [.n 0,.n 1,.n 6,.n 7],
 .bin .eql .i64 (.n 112) (.c 0),
 .ite (.n 116) (.c 0) (.c 1),
 .ite (.n 116) (.n 115) (.n 112),
 .app 0 0 [.n 2,.n 3,.n 8,.n 9],
 .app 0 1 [.n 2,.n 3,.n 8,.n 9],
 .app 0 2 [.n 2,.n 3,.n 8,.n 9],
 .bin .eql .i64 (.n 118) (.c 0),
 .ite (.n 122) (.c 0) (.c 1),
 .ite (.n 122) (.n 121) (.n 118),
 .app 1 0 [.n 113,.n 114,.n 119,.n 120],
 .app 1 1 [.n 113,.n 114,.n 119,.n 120],
 .app 1 2 [.n 113,.n 114,.n 119,.n 120],
 .bin .eql .i64 (.n 124) (.c 0),
 .ite (.n 128) (.c 0) (.c 1),
 .ite (.n 128) (.n 127) (.n 124),
 .app 0 0 [.n 4,.n 5,.n 10,.n 11],
 .app 0 1 [.n 4,.n 5,.n 10,.n 11],
 .app 0 2 [.n 4,.n 5,.n 10,.n 11],
 .bin .eql .i64 (.n 130) (.c 0),
 .ite (.n 134) (.c 0) (.c 1),
 .ite (.n 134) (.n 133) (.n 130),
 .app 1 0 [.n 125,.n 126,.n 131,.n 132],
 .app 1 1 [.n 125,.n 126,.n 131,.n 132],
 .app 1 2 [.n 125,.n 126,.n 131,.n 132],
 .bin .eql .i64 (.n 136) (.c 0),
 .ite (.n 140) (.c 0) (.c 1),
 .ite (.n 140) (.n 139) (.n 136),
 .bin .neq .i64 (.n 142) (.c 0),
 .ite (.n 143) (.c 0) (.c 1),
 .app 7 0 [.n 107,.n 108,.n 137,.n 138],
 .app 7 1 [.n 107,.n 108,.n 137,.n 138],
 .app 7 2 [.n 107,.n 108,.n 137,.n 138],
 .bin .neq .i64 (.n 147) (.c 0),
 .bin .sub .i64 (.n 146) (.n 145),
 .bin .geq .i64 (.n 149) (.c 21600000),
 .ite (.n 150) (.c 0) (.c 1),
 .ite (.n 148) (.c 0) (.c 1),
 .ite (.n 152) (.n 151) (.c 0),
 .ite (.n 152) (.n 150) (.c 0),
 .ite (.n 148) (.c 1) (.n 154),
 .ite (.n 148) (.n 147) (.c 24),
 .ite (.n 155) (.c 1) (.n 153),
 .ite (.n 155) (.n 156) (.c 0),
 .ite (.n 155) (.c 0) (.n 145),
 .ite (.n 155) (.c 0) (.n 146),
 .ite (.n 144) (.n 157) (.c 0),
 .ite (.n 143) (.c 1) (.n 161),
 .ite (.n 143) (.n 142) (.n 158),
 .ite (.n 143) (.c 0) (.n 159),
 .ite (.n 143) (.c 0) (.n 160),
 .ite (.n 25) (.n 162) (.c 0),
 .ite (.n 24) (.c 1) (.n 166),
 .ite (.n 24) (.c 1) (.n 163),
 .ite (.n 24) (.c 0) (.n 164),
 .ite (.n 24) (.c 0) (.n 165)]
def Uf:List Vc:=[
 ⟨[],.pre 8 [.n 0,.n 1]⟩,
 ⟨[(.n 12,true)],.pre 8 [.n 2,.n 3]⟩,
 ⟨[(.n 14,true)],.pre 8 [.n 4,.n 5]⟩,
 ⟨[(.n 17,false)],.pre 8 [.n 6,.n 7]⟩,
 ⟨[(.n 17,false),(.n 18,true)],.pre 8 [.n 8,.n 9]⟩,
 ⟨[(.n 17,false),(.n 20,true)],.pre 8 [.n 10,.n 11]⟩,
 ⟨[(.n 25,true)],.pre 0 [.n 2,.n 3,.n 10,.n 11]⟩,
 ⟨[(.n 25,true)],.pre 0 [.n 4,.n 5,.n 8,.n 9]⟩,
 ⟨[(.n 25,true)],.pre 2 [.n 26,.n 27,.n 29,.n 30]⟩,
 ⟨[(.n 25,true)],.pre 0 [.n 4,.n 5,.n 6,.n 7]⟩,
 ⟨[(.n 25,true)],.pre 0 [.n 0,.n 1,.n 10,.n 11]⟩,
 ⟨[(.n 25,true)],.pre 2 [.n 41,.n 42,.n 47,.n 48]⟩,
 ⟨[(.n 25,true)],.pre 0 [.n 0,.n 1,.n 8,.n 9]⟩,
 ⟨[(.n 25,true)],.pre 0 [.n 2,.n 3,.n 6,.n 7]⟩,
 ⟨[(.n 25,true)],.pre 2 [.n 59,.n 60,.n 65,.n 66]⟩,
 ⟨[(.n 25,true)],.pre 3 [.n 35,.n 36]⟩,
 ⟨[(.n 25,true)],.pre 3 [.n 53,.n 54]⟩,
 ⟨[(.n 25,true)],.pre 1 [.n 77,.n 78,.n 83,.n 84]⟩,
 ⟨[(.n 25,true)],.pre 3 [.n 71,.n 72]⟩,
 ⟨[(.n 25,true)],.pre 1 [.n 89,.n 90,.n 95,.n 96]⟩,
 ⟨[(.n 25,true)],.pre 4 [.n 101,.n 102]⟩,
 ⟨[(.n 25,true)],.pre 0 [.n 0,.n 1,.n 6,.n 7]⟩,
 ⟨[(.n 25,true)],.pre 0 [.n 2,.n 3,.n 8,.n 9]⟩,
 ⟨[(.n 25,true)],.pre 1 [.n 113,.n 114,.n 119,.n 120]⟩,
 ⟨[(.n 25,true)],.pre 0 [.n 4,.n 5,.n 10,.n 11]⟩,
 ⟨[(.n 25,true)],.pre 1 [.n 125,.n 126,.n 131,.n 132]⟩,
 ⟨[(.n 144,true),(.n 25,true)],.pre 7 [.n 107,.n 108,.n 137,.n 138]⟩]
theorem Ut:whole Try.prog kr 20 40 8 [(true,[some .i64,some .i64,some .i64,some .i64,some .i64,some .i64]),(true,[some .i64,some .i64,some .i64,some .i64,some .i64,some .i64])]=some (.tup [.agg [.int .i64 (.n 169),.int .i64 (.n 170)],.c (.int .i64 (.n 168))],⟨BR.reverse,Uf.reverse⟩):=by kernel_rfl
theorem Uj:wfN BR.reverse=true:=by kernel_rfl
