/- The contracts of vectors.Of, Cross, Dot, Between. -/
import Derived.Test.YtgmncdmcdgkodaaZSpV
import Derived.Test.YtgmncdmcdgkodaaZUnit
import Derived.Test.YtgmncdmcdgkodaaZTrc
import Derived.Test.YtgmncdmcdgkodaaZTr2
set_option linter.unusedVariables false
set_option linter.unusedSimpArgs false
set_option maxRecDepth 100000
namespace Go.Proofs.Ytgmncdmcdgkodaa
open Go.RowKit Alm Sx
theorem bC {X:Cx} {v:Nat->Int} {ext:Ext} (he:kH X ext) {l:List Nd} (hs:aC X v l.reverse) {ps:List (Nat × Rf)} (hp:∀ q∈ps,v q.1=q.2.val v) {k j:Nat} (h:Rf.eq ((norm ext ps [] l).rep (.n k)) ((norm ext ps [] l).rep (.n j))=true):v k=v j:=by
 have a:=jR (kS he hs hp ek) (.n k);have b:=jR (kS he hs hp ek) (.n j);rw [Rf.eq_eq h] at a;exact a.symm.trans b
def er0 (p q:IV):Int:=(ak 0 [p.1,p.2,q.1,q.2]).getD 2 0
def er1 (p q:IV):Int:=(ak 1 [p.1,p.2,q.1,q.2]).getD 2 0
def er3 (p:IV):Int:=(ak 3 [p.1,p.2]).getD 2 0
def er4 (p:IV):Int:=(ak 4 [p.1,p.2]).getD 2 0
theorem Ee (p q:IV):fxV (uM p q).1 (uM p q).2=true:=(qf _ _).2.2
theorem rM (p q:IV):fxV (uA p q).1 (uA p q).2=true:=(qf _ _).2.2
theorem Db (p q:IV):fxV (uD p q).1 (uD p q).2=true:=(qf _ _).2.2
theorem E9 (p:IV):fxV (uQ p).1 (uQ p).2=true:=(qf _ _).2.2
theorem CJ (p:IV):fxV (uR p).1 (uR p).2=true:=(qf _ _).2.2
def crX (p2 p3 q2 q3:IV):IV:=uD (uM p2 q3) (uM p3 q2)
def dt2 (p1 p2 q1 q2:IV):IV:=uA (uM p1 q1) (uM p2 q2)
def dtI (p1 p2 p3 q1 q2 q3:IV):IV:=uA (dt2 p1 p2 q1 q2) (uM p3 q3)
def sm2 (x y:IV):IV:=uA (uQ x) (uQ y)
def smI (x y z:IV):IV:=uA (sm2 x y) (uQ z)
def ig:List Nd:=[
 .arg 0,
 .arg 1,
 .arg 2,
 .arg 3,
 .bin .leq .i64 (.n 0) (.n 1),
 .bin .geq .i64 (.n 0) (.c (-1099511627776)),
 .bin .leq .i64 (.n 0) (.c 1099511627776),
 .ite (.n 5) (.n 6) (.c 0),
 .ite (.n 4) (.n 7) (.c 0),
 .bin .geq .i64 (.n 1) (.c (-1099511627776)),
 .bin .leq .i64 (.n 1) (.c 1099511627776),
 .ite (.n 9) (.n 10) (.c 0),
 .ite (.n 8) (.n 11) (.c 0),
 .ite (.n 12) (.c 0) (.c 1),
 .bin .leq .i64 (.n 2) (.n 3),
 .bin .geq .i64 (.n 2) (.c (-1099511627776)),
 .bin .leq .i64 (.n 2) (.c 1099511627776),
 .ite (.n 15) (.n 16) (.c 0),
 .ite (.n 14) (.n 17) (.c 0),
 .bin .geq .i64 (.n 3) (.c (-1099511627776)),
 .bin .leq .i64 (.n 3) (.c 1099511627776),
 .ite (.n 19) (.n 20) (.c 0),
 .ite (.n 18) (.n 21) (.c 0),
 .ite (.n 22) (.c 0) (.c 1),
 .ite (.n 13) (.c 1) (.n 23),
 .ite (.n 24) (.c 0) (.c 1),
 .app 6 0 [.n 0,.n 1],
 .app 6 1 [.n 0,.n 1],
 .app 6 2 [.n 0,.n 1],
 .app 6 0 [.n 2,.n 3],
 .app 6 1 [.n 2,.n 3],
 .app 6 2 [.n 2,.n 3],
 .bin .eql .i64 (.n 28) (.c 0),
 .ite (.n 32) (.c 0) (.c 1),
 .ite (.n 32) (.n 31) (.n 28),
 .app 0 0 [.n 26,.n 27,.n 29,.n 30],
 .app 0 1 [.n 26,.n 27,.n 29,.n 30],
 .app 0 2 [.n 26,.n 27,.n 29,.n 30],
 .bin .eql .i64 (.n 34) (.c 0),
 .ite (.n 38) (.c 0) (.c 1),
 .ite (.n 38) (.n 37) (.n 34),
 .app 5 0 [.n 2,.n 3],
 .app 5 1 [.n 2,.n 3],
 .app 5 2 [.n 2,.n 3],
 .bin .eql .i64 (.n 40) (.c 0),
 .ite (.n 44) (.c 0) (.c 1),
 .ite (.n 44) (.n 43) (.n 40),
 .app 0 0 [.n 26,.n 27,.n 41,.n 42],
 .app 0 1 [.n 26,.n 27,.n 41,.n 42],
 .app 0 2 [.n 26,.n 27,.n 41,.n 42],
 .bin .eql .i64 (.n 46) (.c 0),
 .ite (.n 50) (.c 0) (.c 1),
 .ite (.n 50) (.n 49) (.n 46),
 .app 5 0 [.n 0,.n 1],
 .app 5 1 [.n 0,.n 1],
 .app 5 2 [.n 0,.n 1],
 .bin .eql .i64 (.n 52) (.c 0),
 .ite (.n 56) (.c 0) (.c 1),
 .ite (.n 56) (.n 55) (.n 52),
 .bin .neq .i64 (.n 58) (.c 0),
 .ite (.n 59) (.c 0) (.c 1),
 .ite (.n 59) (.n 58) (.c 0),
 .ite (.n 59) (.c 0) (.n 35),
 .ite (.n 59) (.c 0) (.n 36),
 .ite (.n 59) (.c 0) (.n 47),
 .ite (.n 59) (.c 0) (.n 48),
 .ite (.n 59) (.c 0) (.n 53),
 .ite (.n 59) (.c 0) (.n 54),
 .ite (.n 24) (.c 1) (.n 61),
 .ite (.n 24) (.c 0) (.n 62),
 .ite (.n 24) (.c 0) (.n 63),
 .ite (.n 24) (.c 0) (.n 64),
 .ite (.n 24) (.c 0) (.n 65),
 .ite (.n 24) (.c 0) (.n 66),
 .ite (.n 24) (.c 0) (.n 67)]
def J8:List Vc:=[
 ⟨[(.n 25,true)],.pre 6 [.n 0,.n 1]⟩,
 ⟨[(.n 25,true)],.pre 6 [.n 2,.n 3]⟩,
 ⟨[(.n 25,true)],.pre 0 [.n 26,.n 27,.n 29,.n 30]⟩,
 ⟨[(.n 25,true)],.pre 5 [.n 2,.n 3]⟩,
 ⟨[(.n 25,true)],.pre 0 [.n 26,.n 27,.n 41,.n 42]⟩,
 ⟨[(.n 25,true)],.pre 5 [.n 0,.n 1]⟩]
theorem H8:whole Try.prog jY 20 40 29 [(true,[some .i64,some .i64]),(true,[some .i64,some .i64])]=some (.tup [.agg [.int .i64 (.n 69),.int .i64 (.n 70),.int .i64 (.n 71),.int .i64 (.n 72),.int .i64 (.n 73),.int .i64 (.n 74)],.c (.int .i64 (.n 68))],⟨ig.reverse,J8.reverse⟩):=by kernel_rfl
theorem Ky:wfN ig.reverse=true:=by kernel_rfl
theorem Mc (a0 a1 a2 a3:Int) (w:World) (h1:dA a0 a1=true) (h2:dA a2 a3=true):Calls Try.prog 29 #[.agg #[.int .i64 a0,.int .i64 a1],.agg #[.int .i64 a2,.int .i64 a3]] w fun e w'=>e=.returned (.tuple #[.agg #[.int .i64 (uM (uC a0 a1) (uC a2 a3)).1,.int .i64 (uM (uC a0 a1) (uC a2 a3)).2,.int .i64 (uM (uC a0 a1) (uS a2 a3)).1,.int .i64 (uM (uC a0 a1) (uS a2 a3)).2,.int .i64 (uS a0 a1).1,.int .i64 (uS a0 a1).2],.int .i64 0])/\Below w.heap.size w w':=by
 refine Sx.calls (X:=cxB [a0,a1,a2,a3]) iI (gN _) H8 Ky (fun v hs=>?_) w
 have e0:v 0=a0:=ah hs 0 rfl;have e1:v 1=a1:=ah hs 1 rfl;have e2:v 2=a2:=ah hs 2 rfl;have e3:v 3=a3:=ah hs 3 rfl;have A0:dA (v 0) (v 1)=true:=by rw [e0,e1];exact h1
 have A2:dA (v 2) (v 3)=true:=by rw [e2,e3];exact h2
 have q0:=(eT _ _).1 A0;have q2:=(eT _ _).1 A2;have k4:v 4=1:=by have h:v 4=b2i (decide (v 0<=v 1)):=ah hs 4 rfl;rw [h,decide_eq_true (by omega)];rfl
 have k5:v 5=1:=by have h:v 5=b2i (decide (v 0>=-1099511627776)):=ah hs 5 rfl;rw [h,decide_eq_true (by omega)];rfl
 have k6:v 6=1:=by have h:v 6=b2i (decide (v 0<=1099511627776)):=ah hs 6 rfl;rw [h,decide_eq_true (by omega)];rfl
 have k9:v 9=1:=by have h:v 9=b2i (decide (v 1>=-1099511627776)):=ah hs 9 rfl;rw [h,decide_eq_true (by omega)];rfl
 have k10:v 10=1:=by have h:v 10=b2i (decide (v 1<=1099511627776)):=ah hs 10 rfl;rw [h,decide_eq_true (by omega)];rfl
 have k14:v 14=1:=by have h:v 14=b2i (decide (v 2<=v 3)):=ah hs 14 rfl;rw [h,decide_eq_true (by omega)];rfl
 have k15:v 15=1:=by have h:v 15=b2i (decide (v 2>=-1099511627776)):=ah hs 15 rfl;rw [h,decide_eq_true (by omega)];rfl
 have k16:v 16=1:=by have h:v 16=b2i (decide (v 2<=1099511627776)):=ah hs 16 rfl;rw [h,decide_eq_true (by omega)];rfl
 have k19:v 19=1:=by have h:v 19=b2i (decide (v 3>=-1099511627776)):=ah hs 19 rfl;rw [h,decide_eq_true (by omega)];rfl
 have k20:v 20=1:=by have h:v 20=b2i (decide (v 3<=1099511627776)):=ah hs 20 rfl;rw [h,decide_eq_true (by omega)];rfl
 have e26:v 26=(ak 6 [v 0,v 1]).getD 0 0:=ah hs 26 rfl;have e27:v 27=(ak 6 [v 0,v 1]).getD 1 0:=ah hs 27 rfl;have P26:((v 26,v 27):IV)=uC a0 a1:=by rw [e26,e27,e0,e1];rfl
 have U26:U (v 26,v 27):=by rw [P26];exact U_C _ _
 have e29:v 29=(ak 6 [v 2,v 3]).getD 0 0:=ah hs 29 rfl;have e30:v 30=(ak 6 [v 2,v 3]).getD 1 0:=ah hs 30 rfl;have P29:((v 29,v 30):IV)=uC a2 a3:=by rw [e29,e30,e2,e3];rfl
 have U29:U (v 29,v 30):=by rw [P29];exact U_C _ _
 have e41:v 41=(ak 5 [v 2,v 3]).getD 0 0:=ah hs 41 rfl;have e42:v 42=(ak 5 [v 2,v 3]).getD 1 0:=ah hs 42 rfl;have P41:((v 41,v 42):IV)=uS a2 a3:=by rw [e41,e42,e2,e3];rfl
 have U41:U (v 41,v 42):=by rw [P41];exact U_S _ _
 have e53:v 53=(ak 5 [v 0,v 1]).getD 0 0:=ah hs 53 rfl;have e54:v 54=(ak 5 [v 0,v 1]).getD 1 0:=ah hs 54 rfl;have P53:((v 53,v 54):IV)=uS a0 a1:=by rw [e53,e54,e0,e1];rfl
 have U53:U (v 53,v 54):=by rw [P53];exact U_S _ _
 have e35:v 35=(ak 0 [v 26,v 27,v 29,v 30]).getD 0 0:=ah hs 35 rfl;have e36:v 36=(ak 0 [v 26,v 27,v 29,v 30]).getD 1 0:=ah hs 36 rfl;have P35:((v 35,v 36):IV)=uM (v 26,v 27) (v 29,v 30):=by rw [e35,e36];rfl
 have U35:U (v 35,v 36):=by rw [P35];exact (U_M U26 U29).2.2
 have e37:v 37=(ak 0 [v 26,v 27,v 29,v 30]).getD 2 0:=ah hs 37 rfl;have E37:v 37=0:=e37.trans (U_M U26 U29).2.1;have e47:v 47=(ak 0 [v 26,v 27,v 41,v 42]).getD 0 0:=ah hs 47 rfl;have e48:v 48=(ak 0 [v 26,v 27,v 41,v 42]).getD 1 0:=ah hs 48 rfl;have P47:((v 47,v 48):IV)=uM (v 26,v 27) (v 41,v 42):=by rw [e47,e48];rfl
 have U47:U (v 47,v 48):=by rw [P47];exact (U_M U26 U41).2.2
 have e49:v 49=(ak 0 [v 26,v 27,v 41,v 42]).getD 2 0:=ah hs 49 rfl;have E49:v 49=0:=e49.trans (U_M U26 U41).2.1;rw [P26,P29] at P35;rw [P26,P41] at P47;have r69:v 69=(uM (uC a0 a1) (uC a2 a3)).1:=(bC (X:=cxB [a0,a1,a2,a3]) (v:=v) (l:=ig) (bi _) hs (k:=69) (j:=35) (ps:=[(4,.c 1),(5,.c 1),(6,.c 1),(9,.c 1),(10,.c 1),(14,.c 1),(15,.c 1),(16,.c 1),(19,.c 1),(20,.c 1),(37,.c 0),(49,.c 0)]) (ae k4 (ae k5 (ae k6 (ae k9 (ae k10 (ae k14 (ae k15 (ae k16 (ae k19 (ae k20 (ae E37 (ae E49 bI)))))))))))) (by kernel_rfl)).trans (congrArg Prod.fst P35)
 have r70:v 70=(uM (uC a0 a1) (uC a2 a3)).2:=(bC (X:=cxB [a0,a1,a2,a3]) (v:=v) (l:=ig) (bi _) hs (k:=70) (j:=36) (ps:=[(4,.c 1),(5,.c 1),(6,.c 1),(9,.c 1),(10,.c 1),(14,.c 1),(15,.c 1),(16,.c 1),(19,.c 1),(20,.c 1),(37,.c 0),(49,.c 0)]) (ae k4 (ae k5 (ae k6 (ae k9 (ae k10 (ae k14 (ae k15 (ae k16 (ae k19 (ae k20 (ae E37 (ae E49 bI)))))))))))) (by kernel_rfl)).trans (congrArg Prod.snd P35)
 have r71:v 71=(uM (uC a0 a1) (uS a2 a3)).1:=(bC (X:=cxB [a0,a1,a2,a3]) (v:=v) (l:=ig) (bi _) hs (k:=71) (j:=47) (ps:=[(4,.c 1),(5,.c 1),(6,.c 1),(9,.c 1),(10,.c 1),(14,.c 1),(15,.c 1),(16,.c 1),(19,.c 1),(20,.c 1),(37,.c 0),(49,.c 0)]) (ae k4 (ae k5 (ae k6 (ae k9 (ae k10 (ae k14 (ae k15 (ae k16 (ae k19 (ae k20 (ae E37 (ae E49 bI)))))))))))) (by kernel_rfl)).trans (congrArg Prod.fst P47)
 have r72:v 72=(uM (uC a0 a1) (uS a2 a3)).2:=(bC (X:=cxB [a0,a1,a2,a3]) (v:=v) (l:=ig) (bi _) hs (k:=72) (j:=48) (ps:=[(4,.c 1),(5,.c 1),(6,.c 1),(9,.c 1),(10,.c 1),(14,.c 1),(15,.c 1),(16,.c 1),(19,.c 1),(20,.c 1),(37,.c 0),(49,.c 0)]) (ae k4 (ae k5 (ae k6 (ae k9 (ae k10 (ae k14 (ae k15 (ae k16 (ae k19 (ae k20 (ae E37 (ae E49 bI)))))))))))) (by kernel_rfl)).trans (congrArg Prod.snd P47)
 have r73:v 73=(uS a0 a1).1:=(bC (X:=cxB [a0,a1,a2,a3]) (v:=v) (l:=ig) (bi _) hs (k:=73) (j:=53) (ps:=[(4,.c 1),(5,.c 1),(6,.c 1),(9,.c 1),(10,.c 1),(14,.c 1),(15,.c 1),(16,.c 1),(19,.c 1),(20,.c 1),(37,.c 0),(49,.c 0)]) (ae k4 (ae k5 (ae k6 (ae k9 (ae k10 (ae k14 (ae k15 (ae k16 (ae k19 (ae k20 (ae E37 (ae E49 bI)))))))))))) (by kernel_rfl)).trans (congrArg Prod.fst P53)
 have r74:v 74=(uS a0 a1).2:=(bC (X:=cxB [a0,a1,a2,a3]) (v:=v) (l:=ig) (bi _) hs (k:=74) (j:=54) (ps:=[(4,.c 1),(5,.c 1),(6,.c 1),(9,.c 1),(10,.c 1),(14,.c 1),(15,.c 1),(16,.c 1),(19,.c 1),(20,.c 1),(37,.c 0),(49,.c 0)]) (ae k4 (ae k5 (ae k6 (ae k9 (ae k10 (ae k14 (ae k15 (ae k16 (ae k19 (ae k20 (ae E37 (ae E49 bI)))))))))))) (by kernel_rfl)).trans (congrArg Prod.snd P53)
 have rE:v 68=0:=dI (X:=cxB [a0,a1,a2,a3]) (v:=v) (l:=ig) (bi _) hs (k:=68) (r:=.c 0) (ps:=[(4,.c 1),(5,.c 1),(6,.c 1),(9,.c 1),(10,.c 1),(14,.c 1),(15,.c 1),(16,.c 1),(19,.c 1),(20,.c 1),(37,.c 0),(49,.c 0)]) (nz:=[]) (ae k4 (ae k5 (ae k6 (ae k9 (ae k10 (ae k14 (ae k15 (ae k16 (ae k19 (ae k20 (ae E37 (ae E49 bI)))))))))))) ek (by kernel_rfl)
 refine ⟨jA hs (fs:=[]) (rs:=[((.n 25,true),(.n 0,.n 1)),((.n 25,true),(.n 2,.n 3))]) (fun e he=>by cases he) (fun e he=>by simp only [List.mem_cons,List.not_mem_nil,or_false] at he;rcases he with rfl|rfl<;>intro _<;>assumption) (by kernel_rfl),?_⟩
 intro x hx0;have hx':=og (v:=v) (by rfl) hx0
 rw [hx'];show Value.tuple #[.agg #[.int .i64 (v 69),.int .i64 (v 70),.int .i64 (v 71),.int .i64 (v 72),.int .i64 (v 73),.int .i64 (v 74)],.int .i64 (v 68)]=_;rw [r69,r70,r71,r72,r73,r74,rE]
def iJ:List Nd:=[
 .arg 0,
 .arg 1,
 .arg 2,
 .arg 3,
 .arg 4,
 .arg 5,
 .arg 6,
 .arg 7,
 .arg 8,
 .arg 9,
 .arg 10,
 .arg 11,
 .app 8 0 [.n 0,.n 1],
 .app 8 0 [.n 2,.n 3],
 .ite (.n 12) (.n 13) (.c 0),
 .app 8 0 [.n 4,.n 5],
 .ite (.n 14) (.n 15) (.c 0),
 .ite (.n 16) (.c 0) (.c 1),
 .app 8 0 [.n 6,.n 7],
 .app 8 0 [.n 8,.n 9],
 .ite (.n 18) (.n 19) (.c 0),
 .app 8 0 [.n 10,.n 11],
 .ite (.n 20) (.n 21) (.c 0),
 .ite (.n 22) (.c 0) (.c 1),
 .ite (.n 17) (.c 1) (.n 23),
 .ite (.n 24) (.c 0) (.c 1),
 .app 0 0 [.n 2,.n 3,.n 10,.n 11],
 .app 0 1 [.n 2,.n 3,.n 10,.n 11],
 .app 0 2 [.n 2,.n 3,.n 10,.n 11],
 .app 0 0 [.n 4,.n 5,.n 8,.n 9],
 .app 0 1 [.n 4,.n 5,.n 8,.n 9],
 .app 0 2 [.n 4,.n 5,.n 8,.n 9],
 .bin .eql .i64 (.n 28) (.c 0),
 .ite (.n 32) (.c 0) (.c 1),
 .ite (.n 32) (.n 31) (.n 28),
 .app 2 0 [.n 26,.n 27,.n 29,.n 30],
 .app 2 1 [.n 26,.n 27,.n 29,.n 30],
 .app 2 2 [.n 26,.n 27,.n 29,.n 30],
 .bin .eql .i64 (.n 34) (.c 0),
 .ite (.n 38) (.c 0) (.c 1),
 .ite (.n 38) (.n 37) (.n 34),
 .app 0 0 [.n 4,.n 5,.n 6,.n 7],
 .app 0 1 [.n 4,.n 5,.n 6,.n 7],
 .app 0 2 [.n 4,.n 5,.n 6,.n 7],
 .bin .eql .i64 (.n 40) (.c 0),
 .ite (.n 44) (.c 0) (.c 1),
 .ite (.n 44) (.n 43) (.n 40),
 .app 0 0 [.n 0,.n 1,.n 10,.n 11],
 .app 0 1 [.n 0,.n 1,.n 10,.n 11],
 .app 0 2 [.n 0,.n 1,.n 10,.n 11],
 .bin .eql .i64 (.n 46) (.c 0),
 .ite (.n 50) (.c 0) (.c 1),
 .ite (.n 50) (.n 49) (.n 46),
 .app 2 0 [.n 41,.n 42,.n 47,.n 48],
 .app 2 1 [.n 41,.n 42,.n 47,.n 48],
 .app 2 2 [.n 41,.n 42,.n 47,.n 48],
 .bin .eql .i64 (.n 52) (.c 0),
 .ite (.n 56) (.c 0) (.c 1),
 .ite (.n 56) (.n 55) (.n 52),
 .app 0 0 [.n 0,.n 1,.n 8,.n 9],
 .app 0 1 [.n 0,.n 1,.n 8,.n 9],
 .app 0 2 [.n 0,.n 1,.n 8,.n 9],
 .bin .eql .i64 (.n 58) (.c 0),
 .ite (.n 62) (.c 0) (.c 1),
 .ite (.n 62) (.n 61) (.n 58),
 .app 0 0 [.n 2,.n 3,.n 6,.n 7],
 .app 0 1 [.n 2,.n 3,.n 6,.n 7],
 .app 0 2 [.n 2,.n 3,.n 6,.n 7],
 .bin .eql .i64 (.n 64) (.c 0),
 .ite (.n 68) (.c 0) (.c 1),
 .ite (.n 68) (.n 67) (.n 64),
 .app 2 0 [.n 59,.n 60,.n 65,.n 66],
 .app 2 1 [.n 59,.n 60,.n 65,.n 66],
 .app 2 2 [.n 59,.n 60,.n 65,.n 66],
 .bin .eql .i64 (.n 70) (.c 0),
 .ite (.n 74) (.c 0) (.c 1),
 .ite (.n 74) (.n 73) (.n 70),
 .bin .neq .i64 (.n 76) (.c 0),
 .ite (.n 77) (.c 0) (.c 1),
 .ite (.n 77) (.n 76) (.c 0),
 .ite (.n 77) (.c 0) (.n 35),
 .ite (.n 77) (.c 0) (.n 36),
 .ite (.n 77) (.c 0) (.n 53),
 .ite (.n 77) (.c 0) (.n 54),
 .ite (.n 77) (.c 0) (.n 71),
 .ite (.n 77) (.c 0) (.n 72),
 .ite (.n 24) (.c 1) (.n 79),
 .ite (.n 24) (.c 0) (.n 80),
 .ite (.n 24) (.c 0) (.n 81),
 .ite (.n 24) (.c 0) (.n 82),
 .ite (.n 24) (.c 0) (.n 83),
 .ite (.n 24) (.c 0) (.n 84),
 .ite (.n 24) (.c 0) (.n 85)]
def K8:List Vc:=[
 ⟨[],.pre 8 [.n 0,.n 1]⟩,
 ⟨[(.n 12,true)],.pre 8 [.n 2,.n 3]⟩,
 ⟨[(.n 14,true)],.pre 8 [.n 4,.n 5]⟩,
 ⟨[(.n 17,false)],.pre 8 [.n 6,.n 7]⟩,
 ⟨[(.n 17,false),(.n 18,true)],.pre 8 [.n 8,.n 9]⟩,
 ⟨[(.n 17,false),(.n 20,true)],.pre 8 [.n 10,.n 11]⟩,
 ⟨[(.n 25,true)],.pre 0 [.n 2,.n 3,.n 10,.n 11]⟩,
 ⟨[(.n 25,true)],.pre 0 [.n 4,.n 5,.n 8,.n 9]⟩,
 ⟨[(.n 25,true)],.pre 2 [.n 26,.n 27,.n 29,.n 30]⟩,
 ⟨[(.n 25,true)],.pre 0 [.n 4,.n 5,.n 6,.n 7]⟩,
 ⟨[(.n 25,true)],.pre 0 [.n 0,.n 1,.n 10,.n 11]⟩,
 ⟨[(.n 25,true)],.pre 2 [.n 41,.n 42,.n 47,.n 48]⟩,
 ⟨[(.n 25,true)],.pre 0 [.n 0,.n 1,.n 8,.n 9]⟩,
 ⟨[(.n 25,true)],.pre 0 [.n 2,.n 3,.n 6,.n 7]⟩,
 ⟨[(.n 25,true)],.pre 2 [.n 59,.n 60,.n 65,.n 66]⟩]
theorem Lm:whole Try.prog jY 20 40 43 [(true,[some .i64,some .i64,some .i64,some .i64,some .i64,some .i64]),(true,[some .i64,some .i64,some .i64,some .i64,some .i64,some .i64])]=some (.tup [.agg [.int .i64 (.n 87),.int .i64 (.n 88),.int .i64 (.n 89),.int .i64 (.n 90),.int .i64 (.n 91),.int .i64 (.n 92)],.c (.int .i64 (.n 86))],⟨iJ.reverse,K8.reverse⟩):=by kernel_rfl
theorem KA:wfN iJ.reverse=true:=by kernel_rfl
theorem Mq (a0 a1 a2 a3 a4 a5 a6 a7 a8 a9 a10 a11:Int) (w:World) (u0:U (a0,a1)) (u1:U (a2,a3)) (u2:U (a4,a5)) (u3:U (a6,a7)) (u4:U (a8,a9)) (u5:U (a10,a11)):Calls Try.prog 43 #[.agg #[.int .i64 a0,.int .i64 a1,.int .i64 a2,.int .i64 a3,.int .i64 a4,.int .i64 a5],.agg #[.int .i64 a6,.int .i64 a7,.int .i64 a8,.int .i64 a9,.int .i64 a10,.int .i64 a11]] w fun e w'=>e=.returned (.tuple #[.agg #[.int .i64 (crX ((a2,a3):IV) ((a4,a5):IV) ((a8,a9):IV) ((a10,a11):IV)).1,.int .i64 (crX ((a2,a3):IV) ((a4,a5):IV) ((a8,a9):IV) ((a10,a11):IV)).2,.int .i64 (crX ((a4,a5):IV) ((a0,a1):IV) ((a10,a11):IV) ((a6,a7):IV)).1,.int .i64 (crX ((a4,a5):IV) ((a0,a1):IV) ((a10,a11):IV) ((a6,a7):IV)).2,.int .i64 (crX ((a0,a1):IV) ((a2,a3):IV) ((a6,a7):IV) ((a8,a9):IV)).1,.int .i64 (crX ((a0,a1):IV) ((a2,a3):IV) ((a6,a7):IV) ((a8,a9):IV)).2],.int .i64 0])/\Below w.heap.size w w':=by
 refine Sx.calls (X:=cxB [a0,a1,a2,a3,a4,a5,a6,a7,a8,a9,a10,a11]) iI (gN _) Lm KA (fun v hs=>?_) w
 have e0:v 0=a0:=ah hs 0 rfl;have e1:v 1=a1:=ah hs 1 rfl;have e2:v 2=a2:=ah hs 2 rfl;have e3:v 3=a3:=ah hs 3 rfl;have e4:v 4=a4:=ah hs 4 rfl;have e5:v 5=a5:=ah hs 5 rfl;have e6:v 6=a6:=ah hs 6 rfl;have e7:v 7=a7:=ah hs 7 rfl;have e8:v 8=a8:=ah hs 8 rfl;have e9:v 9=a9:=ah hs 9 rfl;have e10:v 10=a10:=ah hs 10 rfl;have e11:v 11=a11:=ah hs 11 rfl;have P0:((v 0,v 1):IV)=(a0,a1):=by rw [e0,e1]
 have P2:((v 2,v 3):IV)=(a2,a3):=by rw [e2,e3]
 have P4:((v 4,v 5):IV)=(a4,a5):=by rw [e4,e5]
 have P6:((v 6,v 7):IV)=(a6,a7):=by rw [e6,e7]
 have P8:((v 8,v 9):IV)=(a8,a9):=by rw [e8,e9]
 have P10:((v 10,v 11):IV)=(a10,a11):=by rw [e10,e11]
 have U0:U (v 0,v 1):=by rw [P0];exact u0
 have F0:fxV (v 0) (v 1)=true:=ma U0;have U2:U (v 2,v 3):=by rw [P2];exact u1
 have F2:fxV (v 2) (v 3)=true:=ma U2;have U4:U (v 4,v 5):=by rw [P4];exact u2
 have F4:fxV (v 4) (v 5)=true:=ma U4;have U6:U (v 6,v 7):=by rw [P6];exact u3
 have F6:fxV (v 6) (v 7)=true:=ma U6;have U8:U (v 8,v 9):=by rw [P8];exact u4
 have F8:fxV (v 8) (v 9)=true:=ma U8;have U10:U (v 10,v 11):=by rw [P10];exact u5
 have F10:fxV (v 10) (v 11)=true:=ma U10;have k12:v 12=1:=by have h:v 12=b2i (fxV (v 0) (v 1)):=ah hs 12 rfl;rw [h,F0];rfl
 have k13:v 13=1:=by have h:v 13=b2i (fxV (v 2) (v 3)):=ah hs 13 rfl;rw [h,F2];rfl
 have k15:v 15=1:=by have h:v 15=b2i (fxV (v 4) (v 5)):=ah hs 15 rfl;rw [h,F4];rfl
 have k18:v 18=1:=by have h:v 18=b2i (fxV (v 6) (v 7)):=ah hs 18 rfl;rw [h,F6];rfl
 have k19:v 19=1:=by have h:v 19=b2i (fxV (v 8) (v 9)):=ah hs 19 rfl;rw [h,F8];rfl
 have k21:v 21=1:=by have h:v 21=b2i (fxV (v 10) (v 11)):=ah hs 21 rfl;rw [h,F10];rfl
 have e26:v 26=(ak 0 [v 2,v 3,v 10,v 11]).getD 0 0:=ah hs 26 rfl;have e27:v 27=(ak 0 [v 2,v 3,v 10,v 11]).getD 1 0:=ah hs 27 rfl;have P26:((v 26,v 27):IV)=uM (v 2,v 3) (v 10,v 11):=by rw [e26,e27];rfl
 have U26:U (v 26,v 27):=by rw [P26];exact (U_M U2 U10).2.2
 have e28:v 28=(ak 0 [v 2,v 3,v 10,v 11]).getD 2 0:=ah hs 28 rfl;have E28:v 28=0:=e28.trans (U_M U2 U10).2.1;have e29:v 29=(ak 0 [v 4,v 5,v 8,v 9]).getD 0 0:=ah hs 29 rfl;have e30:v 30=(ak 0 [v 4,v 5,v 8,v 9]).getD 1 0:=ah hs 30 rfl;have P29:((v 29,v 30):IV)=uM (v 4,v 5) (v 8,v 9):=by rw [e29,e30];rfl
 have U29:U (v 29,v 30):=by rw [P29];exact (U_M U4 U8).2.2
 have e31:v 31=(ak 0 [v 4,v 5,v 8,v 9]).getD 2 0:=ah hs 31 rfl;have E31:v 31=0:=e31.trans (U_M U4 U8).2.1;have e35:v 35=(ak 2 [v 26,v 27,v 29,v 30]).getD 0 0:=ah hs 35 rfl;have e36:v 36=(ak 2 [v 26,v 27,v 29,v 30]).getD 1 0:=ah hs 36 rfl;have P35:((v 35,v 36):IV)=uD (v 26,v 27) (v 29,v 30):=by rw [e35,e36];rfl
 have F35:fxV (v 35) (v 36)=true:=by have:=(U_D U26 U29).2.2;rw [<-P35] at this;exact this
 have e37:v 37=(ak 2 [v 26,v 27,v 29,v 30]).getD 2 0:=ah hs 37 rfl;have E37:v 37=0:=e37.trans (U_D U26 U29).2.1;have e41:v 41=(ak 0 [v 4,v 5,v 6,v 7]).getD 0 0:=ah hs 41 rfl;have e42:v 42=(ak 0 [v 4,v 5,v 6,v 7]).getD 1 0:=ah hs 42 rfl;have P41:((v 41,v 42):IV)=uM (v 4,v 5) (v 6,v 7):=by rw [e41,e42];rfl
 have U41:U (v 41,v 42):=by rw [P41];exact (U_M U4 U6).2.2
 have e43:v 43=(ak 0 [v 4,v 5,v 6,v 7]).getD 2 0:=ah hs 43 rfl;have E43:v 43=0:=e43.trans (U_M U4 U6).2.1;have e47:v 47=(ak 0 [v 0,v 1,v 10,v 11]).getD 0 0:=ah hs 47 rfl;have e48:v 48=(ak 0 [v 0,v 1,v 10,v 11]).getD 1 0:=ah hs 48 rfl;have P47:((v 47,v 48):IV)=uM (v 0,v 1) (v 10,v 11):=by rw [e47,e48];rfl
 have U47:U (v 47,v 48):=by rw [P47];exact (U_M U0 U10).2.2
 have e49:v 49=(ak 0 [v 0,v 1,v 10,v 11]).getD 2 0:=ah hs 49 rfl;have E49:v 49=0:=e49.trans (U_M U0 U10).2.1;have e53:v 53=(ak 2 [v 41,v 42,v 47,v 48]).getD 0 0:=ah hs 53 rfl;have e54:v 54=(ak 2 [v 41,v 42,v 47,v 48]).getD 1 0:=ah hs 54 rfl;have P53:((v 53,v 54):IV)=uD (v 41,v 42) (v 47,v 48):=by rw [e53,e54];rfl
 have F53:fxV (v 53) (v 54)=true:=by have:=(U_D U41 U47).2.2;rw [<-P53] at this;exact this
 have e55:v 55=(ak 2 [v 41,v 42,v 47,v 48]).getD 2 0:=ah hs 55 rfl;have E55:v 55=0:=e55.trans (U_D U41 U47).2.1;have e59:v 59=(ak 0 [v 0,v 1,v 8,v 9]).getD 0 0:=ah hs 59 rfl;have e60:v 60=(ak 0 [v 0,v 1,v 8,v 9]).getD 1 0:=ah hs 60 rfl;have P59:((v 59,v 60):IV)=uM (v 0,v 1) (v 8,v 9):=by rw [e59,e60];rfl
 have U59:U (v 59,v 60):=by rw [P59];exact (U_M U0 U8).2.2
 have e61:v 61=(ak 0 [v 0,v 1,v 8,v 9]).getD 2 0:=ah hs 61 rfl;have E61:v 61=0:=e61.trans (U_M U0 U8).2.1;have e65:v 65=(ak 0 [v 2,v 3,v 6,v 7]).getD 0 0:=ah hs 65 rfl;have e66:v 66=(ak 0 [v 2,v 3,v 6,v 7]).getD 1 0:=ah hs 66 rfl;have P65:((v 65,v 66):IV)=uM (v 2,v 3) (v 6,v 7):=by rw [e65,e66];rfl
 have U65:U (v 65,v 66):=by rw [P65];exact (U_M U2 U6).2.2
 have e67:v 67=(ak 0 [v 2,v 3,v 6,v 7]).getD 2 0:=ah hs 67 rfl;have E67:v 67=0:=e67.trans (U_M U2 U6).2.1;have e71:v 71=(ak 2 [v 59,v 60,v 65,v 66]).getD 0 0:=ah hs 71 rfl;have e72:v 72=(ak 2 [v 59,v 60,v 65,v 66]).getD 1 0:=ah hs 72 rfl;have P71:((v 71,v 72):IV)=uD (v 59,v 60) (v 65,v 66):=by rw [e71,e72];rfl
 have F71:fxV (v 71) (v 72)=true:=by have:=(U_D U59 U65).2.2;rw [<-P71] at this;exact this
 have e73:v 73=(ak 2 [v 59,v 60,v 65,v 66]).getD 2 0:=ah hs 73 rfl;have E73:v 73=0:=e73.trans (U_D U59 U65).2.1;have C35:((v 35,v 36):IV)=crX ((a2,a3):IV) ((a4,a5):IV) ((a8,a9):IV) ((a10,a11):IV):=by rw [P35,P26,P29,P2,P10,P4,P8];rfl
 have C53:((v 53,v 54):IV)=crX ((a4,a5):IV) ((a0,a1):IV) ((a10,a11):IV) ((a6,a7):IV):=by rw [P53,P41,P47,P4,P6,P0,P10];rfl
 have C71:((v 71,v 72):IV)=crX ((a0,a1):IV) ((a2,a3):IV) ((a6,a7):IV) ((a8,a9):IV):=by rw [P71,P59,P65,P0,P8,P2,P6];rfl
 have r87:v 87=(crX ((a2,a3):IV) ((a4,a5):IV) ((a8,a9):IV) ((a10,a11):IV)).1:=(bC (X:=cxB [a0,a1,a2,a3,a4,a5,a6,a7,a8,a9,a10,a11]) (v:=v) (l:=iJ) (bi _) hs (k:=87) (j:=35) (ps:=[(12,.c 1),(13,.c 1),(15,.c 1),(18,.c 1),(19,.c 1),(21,.c 1),(28,.c 0),(31,.c 0),(37,.c 0),(43,.c 0),(49,.c 0),(55,.c 0),(61,.c 0),(67,.c 0),(73,.c 0)]) (ae k12 (ae k13 (ae k15 (ae k18 (ae k19 (ae k21 (ae E28 (ae E31 (ae E37 (ae E43 (ae E49 (ae E55 (ae E61 (ae E67 (ae E73 bI))))))))))))))) (by kernel_rfl)).trans (congrArg Prod.fst C35)
 have r88:v 88=(crX ((a2,a3):IV) ((a4,a5):IV) ((a8,a9):IV) ((a10,a11):IV)).2:=(bC (X:=cxB [a0,a1,a2,a3,a4,a5,a6,a7,a8,a9,a10,a11]) (v:=v) (l:=iJ) (bi _) hs (k:=88) (j:=36) (ps:=[(12,.c 1),(13,.c 1),(15,.c 1),(18,.c 1),(19,.c 1),(21,.c 1),(28,.c 0),(31,.c 0),(37,.c 0),(43,.c 0),(49,.c 0),(55,.c 0),(61,.c 0),(67,.c 0),(73,.c 0)]) (ae k12 (ae k13 (ae k15 (ae k18 (ae k19 (ae k21 (ae E28 (ae E31 (ae E37 (ae E43 (ae E49 (ae E55 (ae E61 (ae E67 (ae E73 bI))))))))))))))) (by kernel_rfl)).trans (congrArg Prod.snd C35)
 have r89:v 89=(crX ((a4,a5):IV) ((a0,a1):IV) ((a10,a11):IV) ((a6,a7):IV)).1:=(bC (X:=cxB [a0,a1,a2,a3,a4,a5,a6,a7,a8,a9,a10,a11]) (v:=v) (l:=iJ) (bi _) hs (k:=89) (j:=53) (ps:=[(12,.c 1),(13,.c 1),(15,.c 1),(18,.c 1),(19,.c 1),(21,.c 1),(28,.c 0),(31,.c 0),(37,.c 0),(43,.c 0),(49,.c 0),(55,.c 0),(61,.c 0),(67,.c 0),(73,.c 0)]) (ae k12 (ae k13 (ae k15 (ae k18 (ae k19 (ae k21 (ae E28 (ae E31 (ae E37 (ae E43 (ae E49 (ae E55 (ae E61 (ae E67 (ae E73 bI))))))))))))))) (by kernel_rfl)).trans (congrArg Prod.fst C53)
 have r90:v 90=(crX ((a4,a5):IV) ((a0,a1):IV) ((a10,a11):IV) ((a6,a7):IV)).2:=(bC (X:=cxB [a0,a1,a2,a3,a4,a5,a6,a7,a8,a9,a10,a11]) (v:=v) (l:=iJ) (bi _) hs (k:=90) (j:=54) (ps:=[(12,.c 1),(13,.c 1),(15,.c 1),(18,.c 1),(19,.c 1),(21,.c 1),(28,.c 0),(31,.c 0),(37,.c 0),(43,.c 0),(49,.c 0),(55,.c 0),(61,.c 0),(67,.c 0),(73,.c 0)]) (ae k12 (ae k13 (ae k15 (ae k18 (ae k19 (ae k21 (ae E28 (ae E31 (ae E37 (ae E43 (ae E49 (ae E55 (ae E61 (ae E67 (ae E73 bI))))))))))))))) (by kernel_rfl)).trans (congrArg Prod.snd C53)
 have r91:v 91=(crX ((a0,a1):IV) ((a2,a3):IV) ((a6,a7):IV) ((a8,a9):IV)).1:=(bC (X:=cxB [a0,a1,a2,a3,a4,a5,a6,a7,a8,a9,a10,a11]) (v:=v) (l:=iJ) (bi _) hs (k:=91) (j:=71) (ps:=[(12,.c 1),(13,.c 1),(15,.c 1),(18,.c 1),(19,.c 1),(21,.c 1),(28,.c 0),(31,.c 0),(37,.c 0),(43,.c 0),(49,.c 0),(55,.c 0),(61,.c 0),(67,.c 0),(73,.c 0)]) (ae k12 (ae k13 (ae k15 (ae k18 (ae k19 (ae k21 (ae E28 (ae E31 (ae E37 (ae E43 (ae E49 (ae E55 (ae E61 (ae E67 (ae E73 bI))))))))))))))) (by kernel_rfl)).trans (congrArg Prod.fst C71)
 have r92:v 92=(crX ((a0,a1):IV) ((a2,a3):IV) ((a6,a7):IV) ((a8,a9):IV)).2:=(bC (X:=cxB [a0,a1,a2,a3,a4,a5,a6,a7,a8,a9,a10,a11]) (v:=v) (l:=iJ) (bi _) hs (k:=92) (j:=72) (ps:=[(12,.c 1),(13,.c 1),(15,.c 1),(18,.c 1),(19,.c 1),(21,.c 1),(28,.c 0),(31,.c 0),(37,.c 0),(43,.c 0),(49,.c 0),(55,.c 0),(61,.c 0),(67,.c 0),(73,.c 0)]) (ae k12 (ae k13 (ae k15 (ae k18 (ae k19 (ae k21 (ae E28 (ae E31 (ae E37 (ae E43 (ae E49 (ae E55 (ae E61 (ae E67 (ae E73 bI))))))))))))))) (by kernel_rfl)).trans (congrArg Prod.snd C71)
 have rE:v 86=0:=dI (X:=cxB [a0,a1,a2,a3,a4,a5,a6,a7,a8,a9,a10,a11]) (v:=v) (l:=iJ) (bi _) hs (k:=86) (r:=.c 0) (ps:=[(12,.c 1),(13,.c 1),(15,.c 1),(18,.c 1),(19,.c 1),(21,.c 1),(28,.c 0),(31,.c 0),(37,.c 0),(43,.c 0),(49,.c 0),(55,.c 0),(61,.c 0),(67,.c 0),(73,.c 0)]) (nz:=[]) (ae k12 (ae k13 (ae k15 (ae k18 (ae k19 (ae k21 (ae E28 (ae E31 (ae E37 (ae E43 (ae E49 (ae E55 (ae E61 (ae E67 (ae E73 bI))))))))))))))) ek (by kernel_rfl)
 refine ⟨jA hs (fs:=[((.n 12,true),(.n 0,.n 1)),((.n 12,true),(.n 2,.n 3)),((.n 12,true),(.n 4,.n 5)),((.n 12,true),(.n 6,.n 7)),((.n 12,true),(.n 8,.n 9)),((.n 12,true),(.n 10,.n 11)),((.n 14,true),(.n 0,.n 1)),((.n 14,true),(.n 2,.n 3)),((.n 14,true),(.n 4,.n 5)),((.n 14,true),(.n 6,.n 7)),((.n 14,true),(.n 8,.n 9)),((.n 14,true),(.n 10,.n 11)),((.n 18,true),(.n 0,.n 1)),((.n 18,true),(.n 2,.n 3)),((.n 18,true),(.n 4,.n 5)),((.n 18,true),(.n 6,.n 7)),((.n 18,true),(.n 8,.n 9)),((.n 18,true),(.n 10,.n 11)),((.n 20,true),(.n 0,.n 1)),((.n 20,true),(.n 2,.n 3)),((.n 20,true),(.n 4,.n 5)),((.n 20,true),(.n 6,.n 7)),((.n 20,true),(.n 8,.n 9)),((.n 20,true),(.n 10,.n 11)),((.n 25,true),(.n 0,.n 1)),((.n 25,true),(.n 2,.n 3)),((.n 25,true),(.n 4,.n 5)),((.n 25,true),(.n 6,.n 7)),((.n 25,true),(.n 8,.n 9)),((.n 25,true),(.n 10,.n 11))]) (rs:=[]) (fun e he=>by simp only [List.mem_cons,List.not_mem_nil,or_false] at he;rcases he with rfl|rfl|rfl|rfl|rfl|rfl|rfl|rfl|rfl|rfl|rfl|rfl|rfl|rfl|rfl|rfl|rfl|rfl|rfl|rfl|rfl|rfl|rfl|rfl|rfl|rfl|rfl|rfl|rfl|rfl<;>intro _<;>assumption) (fun e he=>by cases he) (by kernel_rfl),?_⟩
 intro x hx0;have hx':=og (v:=v) (by rfl) hx0
 rw [hx'];show Value.tuple #[.agg #[.int .i64 (v 87),.int .i64 (v 88),.int .i64 (v 89),.int .i64 (v 90),.int .i64 (v 91),.int .i64 (v 92)],.int .i64 (v 86)]=_;rw [r87,r88,r89,r90,r91,r92,rE]
def qz:List Nd:=[
 .arg 0,
 .arg 1,
 .arg 2,
 .arg 3,
 .arg 4,
 .arg 5,
 .arg 6,
 .arg 7,
 .arg 8,
 .arg 9,
 .arg 10,
 .arg 11,
 .app 8 0 [.n 0,.n 1],
 .app 8 0 [.n 2,.n 3],
 .ite (.n 12) (.n 13) (.c 0),
 .app 8 0 [.n 4,.n 5],
 .ite (.n 14) (.n 15) (.c 0),
 .ite (.n 16) (.c 0) (.c 1),
 .app 8 0 [.n 6,.n 7],
 .app 8 0 [.n 8,.n 9],
 .ite (.n 18) (.n 19) (.c 0),
 .app 8 0 [.n 10,.n 11],
 .ite (.n 20) (.n 21) (.c 0),
 .ite (.n 22) (.c 0) (.c 1),
 .ite (.n 17) (.c 1) (.n 23),
 .ite (.n 24) (.c 0) (.c 1),
 .app 0 0 [.n 0,.n 1,.n 6,.n 7],
 .app 0 1 [.n 0,.n 1,.n 6,.n 7],
 .app 0 2 [.n 0,.n 1,.n 6,.n 7],
 .app 0 0 [.n 2,.n 3,.n 8,.n 9],
 .app 0 1 [.n 2,.n 3,.n 8,.n 9],
 .app 0 2 [.n 2,.n 3,.n 8,.n 9],
 .bin .eql .i64 (.n 28) (.c 0),
 .ite (.n 32) (.c 0) (.c 1),
 .ite (.n 32) (.n 31) (.n 28),
 .app 1 0 [.n 26,.n 27,.n 29,.n 30],
 .app 1 1 [.n 26,.n 27,.n 29,.n 30],
 .app 1 2 [.n 26,.n 27,.n 29,.n 30],
 .bin .eql .i64 (.n 34) (.c 0),
 .ite (.n 38) (.c 0) (.c 1),
 .ite (.n 38) (.n 37) (.n 34),
 .app 0 0 [.n 4,.n 5,.n 10,.n 11],
 .app 0 1 [.n 4,.n 5,.n 10,.n 11],
 .app 0 2 [.n 4,.n 5,.n 10,.n 11],
 .bin .eql .i64 (.n 40) (.c 0),
 .ite (.n 44) (.c 0) (.c 1),
 .ite (.n 44) (.n 43) (.n 40),
 .app 1 0 [.n 35,.n 36,.n 41,.n 42],
 .app 1 1 [.n 35,.n 36,.n 41,.n 42],
 .app 1 2 [.n 35,.n 36,.n 41,.n 42],
 .bin .eql .i64 (.n 46) (.c 0),
 .ite (.n 50) (.c 0) (.c 1),
 .ite (.n 50) (.n 49) (.n 46),
 .bin .neq .i64 (.n 52) (.c 0),
 .ite (.n 53) (.c 0) (.c 1),
 .ite (.n 53) (.n 52) (.c 0),
 .ite (.n 53) (.c 0) (.n 47),
 .ite (.n 53) (.c 0) (.n 48),
 .ite (.n 24) (.c 1) (.n 55),
 .ite (.n 24) (.c 0) (.n 56),
 .ite (.n 24) (.c 0) (.n 57)]
def Kc:List Vc:=[
 ⟨[],.pre 8 [.n 0,.n 1]⟩,
 ⟨[(.n 12,true)],.pre 8 [.n 2,.n 3]⟩,
 ⟨[(.n 14,true)],.pre 8 [.n 4,.n 5]⟩,
 ⟨[(.n 17,false)],.pre 8 [.n 6,.n 7]⟩,
 ⟨[(.n 17,false),(.n 18,true)],.pre 8 [.n 8,.n 9]⟩,
 ⟨[(.n 17,false),(.n 20,true)],.pre 8 [.n 10,.n 11]⟩,
 ⟨[(.n 25,true)],.pre 0 [.n 0,.n 1,.n 6,.n 7]⟩,
 ⟨[(.n 25,true)],.pre 0 [.n 2,.n 3,.n 8,.n 9]⟩,
 ⟨[(.n 25,true)],.pre 1 [.n 26,.n 27,.n 29,.n 30]⟩,
 ⟨[(.n 25,true)],.pre 0 [.n 4,.n 5,.n 10,.n 11]⟩,
 ⟨[(.n 25,true)],.pre 1 [.n 35,.n 36,.n 41,.n 42]⟩]
theorem KV:whole Try.prog jY 20 40 45 [(true,[some .i64,some .i64,some .i64,some .i64,some .i64,some .i64]),(true,[some .i64,some .i64,some .i64,some .i64,some .i64,some .i64])]=some (.tup [.agg [.int .i64 (.n 59),.int .i64 (.n 60)],.c (.int .i64 (.n 58))],⟨qz.reverse,Kc.reverse⟩):=by kernel_rfl
theorem JF:wfN qz.reverse=true:=by kernel_rfl
theorem Oj (a0 a1 a2 a3 a4 a5 a6 a7 a8 a9 a10 a11:Int) (w:World) (f0:fxV a0 a1=true) (f1:fxV a2 a3=true) (f2:fxV a4 a5=true) (f3:fxV a6 a7=true) (f4:fxV a8 a9=true) (f5:fxV a10 a11=true) (g0:er0 ((a0,a1):IV) ((a6,a7):IV)=0) (g1:er0 ((a2,a3):IV) ((a8,a9):IV)=0) (g2:er1 (uM ((a0,a1):IV) ((a6,a7):IV)) (uM ((a2,a3):IV) ((a8,a9):IV))=0) (g3:er0 ((a4,a5):IV) ((a10,a11):IV)=0) (g4:er1 (dt2 ((a0,a1):IV) ((a2,a3):IV) ((a6,a7):IV) ((a8,a9):IV)) (uM ((a4,a5):IV) ((a10,a11):IV))=0):Calls Try.prog 45 #[.agg #[.int .i64 a0,.int .i64 a1,.int .i64 a2,.int .i64 a3,.int .i64 a4,.int .i64 a5],.agg #[.int .i64 a6,.int .i64 a7,.int .i64 a8,.int .i64 a9,.int .i64 a10,.int .i64 a11]] w fun e w'=>e=.returned (.tuple #[.agg #[.int .i64 (dtI ((a0,a1):IV) ((a2,a3):IV) ((a4,a5):IV) ((a6,a7):IV) ((a8,a9):IV) ((a10,a11):IV)).1,.int .i64 (dtI ((a0,a1):IV) ((a2,a3):IV) ((a4,a5):IV) ((a6,a7):IV) ((a8,a9):IV) ((a10,a11):IV)).2],.int .i64 0])/\Below w.heap.size w w':=by
 refine Sx.calls (X:=cxB [a0,a1,a2,a3,a4,a5,a6,a7,a8,a9,a10,a11]) iI (gN _) KV JF (fun v hs=>?_) w
 have e0:v 0=a0:=ah hs 0 rfl;have e1:v 1=a1:=ah hs 1 rfl;have e2:v 2=a2:=ah hs 2 rfl;have e3:v 3=a3:=ah hs 3 rfl;have e4:v 4=a4:=ah hs 4 rfl;have e5:v 5=a5:=ah hs 5 rfl;have e6:v 6=a6:=ah hs 6 rfl;have e7:v 7=a7:=ah hs 7 rfl;have e8:v 8=a8:=ah hs 8 rfl;have e9:v 9=a9:=ah hs 9 rfl;have e10:v 10=a10:=ah hs 10 rfl;have e11:v 11=a11:=ah hs 11 rfl;have P0:((v 0,v 1):IV)=(a0,a1):=by rw [e0,e1]
 have P2:((v 2,v 3):IV)=(a2,a3):=by rw [e2,e3]
 have P4:((v 4,v 5):IV)=(a4,a5):=by rw [e4,e5]
 have P6:((v 6,v 7):IV)=(a6,a7):=by rw [e6,e7]
 have P8:((v 8,v 9):IV)=(a8,a9):=by rw [e8,e9]
 have P10:((v 10,v 11):IV)=(a10,a11):=by rw [e10,e11]
 have F0:fxV (v 0) (v 1)=true:=by rw [e0,e1];exact f0
 have F2:fxV (v 2) (v 3)=true:=by rw [e2,e3];exact f1
 have F4:fxV (v 4) (v 5)=true:=by rw [e4,e5];exact f2
 have F6:fxV (v 6) (v 7)=true:=by rw [e6,e7];exact f3
 have F8:fxV (v 8) (v 9)=true:=by rw [e8,e9];exact f4
 have F10:fxV (v 10) (v 11)=true:=by rw [e10,e11];exact f5
 have k12:v 12=1:=by have h:v 12=b2i (fxV (v 0) (v 1)):=ah hs 12 rfl;rw [h,F0];rfl
 have k13:v 13=1:=by have h:v 13=b2i (fxV (v 2) (v 3)):=ah hs 13 rfl;rw [h,F2];rfl
 have k15:v 15=1:=by have h:v 15=b2i (fxV (v 4) (v 5)):=ah hs 15 rfl;rw [h,F4];rfl
 have k18:v 18=1:=by have h:v 18=b2i (fxV (v 6) (v 7)):=ah hs 18 rfl;rw [h,F6];rfl
 have k19:v 19=1:=by have h:v 19=b2i (fxV (v 8) (v 9)):=ah hs 19 rfl;rw [h,F8];rfl
 have k21:v 21=1:=by have h:v 21=b2i (fxV (v 10) (v 11)):=ah hs 21 rfl;rw [h,F10];rfl
 have e26:v 26=(ak 0 [v 0,v 1,v 6,v 7]).getD 0 0:=ah hs 26 rfl;have e27:v 27=(ak 0 [v 0,v 1,v 6,v 7]).getD 1 0:=ah hs 27 rfl;have e28:v 28=(ak 0 [v 0,v 1,v 6,v 7]).getD 2 0:=ah hs 28 rfl;have P26:((v 26,v 27):IV)=uM (v 0,v 1) (v 6,v 7):=by rw [e26,e27];rfl
 have F26:fxV (v 26) (v 27)=true:=by have:=Ee (v 0,v 1) (v 6,v 7);rw [<-P26] at this;exact this
 have e29:v 29=(ak 0 [v 2,v 3,v 8,v 9]).getD 0 0:=ah hs 29 rfl;have e30:v 30=(ak 0 [v 2,v 3,v 8,v 9]).getD 1 0:=ah hs 30 rfl;have e31:v 31=(ak 0 [v 2,v 3,v 8,v 9]).getD 2 0:=ah hs 31 rfl;have P29:((v 29,v 30):IV)=uM (v 2,v 3) (v 8,v 9):=by rw [e29,e30];rfl
 have F29:fxV (v 29) (v 30)=true:=by have:=Ee (v 2,v 3) (v 8,v 9);rw [<-P29] at this;exact this
 have e35:v 35=(ak 1 [v 26,v 27,v 29,v 30]).getD 0 0:=ah hs 35 rfl;have e36:v 36=(ak 1 [v 26,v 27,v 29,v 30]).getD 1 0:=ah hs 36 rfl;have e37:v 37=(ak 1 [v 26,v 27,v 29,v 30]).getD 2 0:=ah hs 37 rfl;have P35:((v 35,v 36):IV)=uA (v 26,v 27) (v 29,v 30):=by rw [e35,e36];rfl
 have F35:fxV (v 35) (v 36)=true:=by have:=rM (v 26,v 27) (v 29,v 30);rw [<-P35] at this;exact this
 have e41:v 41=(ak 0 [v 4,v 5,v 10,v 11]).getD 0 0:=ah hs 41 rfl;have e42:v 42=(ak 0 [v 4,v 5,v 10,v 11]).getD 1 0:=ah hs 42 rfl;have e43:v 43=(ak 0 [v 4,v 5,v 10,v 11]).getD 2 0:=ah hs 43 rfl;have P41:((v 41,v 42):IV)=uM (v 4,v 5) (v 10,v 11):=by rw [e41,e42];rfl
 have F41:fxV (v 41) (v 42)=true:=by have:=Ee (v 4,v 5) (v 10,v 11);rw [<-P41] at this;exact this
 have e47:v 47=(ak 1 [v 35,v 36,v 41,v 42]).getD 0 0:=ah hs 47 rfl;have e48:v 48=(ak 1 [v 35,v 36,v 41,v 42]).getD 1 0:=ah hs 48 rfl;have e49:v 49=(ak 1 [v 35,v 36,v 41,v 42]).getD 2 0:=ah hs 49 rfl;have P47:((v 47,v 48):IV)=uA (v 35,v 36) (v 41,v 42):=by rw [e47,e48];rfl
 have F47:fxV (v 47) (v 48)=true:=by have:=rM (v 35,v 36) (v 41,v 42);rw [<-P47] at this;exact this
 have B26:((v 26,v 27):IV)=uM ((a0,a1):IV) ((a6,a7):IV):=by rw [P26,P0,P6]
 have B29:((v 29,v 30):IV)=uM ((a2,a3):IV) ((a8,a9):IV):=by rw [P29,P2,P8]
 have B41:((v 41,v 42):IV)=uM ((a4,a5):IV) ((a10,a11):IV):=by rw [P41,P4,P10]
 have B35:((v 35,v 36):IV)=dt2 ((a0,a1):IV) ((a2,a3):IV) ((a6,a7):IV) ((a8,a9):IV):=by rw [P35,B26,B29];rfl
 have C47:((v 47,v 48):IV)=dtI ((a0,a1):IV) ((a2,a3):IV) ((a4,a5):IV) ((a6,a7):IV) ((a8,a9):IV) ((a10,a11):IV):=by rw [P47,B35,B41];rfl
 have E28:v 28=0:=by have q:v 28=er0 (v 0,v 1) (v 6,v 7):=e28;rw [q,P0,P6];exact g0
 have E31:v 31=0:=by have q:v 31=er0 (v 2,v 3) (v 8,v 9):=e31;rw [q,P2,P8];exact g1
 have E37:v 37=0:=by have q:v 37=er1 (v 26,v 27) (v 29,v 30):=e37;rw [q,B26,B29];exact g2
 have E43:v 43=0:=by have q:v 43=er0 (v 4,v 5) (v 10,v 11):=e43;rw [q,P4,P10];exact g3
 have E49:v 49=0:=by have q:v 49=er1 (v 35,v 36) (v 41,v 42):=e49;rw [q,B35,B41];exact g4
 have r59:v 59=(dtI ((a0,a1):IV) ((a2,a3):IV) ((a4,a5):IV) ((a6,a7):IV) ((a8,a9):IV) ((a10,a11):IV)).1:=(bC (X:=cxB [a0,a1,a2,a3,a4,a5,a6,a7,a8,a9,a10,a11]) (v:=v) (l:=qz) (bi _) hs (k:=59) (j:=47) (ps:=[(12,.c 1),(13,.c 1),(15,.c 1),(18,.c 1),(19,.c 1),(21,.c 1),(28,.c 0),(31,.c 0),(37,.c 0),(43,.c 0),(49,.c 0)]) (ae k12 (ae k13 (ae k15 (ae k18 (ae k19 (ae k21 (ae E28 (ae E31 (ae E37 (ae E43 (ae E49 bI))))))))))) (by kernel_rfl)).trans (congrArg Prod.fst C47)
 have r60:v 60=(dtI ((a0,a1):IV) ((a2,a3):IV) ((a4,a5):IV) ((a6,a7):IV) ((a8,a9):IV) ((a10,a11):IV)).2:=(bC (X:=cxB [a0,a1,a2,a3,a4,a5,a6,a7,a8,a9,a10,a11]) (v:=v) (l:=qz) (bi _) hs (k:=60) (j:=48) (ps:=[(12,.c 1),(13,.c 1),(15,.c 1),(18,.c 1),(19,.c 1),(21,.c 1),(28,.c 0),(31,.c 0),(37,.c 0),(43,.c 0),(49,.c 0)]) (ae k12 (ae k13 (ae k15 (ae k18 (ae k19 (ae k21 (ae E28 (ae E31 (ae E37 (ae E43 (ae E49 bI))))))))))) (by kernel_rfl)).trans (congrArg Prod.snd C47)
 have rE:v 58=0:=dI (X:=cxB [a0,a1,a2,a3,a4,a5,a6,a7,a8,a9,a10,a11]) (v:=v) (l:=qz) (bi _) hs (k:=58) (r:=.c 0) (ps:=[(12,.c 1),(13,.c 1),(15,.c 1),(18,.c 1),(19,.c 1),(21,.c 1),(28,.c 0),(31,.c 0),(37,.c 0),(43,.c 0),(49,.c 0)]) (nz:=[]) (ae k12 (ae k13 (ae k15 (ae k18 (ae k19 (ae k21 (ae E28 (ae E31 (ae E37 (ae E43 (ae E49 bI))))))))))) ek (by kernel_rfl)
 refine ⟨jA hs (fs:=[((.n 12,true),(.n 0,.n 1)),((.n 12,true),(.n 2,.n 3)),((.n 12,true),(.n 4,.n 5)),((.n 12,true),(.n 6,.n 7)),((.n 12,true),(.n 8,.n 9)),((.n 12,true),(.n 10,.n 11)),((.n 14,true),(.n 0,.n 1)),((.n 14,true),(.n 2,.n 3)),((.n 14,true),(.n 4,.n 5)),((.n 14,true),(.n 6,.n 7)),((.n 14,true),(.n 8,.n 9)),((.n 14,true),(.n 10,.n 11)),((.n 18,true),(.n 0,.n 1)),((.n 18,true),(.n 2,.n 3)),((.n 18,true),(.n 4,.n 5)),((.n 18,true),(.n 6,.n 7)),((.n 18,true),(.n 8,.n 9)),((.n 18,true),(.n 10,.n 11)),((.n 20,true),(.n 0,.n 1)),((.n 20,true),(.n 2,.n 3)),((.n 20,true),(.n 4,.n 5)),((.n 20,true),(.n 6,.n 7)),((.n 20,true),(.n 8,.n 9)),((.n 20,true),(.n 10,.n 11)),((.n 25,true),(.n 0,.n 1)),((.n 25,true),(.n 2,.n 3)),((.n 25,true),(.n 4,.n 5)),((.n 25,true),(.n 6,.n 7)),((.n 25,true),(.n 8,.n 9)),((.n 25,true),(.n 10,.n 11))]) (rs:=[]) (fun e he=>by simp only [List.mem_cons,List.not_mem_nil,or_false] at he;rcases he with rfl|rfl|rfl|rfl|rfl|rfl|rfl|rfl|rfl|rfl|rfl|rfl|rfl|rfl|rfl|rfl|rfl|rfl|rfl|rfl|rfl|rfl|rfl|rfl|rfl|rfl|rfl|rfl|rfl|rfl<;>intro _<;>assumption) (fun e he=>by cases he) (by kernel_rfl),?_⟩
 intro x hx0;have hx':=og (v:=v) (by rfl) hx0
 rw [hx'];show Value.tuple #[.agg #[.int .i64 (v 59),.int .i64 (v 60)],.int .i64 (v 58)]=_;rw [r59,r60,rE]
def oC:List Nd:=[
 .arg 0,
 .arg 1,
 .arg 2,
 .arg 3,
 .arg 4,
 .arg 5,
 .arg 6,
 .arg 7,
 .arg 8,
 .arg 9,
 .arg 10,
 .arg 11,
 .app 8 0 [.n 0,.n 1],
 .app 8 0 [.n 2,.n 3],
 .ite (.n 12) (.n 13) (.c 0),
 .app 8 0 [.n 4,.n 5],
 .ite (.n 14) (.n 15) (.c 0),
 .ite (.n 16) (.c 0) (.c 1),
 .app 8 0 [.n 6,.n 7],
 .app 8 0 [.n 8,.n 9],
 .ite (.n 18) (.n 19) (.c 0),
 .app 8 0 [.n 10,.n 11],
 .ite (.n 20) (.n 21) (.c 0),
 .ite (.n 22) (.c 0) (.c 1),
 .ite (.n 17) (.c 1) (.n 23),
 .ite (.n 24) (.c 0) (.c 1),
 .app 0 0 [.n 2,.n 3,.n 10,.n 11],
 .app 0 1 [.n 2,.n 3,.n 10,.n 11],
 .app 0 2 [.n 2,.n 3,.n 10,.n 11],
 .app 0 0 [.n 4,.n 5,.n 8,.n 9],
 .app 0 1 [.n 4,.n 5,.n 8,.n 9],
 .app 0 2 [.n 4,.n 5,.n 8,.n 9],
 .bin .eql .i64 (.n 28) (.c 0),
 .ite (.n 32) (.c 0) (.c 1),
 .ite (.n 32) (.n 31) (.n 28),
 .app 2 0 [.n 26,.n 27,.n 29,.n 30],
 .app 2 1 [.n 26,.n 27,.n 29,.n 30],
 .app 2 2 [.n 26,.n 27,.n 29,.n 30],
 .bin .eql .i64 (.n 34) (.c 0),
 .ite (.n 38) (.c 0) (.c 1),
 .ite (.n 38) (.n 37) (.n 34),
 .app 0 0 [.n 4,.n 5,.n 6,.n 7],
 .app 0 1 [.n 4,.n 5,.n 6,.n 7],
 .app 0 2 [.n 4,.n 5,.n 6,.n 7],
 .bin .eql .i64 (.n 40) (.c 0),
 .ite (.n 44) (.c 0) (.c 1),
 .ite (.n 44) (.n 43) (.n 40),
 .app 0 0 [.n 0,.n 1,.n 10,.n 11],
 .app 0 1 [.n 0,.n 1,.n 10,.n 11],
 .app 0 2 [.n 0,.n 1,.n 10,.n 11],
 .bin .eql .i64 (.n 46) (.c 0),
 .ite (.n 50) (.c 0) (.c 1),
 .ite (.n 50) (.n 49) (.n 46),
 .app 2 0 [.n 41,.n 42,.n 47,.n 48],
 .app 2 1 [.n 41,.n 42,.n 47,.n 48],
 .app 2 2 [.n 41,.n 42,.n 47,.n 48],
 .bin .eql .i64 (.n 52) (.c 0),
 .ite (.n 56) (.c 0) (.c 1),
 .ite (.n 56) (.n 55) (.n 52),
 .app 0 0 [.n 0,.n 1,.n 8,.n 9],
 .app 0 1 [.n 0,.n 1,.n 8,.n 9],
 .app 0 2 [.n 0,.n 1,.n 8,.n 9],
 .bin .eql .i64 (.n 58) (.c 0),
 .ite (.n 62) (.c 0) (.c 1),
 .ite (.n 62) (.n 61) (.n 58),
 .app 0 0 [.n 2,.n 3,.n 6,.n 7],
 .app 0 1 [.n 2,.n 3,.n 6,.n 7],
 .app 0 2 [.n 2,.n 3,.n 6,.n 7],
 .bin .eql .i64 (.n 64) (.c 0),
 .ite (.n 68) (.c 0) (.c 1),
 .ite (.n 68) (.n 67) (.n 64),
 .app 2 0 [.n 59,.n 60,.n 65,.n 66],
 .app 2 1 [.n 59,.n 60,.n 65,.n 66],
 .app 2 2 [.n 59,.n 60,.n 65,.n 66],
 .bin .eql .i64 (.n 70) (.c 0),
 .ite (.n 74) (.c 0) (.c 1),
 .ite (.n 74) (.n 73) (.n 70),
 .app 3 0 [.n 35,.n 36],
 .app 3 1 [.n 35,.n 36],
 .app 3 2 [.n 35,.n 36],
 .bin .eql .i64 (.n 76) (.c 0),
 .ite (.n 80) (.c 0) (.c 1),
 .ite (.n 80) (.n 79) (.n 76),
 .app 3 0 [.n 53,.n 54],
 .app 3 1 [.n 53,.n 54],
 .app 3 2 [.n 53,.n 54],
 .bin .eql .i64 (.n 82) (.c 0),
 .ite (.n 86) (.c 0) (.c 1),
 .ite (.n 86) (.n 85) (.n 82),
 .app 1 0 [.n 77,.n 78,.n 83,.n 84],
 .app 1 1 [.n 77,.n 78,.n 83,.n 84],
 .app 1 2 [.n 77,.n 78,.n 83,.n 84],
 .bin .eql .i64 (.n 88) (.c 0),
 .ite (.n 92) (.c 0) (.c 1),
 .ite (.n 92) (.n 91) (.n 88),
 .app 3 0 [.n 71,.n 72],
 .app 3 1 [.n 71,.n 72],
 .app 3 2 [.n 71,.n 72],
 .bin .eql .i64 (.n 94) (.c 0),
 .ite (.n 98) (.c 0) (.c 1),
 .ite (.n 98) (.n 97) (.n 94),
 .app 1 0 [.n 89,.n 90,.n 95,.n 96],
 .app 1 1 [.n 89,.n 90,.n 95,.n 96],
 .app 1 2 [.n 89,.n 90,.n 95,.n 96],
 .bin .eql .i64 (.n 100) (.c 0),
 .ite (.n 104) (.c 0) (.c 1),
 .ite (.n 104) (.n 103) (.n 100),
 .app 4 0 [.n 101,.n 102],
 .app 4 1 [.n 101,.n 102],
 .app 4 2 [.n 101,.n 102],
 .bin .eql .i64 (.n 106) (.c 0),
 .ite (.n 110) (.c 0) (.c 1),
 .ite (.n 110) (.n 109) (.n 106),
 .app 0 0 [.n 0,.n 1,.n 6,.n 7],
 .app 0 1 [.n 0,.n 1,.n 6,.n 7],
 .app 0 2 [.n 0,.n 1,.n 6,.n 7],
 .bin .eql .i64 (.n 112) (.c 0),
 .ite (.n 116) (.c 0) (.c 1),
 .ite (.n 116) (.n 115) (.n 112),
 .app 0 0 [.n 2,.n 3,.n 8,.n 9],
 .app 0 1 [.n 2,.n 3,.n 8,.n 9],
 .app 0 2 [.n 2,.n 3,.n 8,.n 9],
 .bin .eql .i64 (.n 118) (.c 0),
 .ite (.n 122) (.c 0) (.c 1),
 .ite (.n 122) (.n 121) (.n 118),
 .app 1 0 [.n 113,.n 114,.n 119,.n 120],
 .app 1 1 [.n 113,.n 114,.n 119,.n 120],
 .app 1 2 [.n 113,.n 114,.n 119,.n 120],
 .bin .eql .i64 (.n 124) (.c 0),
 .ite (.n 128) (.c 0) (.c 1),
 .ite (.n 128) (.n 127) (.n 124),
 .app 0 0 [.n 4,.n 5,.n 10,.n 11],
 .app 0 1 [.n 4,.n 5,.n 10,.n 11],
 .app 0 2 [.n 4,.n 5,.n 10,.n 11],
 .bin .eql .i64 (.n 130) (.c 0),
 .ite (.n 134) (.c 0) (.c 1),
 .ite (.n 134) (.n 133) (.n 130),
 .app 1 0 [.n 125,.n 126,.n 131,.n 132],
 .app 1 1 [.n 125,.n 126,.n 131,.n 132],
 .app 1 2 [.n 125,.n 126,.n 131,.n 132],
 .bin .eql .i64 (.n 136) (.c 0),
 .ite (.n 140) (.c 0) (.c 1),
 .ite (.n 140) (.n 139) (.n 136),
 .bin .neq .i64 (.n 142) (.c 0),
 .ite (.n 143) (.c 0) (.c 1),
 .app 7 0 [.n 107,.n 108,.n 137,.n 138],
 .app 7 1 [.n 107,.n 108,.n 137,.n 138],
 .app 7 2 [.n 107,.n 108,.n 137,.n 138],
 .bin .neq .i64 (.n 147) (.c 0),
 .bin .sub .i64 (.n 146) (.n 145),
 .bin .geq .i64 (.n 149) (.c 21600000),
 .ite (.n 150) (.c 0) (.c 1),
 .ite (.n 148) (.c 0) (.c 1),
 .ite (.n 152) (.n 151) (.c 0),
 .ite (.n 152) (.n 150) (.c 0),
 .ite (.n 148) (.c 1) (.n 154),
 .ite (.n 148) (.n 147) (.c 24),
 .ite (.n 155) (.c 1) (.n 153),
 .ite (.n 155) (.n 156) (.c 0),
 .ite (.n 155) (.c 0) (.n 145),
 .ite (.n 155) (.c 0) (.n 146),
 .ite (.n 144) (.n 157) (.c 0),
 .ite (.n 143) (.c 1) (.n 161),
 .ite (.n 143) (.n 142) (.n 158),
 .ite (.n 143) (.c 0) (.n 159),
 .ite (.n 143) (.c 0) (.n 160),
 .ite (.n 25) (.n 162) (.c 0),
 .ite (.n 24) (.c 1) (.n 166),
 .ite (.n 24) (.c 1) (.n 163),
 .ite (.n 24) (.c 0) (.n 164),
 .ite (.n 24) (.c 0) (.n 165)]
def IR:List Vc:=[
 ⟨[],.pre 8 [.n 0,.n 1]⟩,
 ⟨[(.n 12,true)],.pre 8 [.n 2,.n 3]⟩,
 ⟨[(.n 14,true)],.pre 8 [.n 4,.n 5]⟩,
 ⟨[(.n 17,false)],.pre 8 [.n 6,.n 7]⟩,
 ⟨[(.n 17,false),(.n 18,true)],.pre 8 [.n 8,.n 9]⟩,
 ⟨[(.n 17,false),(.n 20,true)],.pre 8 [.n 10,.n 11]⟩,
 ⟨[(.n 25,true)],.pre 0 [.n 2,.n 3,.n 10,.n 11]⟩,
 ⟨[(.n 25,true)],.pre 0 [.n 4,.n 5,.n 8,.n 9]⟩,
 ⟨[(.n 25,true)],.pre 2 [.n 26,.n 27,.n 29,.n 30]⟩,
 ⟨[(.n 25,true)],.pre 0 [.n 4,.n 5,.n 6,.n 7]⟩,
 ⟨[(.n 25,true)],.pre 0 [.n 0,.n 1,.n 10,.n 11]⟩,
 ⟨[(.n 25,true)],.pre 2 [.n 41,.n 42,.n 47,.n 48]⟩,
 ⟨[(.n 25,true)],.pre 0 [.n 0,.n 1,.n 8,.n 9]⟩,
 ⟨[(.n 25,true)],.pre 0 [.n 2,.n 3,.n 6,.n 7]⟩,
 ⟨[(.n 25,true)],.pre 2 [.n 59,.n 60,.n 65,.n 66]⟩,
 ⟨[(.n 25,true)],.pre 3 [.n 35,.n 36]⟩,
 ⟨[(.n 25,true)],.pre 3 [.n 53,.n 54]⟩,
 ⟨[(.n 25,true)],.pre 1 [.n 77,.n 78,.n 83,.n 84]⟩,
 ⟨[(.n 25,true)],.pre 3 [.n 71,.n 72]⟩,
 ⟨[(.n 25,true)],.pre 1 [.n 89,.n 90,.n 95,.n 96]⟩,
 ⟨[(.n 25,true)],.pre 4 [.n 101,.n 102]⟩,
 ⟨[(.n 25,true)],.pre 0 [.n 0,.n 1,.n 6,.n 7]⟩,
 ⟨[(.n 25,true)],.pre 0 [.n 2,.n 3,.n 8,.n 9]⟩,
 ⟨[(.n 25,true)],.pre 1 [.n 113,.n 114,.n 119,.n 120]⟩,
 ⟨[(.n 25,true)],.pre 0 [.n 4,.n 5,.n 10,.n 11]⟩,
 ⟨[(.n 25,true)],.pre 1 [.n 125,.n 126,.n 131,.n 132]⟩,
 ⟨[(.n 144,true),(.n 25,true)],.pre 7 [.n 107,.n 108,.n 137,.n 138]⟩]
theorem JH:whole Try.prog jY 20 40 46 [(true,[some .i64,some .i64,some .i64,some .i64,some .i64,some .i64]),(true,[some .i64,some .i64,some .i64,some .i64,some .i64,some .i64])]=some (.tup [.agg [.int .i64 (.n 169),.int .i64 (.n 170)],.c (.int .i64 (.n 168))],⟨oC.reverse,IR.reverse⟩):=by kernel_rfl
theorem IY:wfN oC.reverse=true:=by kernel_rfl
theorem MV (a0 a1 a2 a3 a4 a5 a6 a7 a8 a9 a10 a11:Int) (w:World) (u0:U (a0,a1)) (u1:U (a2,a3)) (u2:U (a4,a5)) (u3:U (a6,a7)) (u4:U (a8,a9)) (u5:U (a10,a11)) (g0:er3 (crX ((a2,a3):IV) ((a4,a5):IV) ((a8,a9):IV) ((a10,a11):IV))=0) (g1:er3 (crX ((a4,a5):IV) ((a0,a1):IV) ((a10,a11):IV) ((a6,a7):IV))=0) (g2:er1 (uQ (crX ((a2,a3):IV) ((a4,a5):IV) ((a8,a9):IV) ((a10,a11):IV))) (uQ (crX ((a4,a5):IV) ((a0,a1):IV) ((a10,a11):IV) ((a6,a7):IV)))=0) (g3:er3 (crX ((a0,a1):IV) ((a2,a3):IV) ((a6,a7):IV) ((a8,a9):IV))=0) (g4:er1 (sm2 (crX ((a2,a3):IV) ((a4,a5):IV) ((a8,a9):IV) ((a10,a11):IV)) (crX ((a4,a5):IV) ((a0,a1):IV) ((a10,a11):IV) ((a6,a7):IV))) (uQ (crX ((a0,a1):IV) ((a2,a3):IV) ((a6,a7):IV) ((a8,a9):IV)))=0) (g5:er4 (smI (crX ((a2,a3):IV) ((a4,a5):IV) ((a8,a9):IV) ((a10,a11):IV)) (crX ((a4,a5):IV) ((a0,a1):IV) ((a10,a11):IV) ((a6,a7):IV)) (crX ((a0,a1):IV) ((a2,a3):IV) ((a6,a7):IV) ((a8,a9):IV)))=0) (g6:er1 (dt2 ((a0,a1):IV) ((a2,a3):IV) ((a6,a7):IV) ((a8,a9):IV)) (uM ((a4,a5):IV) ((a10,a11):IV))=0) (ho:bN (uR (smI (crX ((a2,a3):IV) ((a4,a5):IV) ((a8,a9):IV) ((a10,a11):IV)) (crX ((a4,a5):IV) ((a0,a1):IV) ((a10,a11):IV) ((a6,a7):IV)) (crX ((a0,a1):IV) ((a2,a3):IV) ((a6,a7):IV) ((a8,a9):IV)))).1 (uR (smI (crX ((a2,a3):IV) ((a4,a5):IV) ((a8,a9):IV) ((a10,a11):IV)) (crX ((a4,a5):IV) ((a0,a1):IV) ((a10,a11):IV) ((a6,a7):IV)) (crX ((a0,a1):IV) ((a2,a3):IV) ((a6,a7):IV) ((a8,a9):IV)))).2 (dtI ((a0,a1):IV) ((a2,a3):IV) ((a4,a5):IV) ((a6,a7):IV) ((a8,a9):IV) ((a10,a11):IV)).1 (dtI ((a0,a1):IV) ((a2,a3):IV) ((a4,a5):IV) ((a6,a7):IV) ((a8,a9):IV) ((a10,a11):IV)).2=false):Calls Try.prog 46 #[.agg #[.int .i64 a0,.int .i64 a1,.int .i64 a2,.int .i64 a3,.int .i64 a4,.int .i64 a5],.agg #[.int .i64 a6,.int .i64 a7,.int .i64 a8,.int .i64 a9,.int .i64 a10,.int .i64 a11]] w fun e w'=>e=.returned (.tuple #[.agg #[.int .i64 (aU (uR (smI (crX ((a2,a3):IV) ((a4,a5):IV) ((a8,a9):IV) ((a10,a11):IV)) (crX ((a4,a5):IV) ((a0,a1):IV) ((a10,a11):IV) ((a6,a7):IV)) (crX ((a0,a1):IV) ((a2,a3):IV) ((a6,a7):IV) ((a8,a9):IV)))).1 (uR (smI (crX ((a2,a3):IV) ((a4,a5):IV) ((a8,a9):IV) ((a10,a11):IV)) (crX ((a4,a5):IV) ((a0,a1):IV) ((a10,a11):IV) ((a6,a7):IV)) (crX ((a0,a1):IV) ((a2,a3):IV) ((a6,a7):IV) ((a8,a9):IV)))).2 (dtI ((a0,a1):IV) ((a2,a3):IV) ((a4,a5):IV) ((a6,a7):IV) ((a8,a9):IV) ((a10,a11):IV)).1 (dtI ((a0,a1):IV) ((a2,a3):IV) ((a4,a5):IV) ((a6,a7):IV) ((a8,a9):IV) ((a10,a11):IV)).2),.int .i64 (bg (uR (smI (crX ((a2,a3):IV) ((a4,a5):IV) ((a8,a9):IV) ((a10,a11):IV)) (crX ((a4,a5):IV) ((a0,a1):IV) ((a10,a11):IV) ((a6,a7):IV)) (crX ((a0,a1):IV) ((a2,a3):IV) ((a6,a7):IV) ((a8,a9):IV)))).1 (uR (smI (crX ((a2,a3):IV) ((a4,a5):IV) ((a8,a9):IV) ((a10,a11):IV)) (crX ((a4,a5):IV) ((a0,a1):IV) ((a10,a11):IV) ((a6,a7):IV)) (crX ((a0,a1):IV) ((a2,a3):IV) ((a6,a7):IV) ((a8,a9):IV)))).2 (dtI ((a0,a1):IV) ((a2,a3):IV) ((a4,a5):IV) ((a6,a7):IV) ((a8,a9):IV) ((a10,a11):IV)).1 (dtI ((a0,a1):IV) ((a2,a3):IV) ((a4,a5):IV) ((a6,a7):IV) ((a8,a9):IV) ((a10,a11):IV)).2)],.int .i64 0])/\Below w.heap.size w w':=by
 refine Sx.calls (X:=cxB [a0,a1,a2,a3,a4,a5,a6,a7,a8,a9,a10,a11]) iI (gN _) JH IY (fun v hs=>?_) w
 have e0:v 0=a0:=ah hs 0 rfl;have e1:v 1=a1:=ah hs 1 rfl;have e2:v 2=a2:=ah hs 2 rfl;have e3:v 3=a3:=ah hs 3 rfl;have e4:v 4=a4:=ah hs 4 rfl;have e5:v 5=a5:=ah hs 5 rfl;have e6:v 6=a6:=ah hs 6 rfl;have e7:v 7=a7:=ah hs 7 rfl;have e8:v 8=a8:=ah hs 8 rfl;have e9:v 9=a9:=ah hs 9 rfl;have e10:v 10=a10:=ah hs 10 rfl;have e11:v 11=a11:=ah hs 11 rfl;have P0:((v 0,v 1):IV)=(a0,a1):=by rw [e0,e1]
 have P2:((v 2,v 3):IV)=(a2,a3):=by rw [e2,e3]
 have P4:((v 4,v 5):IV)=(a4,a5):=by rw [e4,e5]
 have P6:((v 6,v 7):IV)=(a6,a7):=by rw [e6,e7]
 have P8:((v 8,v 9):IV)=(a8,a9):=by rw [e8,e9]
 have P10:((v 10,v 11):IV)=(a10,a11):=by rw [e10,e11]
 have U0:U (v 0,v 1):=by rw [P0];exact u0
 have F0:fxV (v 0) (v 1)=true:=ma U0;have U2:U (v 2,v 3):=by rw [P2];exact u1
 have F2:fxV (v 2) (v 3)=true:=ma U2;have U4:U (v 4,v 5):=by rw [P4];exact u2
 have F4:fxV (v 4) (v 5)=true:=ma U4;have U6:U (v 6,v 7):=by rw [P6];exact u3
 have F6:fxV (v 6) (v 7)=true:=ma U6;have U8:U (v 8,v 9):=by rw [P8];exact u4
 have F8:fxV (v 8) (v 9)=true:=ma U8;have U10:U (v 10,v 11):=by rw [P10];exact u5
 have F10:fxV (v 10) (v 11)=true:=ma U10;have k12:v 12=1:=by have h:v 12=b2i (fxV (v 0) (v 1)):=ah hs 12 rfl;rw [h,F0];rfl
 have k13:v 13=1:=by have h:v 13=b2i (fxV (v 2) (v 3)):=ah hs 13 rfl;rw [h,F2];rfl
 have k15:v 15=1:=by have h:v 15=b2i (fxV (v 4) (v 5)):=ah hs 15 rfl;rw [h,F4];rfl
 have k18:v 18=1:=by have h:v 18=b2i (fxV (v 6) (v 7)):=ah hs 18 rfl;rw [h,F6];rfl
 have k19:v 19=1:=by have h:v 19=b2i (fxV (v 8) (v 9)):=ah hs 19 rfl;rw [h,F8];rfl
 have k21:v 21=1:=by have h:v 21=b2i (fxV (v 10) (v 11)):=ah hs 21 rfl;rw [h,F10];rfl
 have e26:v 26=(ak 0 [v 2,v 3,v 10,v 11]).getD 0 0:=ah hs 26 rfl;have e27:v 27=(ak 0 [v 2,v 3,v 10,v 11]).getD 1 0:=ah hs 27 rfl;have P26:((v 26,v 27):IV)=uM (v 2,v 3) (v 10,v 11):=by rw [e26,e27];rfl
 have U26:U (v 26,v 27):=by rw [P26];exact (U_M U2 U10).2.2
 have e28:v 28=(ak 0 [v 2,v 3,v 10,v 11]).getD 2 0:=ah hs 28 rfl;have E28:v 28=0:=e28.trans (U_M U2 U10).2.1;have e29:v 29=(ak 0 [v 4,v 5,v 8,v 9]).getD 0 0:=ah hs 29 rfl;have e30:v 30=(ak 0 [v 4,v 5,v 8,v 9]).getD 1 0:=ah hs 30 rfl;have P29:((v 29,v 30):IV)=uM (v 4,v 5) (v 8,v 9):=by rw [e29,e30];rfl
 have U29:U (v 29,v 30):=by rw [P29];exact (U_M U4 U8).2.2
 have e31:v 31=(ak 0 [v 4,v 5,v 8,v 9]).getD 2 0:=ah hs 31 rfl;have E31:v 31=0:=e31.trans (U_M U4 U8).2.1;have e35:v 35=(ak 2 [v 26,v 27,v 29,v 30]).getD 0 0:=ah hs 35 rfl;have e36:v 36=(ak 2 [v 26,v 27,v 29,v 30]).getD 1 0:=ah hs 36 rfl;have P35:((v 35,v 36):IV)=uD (v 26,v 27) (v 29,v 30):=by rw [e35,e36];rfl
 have F35:fxV (v 35) (v 36)=true:=by have:=(U_D U26 U29).2.2;rw [<-P35] at this;exact this
 have e37:v 37=(ak 2 [v 26,v 27,v 29,v 30]).getD 2 0:=ah hs 37 rfl;have E37:v 37=0:=e37.trans (U_D U26 U29).2.1;have e41:v 41=(ak 0 [v 4,v 5,v 6,v 7]).getD 0 0:=ah hs 41 rfl;have e42:v 42=(ak 0 [v 4,v 5,v 6,v 7]).getD 1 0:=ah hs 42 rfl;have P41:((v 41,v 42):IV)=uM (v 4,v 5) (v 6,v 7):=by rw [e41,e42];rfl
 have U41:U (v 41,v 42):=by rw [P41];exact (U_M U4 U6).2.2
 have e43:v 43=(ak 0 [v 4,v 5,v 6,v 7]).getD 2 0:=ah hs 43 rfl;have E43:v 43=0:=e43.trans (U_M U4 U6).2.1;have e47:v 47=(ak 0 [v 0,v 1,v 10,v 11]).getD 0 0:=ah hs 47 rfl;have e48:v 48=(ak 0 [v 0,v 1,v 10,v 11]).getD 1 0:=ah hs 48 rfl;have P47:((v 47,v 48):IV)=uM (v 0,v 1) (v 10,v 11):=by rw [e47,e48];rfl
 have U47:U (v 47,v 48):=by rw [P47];exact (U_M U0 U10).2.2
 have e49:v 49=(ak 0 [v 0,v 1,v 10,v 11]).getD 2 0:=ah hs 49 rfl;have E49:v 49=0:=e49.trans (U_M U0 U10).2.1;have e53:v 53=(ak 2 [v 41,v 42,v 47,v 48]).getD 0 0:=ah hs 53 rfl;have e54:v 54=(ak 2 [v 41,v 42,v 47,v 48]).getD 1 0:=ah hs 54 rfl;have P53:((v 53,v 54):IV)=uD (v 41,v 42) (v 47,v 48):=by rw [e53,e54];rfl
 have F53:fxV (v 53) (v 54)=true:=by have:=(U_D U41 U47).2.2;rw [<-P53] at this;exact this
 have e55:v 55=(ak 2 [v 41,v 42,v 47,v 48]).getD 2 0:=ah hs 55 rfl;have E55:v 55=0:=e55.trans (U_D U41 U47).2.1;have e59:v 59=(ak 0 [v 0,v 1,v 8,v 9]).getD 0 0:=ah hs 59 rfl;have e60:v 60=(ak 0 [v 0,v 1,v 8,v 9]).getD 1 0:=ah hs 60 rfl;have P59:((v 59,v 60):IV)=uM (v 0,v 1) (v 8,v 9):=by rw [e59,e60];rfl
 have U59:U (v 59,v 60):=by rw [P59];exact (U_M U0 U8).2.2
 have e61:v 61=(ak 0 [v 0,v 1,v 8,v 9]).getD 2 0:=ah hs 61 rfl;have E61:v 61=0:=e61.trans (U_M U0 U8).2.1;have e65:v 65=(ak 0 [v 2,v 3,v 6,v 7]).getD 0 0:=ah hs 65 rfl;have e66:v 66=(ak 0 [v 2,v 3,v 6,v 7]).getD 1 0:=ah hs 66 rfl;have P65:((v 65,v 66):IV)=uM (v 2,v 3) (v 6,v 7):=by rw [e65,e66];rfl
 have U65:U (v 65,v 66):=by rw [P65];exact (U_M U2 U6).2.2
 have e67:v 67=(ak 0 [v 2,v 3,v 6,v 7]).getD 2 0:=ah hs 67 rfl;have E67:v 67=0:=e67.trans (U_M U2 U6).2.1;have e71:v 71=(ak 2 [v 59,v 60,v 65,v 66]).getD 0 0:=ah hs 71 rfl;have e72:v 72=(ak 2 [v 59,v 60,v 65,v 66]).getD 1 0:=ah hs 72 rfl;have P71:((v 71,v 72):IV)=uD (v 59,v 60) (v 65,v 66):=by rw [e71,e72];rfl
 have F71:fxV (v 71) (v 72)=true:=by have:=(U_D U59 U65).2.2;rw [<-P71] at this;exact this
 have e73:v 73=(ak 2 [v 59,v 60,v 65,v 66]).getD 2 0:=ah hs 73 rfl;have E73:v 73=0:=e73.trans (U_D U59 U65).2.1;have C35:((v 35,v 36):IV)=crX ((a2,a3):IV) ((a4,a5):IV) ((a8,a9):IV) ((a10,a11):IV):=by rw [P35,P26,P29,P2,P10,P4,P8];rfl
 have C53:((v 53,v 54):IV)=crX ((a4,a5):IV) ((a0,a1):IV) ((a10,a11):IV) ((a6,a7):IV):=by rw [P53,P41,P47,P4,P6,P0,P10];rfl
 have C71:((v 71,v 72):IV)=crX ((a0,a1):IV) ((a2,a3):IV) ((a6,a7):IV) ((a8,a9):IV):=by rw [P71,P59,P65,P0,P8,P2,P6];rfl
 have e77:v 77=(ak 3 [v 35,v 36]).getD 0 0:=ah hs 77 rfl;have e78:v 78=(ak 3 [v 35,v 36]).getD 1 0:=ah hs 78 rfl;have e79:v 79=(ak 3 [v 35,v 36]).getD 2 0:=ah hs 79 rfl;have P77:((v 77,v 78):IV)=uQ (v 35,v 36):=by rw [e77,e78];rfl
 have F77:fxV (v 77) (v 78)=true:=by have:=E9 (v 35,v 36);rw [<-P77] at this;exact this
 have e83:v 83=(ak 3 [v 53,v 54]).getD 0 0:=ah hs 83 rfl;have e84:v 84=(ak 3 [v 53,v 54]).getD 1 0:=ah hs 84 rfl;have e85:v 85=(ak 3 [v 53,v 54]).getD 2 0:=ah hs 85 rfl;have P83:((v 83,v 84):IV)=uQ (v 53,v 54):=by rw [e83,e84];rfl
 have F83:fxV (v 83) (v 84)=true:=by have:=E9 (v 53,v 54);rw [<-P83] at this;exact this
 have e89:v 89=(ak 1 [v 77,v 78,v 83,v 84]).getD 0 0:=ah hs 89 rfl;have e90:v 90=(ak 1 [v 77,v 78,v 83,v 84]).getD 1 0:=ah hs 90 rfl;have e91:v 91=(ak 1 [v 77,v 78,v 83,v 84]).getD 2 0:=ah hs 91 rfl;have P89:((v 89,v 90):IV)=uA (v 77,v 78) (v 83,v 84):=by rw [e89,e90];rfl
 have F89:fxV (v 89) (v 90)=true:=by have:=rM (v 77,v 78) (v 83,v 84);rw [<-P89] at this;exact this
 have e95:v 95=(ak 3 [v 71,v 72]).getD 0 0:=ah hs 95 rfl;have e96:v 96=(ak 3 [v 71,v 72]).getD 1 0:=ah hs 96 rfl;have e97:v 97=(ak 3 [v 71,v 72]).getD 2 0:=ah hs 97 rfl;have P95:((v 95,v 96):IV)=uQ (v 71,v 72):=by rw [e95,e96];rfl
 have F95:fxV (v 95) (v 96)=true:=by have:=E9 (v 71,v 72);rw [<-P95] at this;exact this
 have e101:v 101=(ak 1 [v 89,v 90,v 95,v 96]).getD 0 0:=ah hs 101 rfl;have e102:v 102=(ak 1 [v 89,v 90,v 95,v 96]).getD 1 0:=ah hs 102 rfl;have e103:v 103=(ak 1 [v 89,v 90,v 95,v 96]).getD 2 0:=ah hs 103 rfl;have P101:((v 101,v 102):IV)=uA (v 89,v 90) (v 95,v 96):=by rw [e101,e102];rfl
 have F101:fxV (v 101) (v 102)=true:=by have:=rM (v 89,v 90) (v 95,v 96);rw [<-P101] at this;exact this
 have e107:v 107=(ak 4 [v 101,v 102]).getD 0 0:=ah hs 107 rfl;have e108:v 108=(ak 4 [v 101,v 102]).getD 1 0:=ah hs 108 rfl;have e109:v 109=(ak 4 [v 101,v 102]).getD 2 0:=ah hs 109 rfl;have P107:((v 107,v 108):IV)=uR (v 101,v 102):=by rw [e107,e108];rfl
 have F107:fxV (v 107) (v 108)=true:=by have:=CJ (v 101,v 102);rw [<-P107] at this;exact this
 have B77:((v 77,v 78):IV)=uQ (crX ((a2,a3):IV) ((a4,a5):IV) ((a8,a9):IV) ((a10,a11):IV)):=by rw [P77,C35]
 have B83:((v 83,v 84):IV)=uQ (crX ((a4,a5):IV) ((a0,a1):IV) ((a10,a11):IV) ((a6,a7):IV)):=by rw [P83,C53]
 have B95:((v 95,v 96):IV)=uQ (crX ((a0,a1):IV) ((a2,a3):IV) ((a6,a7):IV) ((a8,a9):IV)):=by rw [P95,C71]
 have B89:((v 89,v 90):IV)=sm2 (crX ((a2,a3):IV) ((a4,a5):IV) ((a8,a9):IV) ((a10,a11):IV)) (crX ((a4,a5):IV) ((a0,a1):IV) ((a10,a11):IV) ((a6,a7):IV)):=by rw [P89,B77,B83];rfl
 have B101:((v 101,v 102):IV)=smI (crX ((a2,a3):IV) ((a4,a5):IV) ((a8,a9):IV) ((a10,a11):IV)) (crX ((a4,a5):IV) ((a0,a1):IV) ((a10,a11):IV) ((a6,a7):IV)) (crX ((a0,a1):IV) ((a2,a3):IV) ((a6,a7):IV) ((a8,a9):IV)):=by rw [P101,B89,B95];rfl
 have B107:((v 107,v 108):IV)=uR (smI (crX ((a2,a3):IV) ((a4,a5):IV) ((a8,a9):IV) ((a10,a11):IV)) (crX ((a4,a5):IV) ((a0,a1):IV) ((a10,a11):IV) ((a6,a7):IV)) (crX ((a0,a1):IV) ((a2,a3):IV) ((a6,a7):IV) ((a8,a9):IV))):=by rw [P107,B101]
 have E79:v 79=0:=by have q:v 79=er3 (v 35,v 36):=e79;rw [q,C35];exact g0
 have E85:v 85=0:=by have q:v 85=er3 (v 53,v 54):=e85;rw [q,C53];exact g1
 have E91:v 91=0:=by have q:v 91=er1 (v 77,v 78) (v 83,v 84):=e91;rw [q,B77,B83];exact g2
 have E97:v 97=0:=by have q:v 97=er3 (v 71,v 72):=e97;rw [q,C71];exact g3
 have E103:v 103=0:=by have q:v 103=er1 (v 89,v 90) (v 95,v 96):=e103;rw [q,B89,B95];exact g4
 have E109:v 109=0:=by have q:v 109=er4 (v 101,v 102):=e109;rw [q,B101];exact g5
 have e113:v 113=(ak 0 [v 0,v 1,v 6,v 7]).getD 0 0:=ah hs 113 rfl;have e114:v 114=(ak 0 [v 0,v 1,v 6,v 7]).getD 1 0:=ah hs 114 rfl;have P113:((v 113,v 114):IV)=uM (v 0,v 1) (v 6,v 7):=by rw [e113,e114];rfl
 have U113:U (v 113,v 114):=by rw [P113];exact (U_M U0 U6).2.2
 have e115:v 115=(ak 0 [v 0,v 1,v 6,v 7]).getD 2 0:=ah hs 115 rfl;have E115:v 115=0:=e115.trans (U_M U0 U6).2.1;have e119:v 119=(ak 0 [v 2,v 3,v 8,v 9]).getD 0 0:=ah hs 119 rfl;have e120:v 120=(ak 0 [v 2,v 3,v 8,v 9]).getD 1 0:=ah hs 120 rfl;have P119:((v 119,v 120):IV)=uM (v 2,v 3) (v 8,v 9):=by rw [e119,e120];rfl
 have U119:U (v 119,v 120):=by rw [P119];exact (U_M U2 U8).2.2
 have e121:v 121=(ak 0 [v 2,v 3,v 8,v 9]).getD 2 0:=ah hs 121 rfl;have E121:v 121=0:=e121.trans (U_M U2 U8).2.1;have e131:v 131=(ak 0 [v 4,v 5,v 10,v 11]).getD 0 0:=ah hs 131 rfl;have e132:v 132=(ak 0 [v 4,v 5,v 10,v 11]).getD 1 0:=ah hs 132 rfl;have P131:((v 131,v 132):IV)=uM (v 4,v 5) (v 10,v 11):=by rw [e131,e132];rfl
 have U131:U (v 131,v 132):=by rw [P131];exact (U_M U4 U10).2.2
 have e133:v 133=(ak 0 [v 4,v 5,v 10,v 11]).getD 2 0:=ah hs 133 rfl;have E133:v 133=0:=e133.trans (U_M U4 U10).2.1;have e125:v 125=(ak 1 [v 113,v 114,v 119,v 120]).getD 0 0:=ah hs 125 rfl;have e126:v 126=(ak 1 [v 113,v 114,v 119,v 120]).getD 1 0:=ah hs 126 rfl;have P125:((v 125,v 126):IV)=uA (v 113,v 114) (v 119,v 120):=by rw [e125,e126];rfl
 have F125:fxV (v 125) (v 126)=true:=by have:=(U_A U113 U119).2.2;rw [<-P125] at this;exact this
 have e127:v 127=(ak 1 [v 113,v 114,v 119,v 120]).getD 2 0:=ah hs 127 rfl;have E127:v 127=0:=e127.trans (U_A U113 U119).2.1;have e137:v 137=(ak 1 [v 125,v 126,v 131,v 132]).getD 0 0:=ah hs 137 rfl;have e138:v 138=(ak 1 [v 125,v 126,v 131,v 132]).getD 1 0:=ah hs 138 rfl;have e139:v 139=(ak 1 [v 125,v 126,v 131,v 132]).getD 2 0:=ah hs 139 rfl;have P137:((v 137,v 138):IV)=uA (v 125,v 126) (v 131,v 132):=by rw [e137,e138];rfl
 have F137:fxV (v 137) (v 138)=true:=by have:=rM (v 125,v 126) (v 131,v 132);rw [<-P137] at this;exact this
 have B131:((v 131,v 132):IV)=uM ((a4,a5):IV) ((a10,a11):IV):=by rw [P131,P4,P10]
 have B125:((v 125,v 126):IV)=dt2 ((a0,a1):IV) ((a2,a3):IV) ((a6,a7):IV) ((a8,a9):IV):=by rw [P125,P113,P119,P0,P6,P2,P8];rfl
 have B137:((v 137,v 138):IV)=dtI ((a0,a1):IV) ((a2,a3):IV) ((a4,a5):IV) ((a6,a7):IV) ((a8,a9):IV) ((a10,a11):IV):=by rw [P137,B125,B131];rfl
 have E139:v 139=0:=by have q:v 139=er1 (v 125,v 126) (v 131,v 132):=e139;rw [q,B125,B131];exact g6
 have e145:v 145=(ak 7 [v 107,v 108,v 137,v 138]).getD 0 0:=ah hs 145 rfl;have e146:v 146=(ak 7 [v 107,v 108,v 137,v 138]).getD 1 0:=ah hs 146 rfl;have b0:v 107=(uR (smI (crX ((a2,a3):IV) ((a4,a5):IV) ((a8,a9):IV) ((a10,a11):IV)) (crX ((a4,a5):IV) ((a0,a1):IV) ((a10,a11):IV) ((a6,a7):IV)) (crX ((a0,a1):IV) ((a2,a3):IV) ((a6,a7):IV) ((a8,a9):IV)))).1:=congrArg Prod.fst B107;have b1:v 108=(uR (smI (crX ((a2,a3):IV) ((a4,a5):IV) ((a8,a9):IV) ((a10,a11):IV)) (crX ((a4,a5):IV) ((a0,a1):IV) ((a10,a11):IV) ((a6,a7):IV)) (crX ((a0,a1):IV) ((a2,a3):IV) ((a6,a7):IV) ((a8,a9):IV)))).2:=congrArg Prod.snd B107;have b2:v 137=(dtI ((a0,a1):IV) ((a2,a3):IV) ((a4,a5):IV) ((a6,a7):IV) ((a8,a9):IV) ((a10,a11):IV)).1:=congrArg Prod.fst B137;have b3:v 138=(dtI ((a0,a1):IV) ((a2,a3):IV) ((a4,a5):IV) ((a6,a7):IV) ((a8,a9):IV) ((a10,a11):IV)).2:=congrArg Prod.snd B137;have L0:v 145=aU (v 107) (v 108) (v 137) (v 138):=e145;have L1:v 146=bg (v 107) (v 108) (v 137) (v 138):=e146;rw [<-b0,<-b1,<-b2,<-b3] at ho;have x1:=(bM _ _).1 F107;have x2:=(bM _ _).1 F137;have bh:=AA (yl:=v 107) (yh:=v 108) (xl:=v 137) (xh:=v 138) (by omega) (by omega) (by omega) (by omega) ho
 have bb:=FP (v 107) (v 108) (v 137) (v 138);rw [<-L0,<-L1] at bh bb;have k149:v 149=v 146-v 145:=by have h:v 149=IntKind.i64.wrap (v 146-v 145):=ah hs 149 rfl;rw [h,Go.IntWalk.i64_in _ (by omega)]
 have k150:v 150=0:=by have h:v 150=b2i (decide (v 149>=21600000)):=ah hs 150 rfl;rw [h,k149,decide_eq_false (by omega)];rfl
 rw [b0,b1,b2,b3] at L0 L1;have r169:v 169=aU (uR (smI (crX ((a2,a3):IV) ((a4,a5):IV) ((a8,a9):IV) ((a10,a11):IV)) (crX ((a4,a5):IV) ((a0,a1):IV) ((a10,a11):IV) ((a6,a7):IV)) (crX ((a0,a1):IV) ((a2,a3):IV) ((a6,a7):IV) ((a8,a9):IV)))).1 (uR (smI (crX ((a2,a3):IV) ((a4,a5):IV) ((a8,a9):IV) ((a10,a11):IV)) (crX ((a4,a5):IV) ((a0,a1):IV) ((a10,a11):IV) ((a6,a7):IV)) (crX ((a0,a1):IV) ((a2,a3):IV) ((a6,a7):IV) ((a8,a9):IV)))).2 (dtI ((a0,a1):IV) ((a2,a3):IV) ((a4,a5):IV) ((a6,a7):IV) ((a8,a9):IV) ((a10,a11):IV)).1 (dtI ((a0,a1):IV) ((a2,a3):IV) ((a4,a5):IV) ((a6,a7):IV) ((a8,a9):IV) ((a10,a11):IV)).2:=(bC (X:=cxB [a0,a1,a2,a3,a4,a5,a6,a7,a8,a9,a10,a11]) (v:=v) (l:=oC) (bi _) hs (k:=169) (j:=145) (ps:=[(12,.c 1),(13,.c 1),(15,.c 1),(18,.c 1),(19,.c 1),(21,.c 1),(28,.c 0),(31,.c 0),(37,.c 0),(43,.c 0),(49,.c 0),(55,.c 0),(61,.c 0),(67,.c 0),(73,.c 0),(79,.c 0),(85,.c 0),(91,.c 0),(97,.c 0),(103,.c 0),(109,.c 0),(115,.c 0),(121,.c 0),(127,.c 0),(133,.c 0),(139,.c 0),(150,.c 0)]) (ae k12 (ae k13 (ae k15 (ae k18 (ae k19 (ae k21 (ae E28 (ae E31 (ae E37 (ae E43 (ae E49 (ae E55 (ae E61 (ae E67 (ae E73 (ae E79 (ae E85 (ae E91 (ae E97 (ae E103 (ae E109 (ae E115 (ae E121 (ae E127 (ae E133 (ae E139 (ae k150 bI))))))))))))))))))))))))))) (by kernel_rfl)).trans (L0)
 have r170:v 170=bg (uR (smI (crX ((a2,a3):IV) ((a4,a5):IV) ((a8,a9):IV) ((a10,a11):IV)) (crX ((a4,a5):IV) ((a0,a1):IV) ((a10,a11):IV) ((a6,a7):IV)) (crX ((a0,a1):IV) ((a2,a3):IV) ((a6,a7):IV) ((a8,a9):IV)))).1 (uR (smI (crX ((a2,a3):IV) ((a4,a5):IV) ((a8,a9):IV) ((a10,a11):IV)) (crX ((a4,a5):IV) ((a0,a1):IV) ((a10,a11):IV) ((a6,a7):IV)) (crX ((a0,a1):IV) ((a2,a3):IV) ((a6,a7):IV) ((a8,a9):IV)))).2 (dtI ((a0,a1):IV) ((a2,a3):IV) ((a4,a5):IV) ((a6,a7):IV) ((a8,a9):IV) ((a10,a11):IV)).1 (dtI ((a0,a1):IV) ((a2,a3):IV) ((a4,a5):IV) ((a6,a7):IV) ((a8,a9):IV) ((a10,a11):IV)).2:=(bC (X:=cxB [a0,a1,a2,a3,a4,a5,a6,a7,a8,a9,a10,a11]) (v:=v) (l:=oC) (bi _) hs (k:=170) (j:=146) (ps:=[(12,.c 1),(13,.c 1),(15,.c 1),(18,.c 1),(19,.c 1),(21,.c 1),(28,.c 0),(31,.c 0),(37,.c 0),(43,.c 0),(49,.c 0),(55,.c 0),(61,.c 0),(67,.c 0),(73,.c 0),(79,.c 0),(85,.c 0),(91,.c 0),(97,.c 0),(103,.c 0),(109,.c 0),(115,.c 0),(121,.c 0),(127,.c 0),(133,.c 0),(139,.c 0),(150,.c 0)]) (ae k12 (ae k13 (ae k15 (ae k18 (ae k19 (ae k21 (ae E28 (ae E31 (ae E37 (ae E43 (ae E49 (ae E55 (ae E61 (ae E67 (ae E73 (ae E79 (ae E85 (ae E91 (ae E97 (ae E103 (ae E109 (ae E115 (ae E121 (ae E127 (ae E133 (ae E139 (ae k150 bI))))))))))))))))))))))))))) (by kernel_rfl)).trans (L1)
 have rE:v 168=0:=dI (X:=cxB [a0,a1,a2,a3,a4,a5,a6,a7,a8,a9,a10,a11]) (v:=v) (l:=oC) (bi _) hs (k:=168) (r:=.c 0) (ps:=[(12,.c 1),(13,.c 1),(15,.c 1),(18,.c 1),(19,.c 1),(21,.c 1),(28,.c 0),(31,.c 0),(37,.c 0),(43,.c 0),(49,.c 0),(55,.c 0),(61,.c 0),(67,.c 0),(73,.c 0),(79,.c 0),(85,.c 0),(91,.c 0),(97,.c 0),(103,.c 0),(109,.c 0),(115,.c 0),(121,.c 0),(127,.c 0),(133,.c 0),(139,.c 0),(150,.c 0)]) (nz:=[]) (ae k12 (ae k13 (ae k15 (ae k18 (ae k19 (ae k21 (ae E28 (ae E31 (ae E37 (ae E43 (ae E49 (ae E55 (ae E61 (ae E67 (ae E73 (ae E79 (ae E85 (ae E91 (ae E97 (ae E103 (ae E109 (ae E115 (ae E121 (ae E127 (ae E133 (ae E139 (ae k150 bI))))))))))))))))))))))))))) ek (by kernel_rfl)
 refine ⟨jA hs (fs:=[((.n 12,true),(.n 0,.n 1)),((.n 12,true),(.n 2,.n 3)),((.n 12,true),(.n 4,.n 5)),((.n 12,true),(.n 6,.n 7)),((.n 12,true),(.n 8,.n 9)),((.n 12,true),(.n 10,.n 11)),((.n 14,true),(.n 0,.n 1)),((.n 14,true),(.n 2,.n 3)),((.n 14,true),(.n 4,.n 5)),((.n 14,true),(.n 6,.n 7)),((.n 14,true),(.n 8,.n 9)),((.n 14,true),(.n 10,.n 11)),((.n 18,true),(.n 0,.n 1)),((.n 18,true),(.n 2,.n 3)),((.n 18,true),(.n 4,.n 5)),((.n 18,true),(.n 6,.n 7)),((.n 18,true),(.n 8,.n 9)),((.n 18,true),(.n 10,.n 11)),((.n 20,true),(.n 0,.n 1)),((.n 20,true),(.n 2,.n 3)),((.n 20,true),(.n 4,.n 5)),((.n 20,true),(.n 6,.n 7)),((.n 20,true),(.n 8,.n 9)),((.n 20,true),(.n 10,.n 11)),((.n 25,true),(.n 0,.n 1)),((.n 25,true),(.n 2,.n 3)),((.n 25,true),(.n 4,.n 5)),((.n 25,true),(.n 6,.n 7)),((.n 25,true),(.n 8,.n 9)),((.n 25,true),(.n 10,.n 11)),((.n 144,true),(.n 0,.n 1)),((.n 144,true),(.n 2,.n 3)),((.n 144,true),(.n 4,.n 5)),((.n 144,true),(.n 6,.n 7)),((.n 144,true),(.n 8,.n 9)),((.n 144,true),(.n 10,.n 11))]) (rs:=[]) (fun e he=>by simp only [List.mem_cons,List.not_mem_nil,or_false] at he;rcases he with rfl|rfl|rfl|rfl|rfl|rfl|rfl|rfl|rfl|rfl|rfl|rfl|rfl|rfl|rfl|rfl|rfl|rfl|rfl|rfl|rfl|rfl|rfl|rfl|rfl|rfl|rfl|rfl|rfl|rfl|rfl|rfl|rfl|rfl|rfl|rfl<;>intro _<;>assumption) (fun e he=>by cases he) (by kernel_rfl),?_⟩
 intro x hx0;have hx':=og (v:=v) (by rfl) hx0
 rw [hx'];show Value.tuple #[.agg #[.int .i64 (v 169),.int .i64 (v 170)],.int .i64 (v 168)]=_;rw [r169,r170,rE]
