/- The contracts of vectors.Of, Cross, Dot, Between. -/
import Derived.Test.YtgmncdmcdgkodaaZSpV
import Derived.Test.YtgmncdmcdgkodaaZUnit
import Derived.Test.YtgmncdmcdgkodaaZTrc
import Derived.Test.YtgmncdmcdgkodaaZTr2
set_option linter.unusedVariables false
set_option linter.unusedSimpArgs false
set_option maxRecDepth 100000
namespace Go.Proofs.Ytgmncdmcdgkodaa
open Go.RowKit Alm Sx
theorem bC {X:Cx} {v:Nat->Int} {ext:Ext} (he:kH X ext) {l:List Nd} (hs:aC X v l.reverse) {ps:List (Nat × Rf)} (hp:∀ q∈ps,v q.1=q.2.val v) {k j:Nat} (h:Rf.eq ((norm ext ps [] l).rep (.n k)) ((norm ext ps [] l).rep (.n j))=true):v k=v j:=by
 have a:=jR (kS he hs hp ek) (.n k);have b:=jR (kS he hs hp ek) (.n j);rw [Rf.eq_eq h] at a;exact a.symm.trans b
def er0 (p q:IV):Int:=(ak 0 [p.1,p.2,q.1,q.2]).getD 2 0
def er1 (p q:IV):Int:=(ak 1 [p.1,p.2,q.1,q.2]).getD 2 0
def er2 (p q:IV):Int:=(ak 2 [p.1,p.2,q.1,q.2]).getD 2 0
def er3 (p:IV):Int:=(ak 3 [p.1,p.2]).getD 2 0
def er4 (p:IV):Int:=(ak 4 [p.1,p.2]).getD 2 0
theorem Ee (p q:IV):fxV (uM p q).1 (uM p q).2=true:=(qf _ _).2.2
theorem rM (p q:IV):fxV (uA p q).1 (uA p q).2=true:=(qf _ _).2.2
theorem Db (p q:IV):fxV (uD p q).1 (uD p q).2=true:=(qf _ _).2.2
theorem E9 (p:IV):fxV (uQ p).1 (uQ p).2=true:=(qf _ _).2.2
theorem CJ (p:IV):fxV (uR p).1 (uR p).2=true:=(qf _ _).2.2
def sm2 (x y:IV):IV:=uA (uQ x) (uQ y)
def ig:List Nd:=[
 .arg 0,
 .arg 1,
 .arg 2,
 .arg 3,
 .bin .leq .i64 (.n 0) (.n 1),
 .bin .geq .i64 (.n 0) (.c (-1099511627776)),
 .bin .leq .i64 (.n 0) (.c 1099511627776),
 .ite (.n 5) (.n 6) (.c 0),
 .ite (.n 4) (.n 7) (.c 0),
 .bin .geq .i64 (.n 1) (.c (-1099511627776)),
 .bin .leq .i64 (.n 1) (.c 1099511627776),
 .ite (.n 9) (.n 10) (.c 0),
 .ite (.n 8) (.n 11) (.c 0),
 .ite (.n 12) (.c 0) (.c 1),
 .bin .leq .i64 (.n 2) (.n 3),
 .bin .geq .i64 (.n 2) (.c (-1099511627776)),
 .bin .leq .i64 (.n 2) (.c 1099511627776),
 .ite (.n 15) (.n 16) (.c 0),
 .ite (.n 14) (.n 17) (.c 0),
 .bin .geq .i64 (.n 3) (.c (-1099511627776)),
 .bin .leq .i64 (.n 3) (.c 1099511627776),
 .ite (.n 19) (.n 20) (.c 0),
 .ite (.n 18) (.n 21) (.c 0),
 .ite (.n 22) (.c 0) (.c 1),
 .ite (.n 13) (.c 1) (.n 23),
 .ite (.n 24) (.c 0) (.c 1),
 .app 6 0 [.n 0,.n 1],
 .app 6 1 [.n 0,.n 1],
 .app 6 2 [.n 0,.n 1],
 .app 6 0 [.n 2,.n 3],
 .app 6 1 [.n 2,.n 3],
 .app 6 2 [.n 2,.n 3],
 .bin .eql .i64 (.n 28) (.c 0),
 .ite (.n 32) (.c 0) (.c 1),
 .ite (.n 32) (.n 31) (.n 28),
 .app 0 0 [.n 26,.n 27,.n 29,.n 30],
 .app 0 1 [.n 26,.n 27,.n 29,.n 30],
 .app 0 2 [.n 26,.n 27,.n 29,.n 30],
 .bin .eql .i64 (.n 34) (.c 0),
 .ite (.n 38) (.c 0) (.c 1),
 .ite (.n 38) (.n 37) (.n 34),
 .app 5 0 [.n 2,.n 3],
 .app 5 1 [.n 2,.n 3],
 .app 5 2 [.n 2,.n 3],
 .bin .eql .i64 (.n 40) (.c 0),
 .ite (.n 44) (.c 0) (.c 1),
 .ite (.n 44) (.n 43) (.n 40),
 .app 0 0 [.n 26,.n 27,.n 41,.n 42],
 .app 0 1 [.n 26,.n 27,.n 41,.n 42],
 .app 0 2 [.n 26,.n 27,.n 41,.n 42],
 .bin .eql .i64 (.n 46) (.c 0),
 .ite (.n 50) (.c 0) (.c 1),
 .ite (.n 50) (.n 49) (.n 46),
 .app 5 0 [.n 0,.n 1],
 .app 5 1 [.n 0,.n 1],
 .app 5 2 [.n 0,.n 1],
 .bin .eql .i64 (.n 52) (.c 0),
 .ite (.n 56) (.c 0) (.c 1),
 .ite (.n 56) (.n 55) (.n 52),
 .bin .neq .i64 (.n 58) (.c 0),
 .ite (.n 59) (.c 0) (.c 1),
 .ite (.n 59) (.n 58) (.c 0),
 .ite (.n 59) (.c 0) (.n 35),
 .ite (.n 59) (.c 0) (.n 36),
 .ite (.n 59) (.c 0) (.n 47),
 .ite (.n 59) (.c 0) (.n 48),
 .ite (.n 59) (.c 0) (.n 53),
 .ite (.n 59) (.c 0) (.n 54),
 .ite (.n 24) (.c 1) (.n 61),
 .ite (.n 24) (.c 0) (.n 62),
 .ite (.n 24) (.c 0) (.n 63),
 .ite (.n 24) (.c 0) (.n 64),
 .ite (.n 24) (.c 0) (.n 65),
 .ite (.n 24) (.c 0) (.n 66),
 .ite (.n 24) (.c 0) (.n 67)]
def J8:List Vc:=[
 ⟨[(.n 25,true)],.pre 6 [.n 0,.n 1]⟩,
 ⟨[(.n 25,true)],.pre 6 [.n 2,.n 3]⟩,
 ⟨[(.n 25,true)],.pre 0 [.n 26,.n 27,.n 29,.n 30]⟩,
 ⟨[(.n 25,true)],.pre 5 [.n 2,.n 3]⟩,
 ⟨[(.n 25,true)],.pre 0 [.n 26,.n 27,.n 41,.n 42]⟩,
 ⟨[(.n 25,true)],.pre 5 [.n 0,.n 1]⟩]
theorem H8:whole Try.prog jY 20 40 29 [(true,[some .i64,some .i64]),(true,[some .i64,some .i64])]=some (.tup [.agg [.int .i64 (.n 69),.int .i64 (.n 70),.int .i64 (.n 71),.int .i64 (.n 72),.int .i64 (.n 73),.int .i64 (.n 74)],.c (.int .i64 (.n 68))],⟨ig.reverse,J8.reverse⟩):=by kernel_rfl
theorem Ky:wfN ig.reverse=true:=by kernel_rfl
theorem Mc (a0 a1 a2 a3:Int) (w:World) (h1:dA a0 a1=true) (h2:dA a2 a3=true):Calls Try.prog 29 #[.agg #[.int .i64 a0,.int .i64 a1],.agg #[.int .i64 a2,.int .i64 a3]] w fun e w'=>e=.returned (.tuple #[.agg #[.int .i64 (uM (uC a0 a1) (uC a2 a3)).1,.int .i64 (uM (uC a0 a1) (uC a2 a3)).2,.int .i64 (uM (uC a0 a1) (uS a2 a3)).1,.int .i64 (uM (uC a0 a1) (uS a2 a3)).2,.int .i64 (uS a0 a1).1,.int .i64 (uS a0 a1).2],.int .i64 0])/\Below w.heap.size w w':=by
 refine Sx.calls (X:=cxB [a0,a1,a2,a3]) iI (gN _) H8 Ky (fun v hs=>?_) w
 have e0:v 0=a0:=ah hs 0 rfl;have e1:v 1=a1:=ah hs 1 rfl;have e2:v 2=a2:=ah hs 2 rfl;have e3:v 3=a3:=ah hs 3 rfl;have A0:dA (v 0) (v 1)=true:=by rw [e0,e1];exact h1
 have A2:dA (v 2) (v 3)=true:=by rw [e2,e3];exact h2
 have q0:=(eT _ _).1 A0;have q2:=(eT _ _).1 A2;have k4:v 4=1:=by have h:v 4=b2i (decide (v 0<=v 1)):=ah hs 4 rfl;rw [h,decide_eq_true (by omega)];rfl
 have k5:v 5=1:=by have h:v 5=b2i (decide (v 0>=-1099511627776)):=ah hs 5 rfl;rw [h,decide_eq_true (by omega)];rfl
 have k6:v 6=1:=by have h:v 6=b2i (decide (v 0<=1099511627776)):=ah hs 6 rfl;rw [h,decide_eq_true (by omega)];rfl
 have k9:v 9=1:=by have h:v 9=b2i (decide (v 1>=-1099511627776)):=ah hs 9 rfl;rw [h,decide_eq_true (by omega)];rfl
 have k10:v 10=1:=by have h:v 10=b2i (decide (v 1<=1099511627776)):=ah hs 10 rfl;rw [h,decide_eq_true (by omega)];rfl
 have k14:v 14=1:=by have h:v 14=b2i (decide (v 2<=v 3)):=ah hs 14 rfl;rw [h,decide_eq_true (by omega)];rfl
 have k15:v 15=1:=by have h:v 15=b2i (decide (v 2>=-1099511627776)):=ah hs 15 rfl;rw [h,decide_eq_true (by omega)];rfl
 have k16:v 16=1:=by have h:v 16=b2i (decide (v 2<=1099511627776)):=ah hs 16 rfl;rw [h,decide_eq_true (by omega)];rfl
 have k19:v 19=1:=by have h:v 19=b2i (decide (v 3>=-1099511627776)):=ah hs 19 rfl;rw [h,decide_eq_true (by omega)];rfl
 have k20:v 20=1:=by have h:v 20=b2i (decide (v 3<=1099511627776)):=ah hs 20 rfl;rw [h,decide_eq_true (by omega)];rfl
 have e26:v 26=(ak 6 [v 0,v 1]).getD 0 0:=ah hs 26 rfl;have e27:v 27=(ak 6 [v 0,v 1]).getD 1 0:=ah hs 27 rfl;have P26:((v 26,v 27):IV)=uC a0 a1:=by rw [e26,e27,e0,e1];rfl
 have U26:U (v 26,v 27):=by rw [P26];exact U_C _ _
 have e29:v 29=(ak 6 [v 2,v 3]).getD 0 0:=ah hs 29 rfl;have e30:v 30=(ak 6 [v 2,v 3]).getD 1 0:=ah hs 30 rfl;have P29:((v 29,v 30):IV)=uC a2 a3:=by rw [e29,e30,e2,e3];rfl
 have U29:U (v 29,v 30):=by rw [P29];exact U_C _ _
 have e41:v 41=(ak 5 [v 2,v 3]).getD 0 0:=ah hs 41 rfl;have e42:v 42=(ak 5 [v 2,v 3]).getD 1 0:=ah hs 42 rfl;have P41:((v 41,v 42):IV)=uS a2 a3:=by rw [e41,e42,e2,e3];rfl
 have U41:U (v 41,v 42):=by rw [P41];exact U_S _ _
 have e53:v 53=(ak 5 [v 0,v 1]).getD 0 0:=ah hs 53 rfl;have e54:v 54=(ak 5 [v 0,v 1]).getD 1 0:=ah hs 54 rfl;have P53:((v 53,v 54):IV)=uS a0 a1:=by rw [e53,e54,e0,e1];rfl
 have U53:U (v 53,v 54):=by rw [P53];exact U_S _ _
 have e35:v 35=(ak 0 [v 26,v 27,v 29,v 30]).getD 0 0:=ah hs 35 rfl;have e36:v 36=(ak 0 [v 26,v 27,v 29,v 30]).getD 1 0:=ah hs 36 rfl;have P35:((v 35,v 36):IV)=uM (v 26,v 27) (v 29,v 30):=by rw [e35,e36];rfl
 have U35:U (v 35,v 36):=by rw [P35];exact (U_M U26 U29).2.2
 have e37:v 37=(ak 0 [v 26,v 27,v 29,v 30]).getD 2 0:=ah hs 37 rfl;have E37:v 37=0:=e37.trans (U_M U26 U29).2.1;have e47:v 47=(ak 0 [v 26,v 27,v 41,v 42]).getD 0 0:=ah hs 47 rfl;have e48:v 48=(ak 0 [v 26,v 27,v 41,v 42]).getD 1 0:=ah hs 48 rfl;have P47:((v 47,v 48):IV)=uM (v 26,v 27) (v 41,v 42):=by rw [e47,e48];rfl
 have U47:U (v 47,v 48):=by rw [P47];exact (U_M U26 U41).2.2
 have e49:v 49=(ak 0 [v 26,v 27,v 41,v 42]).getD 2 0:=ah hs 49 rfl;have E49:v 49=0:=e49.trans (U_M U26 U41).2.1;rw [P26,P29] at P35;rw [P26,P41] at P47;have r69:v 69=(uM (uC a0 a1) (uC a2 a3)).1:=(bC (X:=cxB [a0,a1,a2,a3]) (v:=v) (l:=ig) (bi _) hs (k:=69) (j:=35) (ps:=[(4,.c 1),(5,.c 1),(6,.c 1),(9,.c 1),(10,.c 1),(14,.c 1),(15,.c 1),(16,.c 1),(19,.c 1),(20,.c 1),(37,.c 0),(49,.c 0)]) (ae k4 (ae k5 (ae k6 (ae k9 (ae k10 (ae k14 (ae k15 (ae k16 (ae k19 (ae k20 (ae E37 (ae E49 bI)))))))))))) (by kernel_rfl)).trans (congrArg Prod.fst P35)
 have r70:v 70=(uM (uC a0 a1) (uC a2 a3)).2:=(bC (X:=cxB [a0,a1,a2,a3]) (v:=v) (l:=ig) (bi _) hs (k:=70) (j:=36) (ps:=[(4,.c 1),(5,.c 1),(6,.c 1),(9,.c 1),(10,.c 1),(14,.c 1),(15,.c 1),(16,.c 1),(19,.c 1),(20,.c 1),(37,.c 0),(49,.c 0)]) (ae k4 (ae k5 (ae k6 (ae k9 (ae k10 (ae k14 (ae k15 (ae k16 (ae k19 (ae k20 (ae E37 (ae E49 bI)))))))))))) (by kernel_rfl)).trans (congrArg Prod.snd P35)
 have r71:v 71=(uM (uC a0 a1) (uS a2 a3)).1:=(bC (X:=cxB [a0,a1,a2,a3]) (v:=v) (l:=ig) (bi _) hs (k:=71) (j:=47) (ps:=[(4,.c 1),(5,.c 1),(6,.c 1),(9,.c 1),(10,.c 1),(14,.c 1),(15,.c 1),(16,.c 1),(19,.c 1),(20,.c 1),(37,.c 0),(49,.c 0)]) (ae k4 (ae k5 (ae k6 (ae k9 (ae k10 (ae k14 (ae k15 (ae k16 (ae k19 (ae k20 (ae E37 (ae E49 bI)))))))))))) (by kernel_rfl)).trans (congrArg Prod.fst P47)
 have r72:v 72=(uM (uC a0 a1) (uS a2 a3)).2:=(bC (X:=cxB [a0,a1,a2,a3]) (v:=v) (l:=ig) (bi _) hs (k:=72) (j:=48) (ps:=[(4,.c 1),(5,.c 1),(6,.c 1),(9,.c 1),(10,.c 1),(14,.c 1),(15,.c 1),(16,.c 1),(19,.c 1),(20,.c 1),(37,.c 0),(49,.c 0)]) (ae k4 (ae k5 (ae k6 (ae k9 (ae k10 (ae k14 (ae k15 (ae k16 (ae k19 (ae k20 (ae E37 (ae E49 bI)))))))))))) (by kernel_rfl)).trans (congrArg Prod.snd P47)
 have r73:v 73=(uS a0 a1).1:=(bC (X:=cxB [a0,a1,a2,a3]) (v:=v) (l:=ig) (bi _) hs (k:=73) (j:=53) (ps:=[(4,.c 1),(5,.c 1),(6,.c 1),(9,.c 1),(10,.c 1),(14,.c 1),(15,.c 1),(16,.c 1),(19,.c 1),(20,.c 1),(37,.c 0),(49,.c 0)]) (ae k4 (ae k5 (ae k6 (ae k9 (ae k10 (ae k14 (ae k15 (ae k16 (ae k19 (ae k20 (ae E37 (ae E49 bI)))))))))))) (by kernel_rfl)).trans (congrArg Prod.fst P53)
 have r74:v 74=(uS a0 a1).2:=(bC (X:=cxB [a0,a1,a2,a3]) (v:=v) (l:=ig) (bi _) hs (k:=74) (j:=54) (ps:=[(4,.c 1),(5,.c 1),(6,.c 1),(9,.c 1),(10,.c 1),(14,.c 1),(15,.c 1),(16,.c 1),(19,.c 1),(20,.c 1),(37,.c 0),(49,.c 0)]) (ae k4 (ae k5 (ae k6 (ae k9 (ae k10 (ae k14 (ae k15 (ae k16 (ae k19 (ae k20 (ae E37 (ae E49 bI)))))))))))) (by kernel_rfl)).trans (congrArg Prod.snd P53)
 have rE:v 68=0:=dI (X:=cxB [a0,a1,a2,a3]) (v:=v) (l:=ig) (bi _) hs (k:=68) (r:=.c 0) (ps:=[(4,.c 1),(5,.c 1),(6,.c 1),(9,.c 1),(10,.c 1),(14,.c 1),(15,.c 1),(16,.c 1),(19,.c 1),(20,.c 1),(37,.c 0),(49,.c 0)]) (nz:=[]) (ae k4 (ae k5 (ae k6 (ae k9 (ae k10 (ae k14 (ae k15 (ae k16 (ae k19 (ae k20 (ae E37 (ae E49 bI)))))))))))) ek (by kernel_rfl)
 refine ⟨jA hs (fs:=[]) (rs:=[((.n 25,true),(.n 0,.n 1)),((.n 25,true),(.n 2,.n 3))]) (fun e he=>by cases he) (fun e he=>by simp only [List.mem_cons,List.not_mem_nil,or_false] at he;rcases he with rfl|rfl<;>intro _<;>assumption) (by kernel_rfl),?_⟩
 intro x hx0;have hx':=og (v:=v) (by rfl) hx0
 rw [hx'];show Value.tuple #[.agg #[.int .i64 (v 69),.int .i64 (v 70),.int .i64 (v 71),.int .i64 (v 72),.int .i64 (v 73),.int .i64 (v 74)],.int .i64 (v 68)]=_;rw [r69,r70,r71,r72,r73,r74,rE]
