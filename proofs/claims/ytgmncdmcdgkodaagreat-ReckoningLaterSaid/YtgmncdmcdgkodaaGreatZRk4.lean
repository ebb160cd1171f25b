/- The leg of a motion, reckoned at known numbers. -/
import Derived.Test.YtgmncdmcdgkodaaGreatZRk2
set_option linter.unusedVariables false
set_option linter.unusedSimpArgs false
set_option maxRecDepth 100000
namespace Go.Proofs.YtgmncdmcdgkodaaGreat
open Go.RowKit Alm Sx
def iX:List Nd:=[
 .arg 0,
 .arg 1,
 .arg 2,
 .arg 3,
 .arg 4,
 .arg 5,
 .arg 6,
 .arg 7,
 .bin .geq .i64 (.n 2) (.c 0),
 .bin .leq .i64 (.n 2) (.n 3),
 .ite (.n 8) (.n 9) (.c 0),
 .bin .leq .i64 (.n 3) (.c 200000),
 .ite (.n 10) (.n 11) (.c 0),
 .ite (.n 12) (.c 0) (.c 1),
 .bin .leq .i64 (.n 0) (.n 1),
 .bin .geq .i64 (.n 0) (.c (-1099511627776)),
 .bin .leq .i64 (.n 0) (.c 1099511627776),
 .ite (.n 15) (.n 16) (.c 0),
 .ite (.n 14) (.n 17) (.c 0),
 .bin .geq .i64 (.n 1) (.c (-1099511627776)),
 .bin .leq .i64 (.n 1) (.c 1099511627776),
 .ite (.n 19) (.n 20) (.c 0),
 .ite (.n 18) (.n 21) (.c 0),
 .ite (.n 22) (.c 0) (.c 1),
 .ite (.n 13) (.c 1) (.n 23),
 .bin .leq .i64 (.n 4) (.n 5),
 .bin .geq .i64 (.n 4) (.c (-70368744177664)),
 .bin .leq .i64 (.n 4) (.c 70368744177664),
 .ite (.n 26) (.n 27) (.c 0),
 .ite (.n 25) (.n 28) (.c 0),
 .bin .geq .i64 (.n 5) (.c (-70368744177664)),
 .bin .leq .i64 (.n 5) (.c 70368744177664),
 .ite (.n 30) (.n 31) (.c 0),
 .ite (.n 29) (.n 32) (.c 0),
 .ite (.n 33) (.c 0) (.c 1),
 .ite (.n 24) (.c 1) (.n 34),
 .bin .leq .i64 (.n 6) (.n 7),
 .bin .geq .i64 (.n 6) (.c (-70368744177664)),
 .bin .leq .i64 (.n 6) (.c 70368744177664),
 .ite (.n 37) (.n 38) (.c 0),
 .ite (.n 36) (.n 39) (.c 0),
 .bin .geq .i64 (.n 7) (.c (-70368744177664)),
 .bin .leq .i64 (.n 7) (.c 70368744177664),
 .ite (.n 41) (.n 42) (.c 0),
 .ite (.n 40) (.n 43) (.c 0),
 .ite (.n 44) (.c 0) (.c 1),
 .ite (.n 35) (.c 1) (.n 45),
 .bin .lss .i64 (.n 7) (.n 4),
 .bin .sub .i64 (.n 7) (.n 4),
 .bin .gtr .i64 (.n 48) (.c 34560000000),
 .ite (.n 49) (.c 0) (.c 1),
 .ite (.n 47) (.c 0) (.c 1),
 .ite (.n 51) (.n 50) (.c 0),
 .ite (.n 51) (.n 49) (.c 0),
 .ite (.n 47) (.c 1) (.n 53),
 .ite (.n 47) (.c 17) (.c 2),
 .ite (.n 46) (.c 0) (.c 1),
 .ite (.n 56) (.n 52) (.c 0),
 .ite (.n 56) (.n 54) (.c 0),
 .ite (.n 46) (.c 1) (.n 58),
 .ite (.n 46) (.c 1) (.n 55),
 .bin .sub .i64 (.n 6) (.n 5),
 .mx (.c 0) (.n 61),
 .bin .mul .i64 (.n 2) (.n 62),
 .bin .quo .i64 (.n 63) (.c 3600000),
 .bin .mul .i64 (.n 3) (.n 48),
 .bin .add .i64 (.n 65) (.c 3600000),
 .bin .sub .i64 (.n 66) (.c 1),
 .bin .quo .i64 (.n 67) (.c 3600000),
 .ite (.n 59) (.c 1) (.n 57),
 .ite (.n 59) (.n 60) (.c 0),
 .ite (.n 59) (.c 0) (.n 0),
 .ite (.n 59) (.c 0) (.n 1),
 .ite (.n 59) (.c 0) (.n 64),
 .ite (.n 59) (.c 0) (.n 68)]
def lC:List Vc:=[
 ]
theorem zB:whole Tryz.prog [] 20 40 9 [(true,[some .i64,some .i64,some .i64,some .i64]),(true,[some .i64,some .i64]),(true,[some .i64,some .i64])]=some (.tup [.agg [.int .i64 (.n 71),.int .i64 (.n 72),.int .i64 (.n 73),.int .i64 (.n 74)],.c (.int .i64 (.n 70))],⟨iX.reverse,lC.reverse⟩):=by kernel_rfl
theorem ze:wfN iX.reverse=true:=by kernel_rfl
theorem Et:evP (cxB [0,0,10000,10000,0,0,3600000,3600000]).sem (fun _ _=>false) iX [(0,.c 0),(1,.c 0),(2,.c 10000),(3,.c 10000),(4,.c 0),(5,.c 0),(6,.c 3600000),(7,.c 3600000)] lC.reverse [(71,0),(72,0),(73,10000),(74,10000),(70,0)]=true:=by kernel_rfl
theorem FH (w:World):Calls Tryz.prog 9 #[.agg #[.int .i64 0,.int .i64 0,.int .i64 10000,.int .i64 10000],.agg #[.int .i64 0,.int .i64 0],.agg #[.int .i64 3600000,.int .i64 3600000]] w fun e w'=>e=.returned (.tuple #[.agg #[.int .i64 0,.int .i64 0,.int .i64 10000,.int .i64 10000],.int .i64 0])/\Below w.heap.size w w':=by
 refine Sx.calls (X:=cxB [0,0,10000,10000,0,0,3600000,3600000]) gp (fun s hs=>by cases hs) zB ze (fun v hs=>?_) w
 have hps:∀ q∈([(0,.c 0),(1,.c 0),(2,.c 10000),(3,.c 10000),(4,.c 0),(5,.c 0),(6,.c 3600000),(7,.c 3600000)]:List (Nat × Rf)),v q.1=q.2.val v:=by
  intro q hq;simp only [List.mem_cons,List.not_mem_nil,or_false] at hq;rcases hq with rfl|rfl|rfl|rfl|rfl|rfl|rfl|rfl
  . exact ak hs 0 rfl
  . exact ak hs 1 rfl
  . exact ak hs 2 rfl
  . exact ak hs 3 rfl
  . exact ak hs 4 rfl
  . exact ak hs 5 rfl
  . exact ak hs 6 rfl
  . exact ak hs 7 rfl
 have h:=vW (X:=cxB [0,0,10000,10000,0,0,3600000,3600000]) (v:=v) (nd:=iX) hs hps (pre:=fun _ _=>false) (fun _ _ h=>by cases h) (vs:=lC.reverse) (ks:=[(71,0),(72,0),(73,10000),(74,10000),(70,0)]) Et
 have r71:v 71=0:=h.1 (71,0) (by simp)
 have r72:v 72=0:=h.1 (72,0) (by simp)
 have r73:v 73=10000:=h.1 (73,10000) (by simp)
 have r74:v 74=10000:=h.1 (74,10000) (by simp)
 have r70:v 70=0:=h.1 (70,0) (by simp)
 refine ⟨h.2,fun x hx0=>?_⟩
 have hx':=fF (v:=v) (by rfl) hx0
 rw [hx'];show Value.tuple #[.agg #[.int .i64 (v 71),.int .i64 (v 72),.int .i64 (v 73),.int .i64 (v 74)],.int .i64 (v 70)]=_;rw [r71,r72,r73,r74,r70]
