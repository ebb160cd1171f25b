/- Small functions of the reference's solution by tables. -/
import Derived.Test.YtdbaccfgkacffaaGreatZLkP
set_option linter.unusedVariables false
set_option linter.unusedSimpArgs false
set_option maxRecDepth 100000
namespace Go.Proofs.YtdbaccfgkacffaaGreat
open Go.RowKit Alm Sx
def ji (a g:Int):Int:=if a/60000=g then g-1 else a/60000
def JL:List Nd:=[.arg 0,.arg 1,.arg 2,.arg 3,.bin .quo .i64 0 (.c 60000),.bin .rem .i64 0 (.c 60000),.bin .lss .i64 5 (.c 0),.bin .sub .i64 4 (.c 1),.ite 6 (.c 0) (.c 1),.ite 6 7 4,.bin .eql .i64 9 3,.bin .sub .i64 3 (.c 1),.ite 10 (.c 0) (.c 1),.ite 10 11 9,.bin .mul .i64 13 (.c 60000),.bin .sub .i64 0 14,.bin .sub .i64 1 14,.bin .geq .i64 13 2,.bin .lss .i64 13 3,.ite 17 18 (.c 0),.bin .leq .i64 16 (.c 60000),.ite 19 20 (.c 0)]
def RF:List Vc:=[]
theorem Vn:whole Tryz.prog [] 20 40 54 [(true,[some .i64,some .i64]),(false,[some .i64]),(false,[some .i64])]=some (.tup [.c (.int .i64 (.n 13)),.agg [.int .i64 (.n 15),.int .i64 (.n 16)],.c (.bool (.n 21))],⟨JL.reverse,RF.reverse⟩):=by kernel_rfl
theorem Wd:wfN JL.reverse=true:=by kernel_rfl
theorem Nk (a b lo hi:Int) (w:World) (h1:-1000000000000<=a/\a<=1000000000000) (h2:-1000000000000<=b/\b<=1000000000000) (h3:-1000<=lo/\lo<=1000) (h4:-1000<=hi/\hi<=1000):Calls Tryz.prog 54 #[.agg #[.int .i64 a,.int .i64 b],.int .i64 lo,.int .i64 hi] w fun e w'=>e=.returned (.tuple #[.int .i64 (ji a hi),.agg #[.int .i64 (a-ji a hi*60000),.int .i64 (b-ji a hi*60000)],.bool (decide (lo<=ji a hi/\ji a hi<hi/\b-ji a hi*60000<=60000))])/\Below w.heap.size w w':=by
 refine Sx.calls (X:=cxS [a,b,lo,hi]) dG (fun s hs=>by cases hs) Vn Wd (fun v hs=>?_) w
 have e0:v 0=a:=aa hs 0 rfl;have e1:v 1=b:=aa hs 1 rfl;have e2:v 2=lo:=aa hs 2 rfl;have e3:v 3=hi:=aa hs 3 rfl;have w9:v 9=a/60000:=by rw [<-e0];exact bW (x:=v 0) (m:=60000) (q:=v 4) (r:=v 5) (c:=v 6) (s:=v 7) (z:=v 9) (by omega) (by omega) (aa hs 4 rfl) (aa hs 5 rfl) (aa hs 6 rfl) (aa hs 7 rfl) (aa hs 9 rfl)
 have w11:v 11=hi-1:=by rw [show v 11=IntKind.i64.wrap (v 3-(1:Int)) from aa hs 11 rfl,e3,Go.IntWalk.i64_in _ (by omega)]
 have w10:v 10=b2i (decide (a/60000=hi)):=by rw [show v 10=b2i (v 9==v 3) from aa hs 10 rfl,w9,e3];rfl
 have w13:v 13=ji a hi:=by
  have q:v 13=if a/60000=hi then v 11 else v 9:=kif w10 (aa hs 13 rfl)
  rw [q,w11,w9];rfl
 have kb:-100000000<=ji a hi/\ji a hi<=100000000:=by unfold ji;split<;>omega
 have w14:v 14=ji a hi*60000:=by rw [show v 14=IntKind.i64.wrap (v 13*(60000:Int)) from aa hs 14 rfl,w13,Go.IntWalk.i64_in _ (by omega)]
 have w15:v 15=a-ji a hi*60000:=by rw [show v 15=IntKind.i64.wrap (v 0-v 14) from aa hs 15 rfl,w14,e0,Go.IntWalk.i64_in _ (by omega)]
 have w16:v 16=b-ji a hi*60000:=by rw [show v 16=IntKind.i64.wrap (v 1-v 14) from aa hs 16 rfl,w14,e1,Go.IntWalk.i64_in _ (by omega)]
 have w21:v 21=b2i (decide (lo<=ji a hi/\ji a hi<hi/\b-ji a hi*60000<=60000)):=kH (P:=lo<=ji a hi) (Q:=ji a hi<hi) (R:=b-ji a hi*60000<=60000) (a:=v 17) (b:=v 18) (e:=v 20) (q:=v 19) (r:=v 21) (by rw [show v 17=b2i (decide (v 13>=v 2)) from aa hs 17 rfl,w13,e2]) (by rw [show v 18=b2i (decide (v 13<v 3)) from aa hs 18 rfl,w13,e3]) (by rw [show v 20=b2i (decide (v 16<=(60000:Int))) from aa hs 20 rfl,w16]) (aa hs 19 rfl) (aa hs 21 rfl)
 refine ⟨aS ?_,?_⟩
 . exact aR
 . intro x hx0;have hx':=bE (v:=v) (by rfl) hx0
   rw [hx'];show Value.tuple #[.int .i64 (v 13),.agg #[.int .i64 (v 15),.int .i64 (v 16)],.bool (decide (v 21≠0))]=_;rw [w13,w15,w16,w21];by_cases q1:(lo<=ji a hi/\ji a hi<hi/\b-ji a hi*60000<=60000)<;>simp [q1,b2i]
