/- The contracts of the reference's altitude, azimuth and Valid of the cosine formula. -/
import Derived.Test.YtpcfajiiijndiaaZCosP
set_option linter.unusedVariables false
set_option linter.unusedSimpArgs false
set_option maxRecDepth 100000
namespace Go.Proofs.Ytpcfajiiijndiaa
open Go.RowKit Alm Sx
def Cz:List Nd:=[
 .arg 0,
 .arg 1,
 .arg 2,
 .arg 3,
 .arg 4,
 .arg 5,
 .bin .leq .i64 (.n 0) (.n 1),
 .bin .geq .i64 (.n 0) (.c (-5400000)),
 .ite (.n 6) (.n 7) (.c 0),
 .bin .leq .i64 (.n 1) (.c 5400000),
 .ite (.n 8) (.n 9) (.c 0),
 .bin .leq .i64 (.n 2) (.n 3),
 .bin .geq .i64 (.n 2) (.c (-5400000)),
 .ite (.n 11) (.n 12) (.c 0),
 .bin .leq .i64 (.n 3) (.c 5400000),
 .ite (.n 13) (.n 14) (.c 0),
 .ite (.n 10) (.n 15) (.c 0),
 .bin .leq .i64 (.n 4) (.n 5),
 .bin .geq .i64 (.n 4) (.c (-1099511627776)),
 .ite (.n 17) (.n 18) (.c 0),
 .bin .leq .i64 (.n 5) (.c 1099511627776),
 .ite (.n 19) (.n 20) (.c 0),
 .ite (.n 16) (.n 21) (.c 0)]
def Le:List Vc:=[
 ]
theorem Lt:whole Try.prog [] 20 40 12 [(true,[some .i64,some .i64,some .i64,some .i64,some .i64,some .i64])]=some (.p (.c (.bool (.n 22))),⟨Cz.reverse,Le.reverse⟩):=by kernel_rfl
theorem MG:wfN Cz.reverse=true:=by kernel_rfl
theorem Nv (a b c d m n:Int) (w:World):Calls Try.prog 12 #[.agg #[.int .i64 a,.int .i64 b,.int .i64 c,.int .i64 d,.int .i64 m,.int .i64 n]] w fun e w'=>e=.returned (.bool (decide (b2i (decide (gV a b c d m n))≠0)))/\Below w.heap.size w w':=by
 refine Sx.calls (X:=cxE [a,b,c,d,m,n]) dN (fun s hs=>by cases hs) Lt MG (fun v hs=>?_) w
 have e0:v 0=a:=ag hs 0 rfl;have e1:v 1=b:=ag hs 1 rfl;have e2:v 2=c:=ag hs 2 rfl;have e3:v 3=d:=ag hs 3 rfl;have e4:v 4=m:=ag hs 4 rfl;have e5:v 5=n:=ag hs 5 rfl;have e6:v 6=b2i (decide (v 0<=v 1)):=ag hs 6 rfl;have e7:v 7=b2i (decide (v 0>=(-5400000:Int))):=ag hs 7 rfl;have e8:v 8=if v 6≠0 then v 7 else (0:Int):=ag hs 8 rfl
 have e9:v 9=b2i (decide (v 1<=(5400000:Int))):=ag hs 9 rfl;have e10:v 10=if v 8≠0 then v 9 else (0:Int):=ag hs 10 rfl
 have e11:v 11=b2i (decide (v 2<=v 3)):=ag hs 11 rfl;have e12:v 12=b2i (decide (v 2>=(-5400000:Int))):=ag hs 12 rfl;have e13:v 13=if v 11≠0 then v 12 else (0:Int):=ag hs 13 rfl
 have e14:v 14=b2i (decide (v 3<=(5400000:Int))):=ag hs 14 rfl;have e15:v 15=if v 13≠0 then v 14 else (0:Int):=ag hs 15 rfl
 have e16:v 16=if v 10≠0 then v 15 else (0:Int):=ag hs 16 rfl
 have e17:v 17=b2i (decide (v 4<=v 5)):=ag hs 17 rfl;have e18:v 18=b2i (decide (v 4>=(-1099511627776:Int))):=ag hs 18 rfl;have e19:v 19=if v 17≠0 then v 18 else (0:Int):=ag hs 19 rfl
 have e20:v 20=b2i (decide (v 5<=(1099511627776:Int))):=ag hs 20 rfl;have e21:v 21=if v 19≠0 then v 20 else (0:Int):=ag hs 21 rfl
 have e22:v 22=if v 16≠0 then v 21 else (0:Int):=ag hs 22 rfl
 refine ⟨bC bz,?_⟩;intro x hx;have hx':x=.bool (decide (v 22≠0)):=hx
 have Q:v 22=b2i (decide (gV a b c d m n)):=by
  rw [e22,e21,e20,e19,e18,e17,e16,e15,e14,e13,e12,e11,e10,e9,e8,e7,e6,e5,e4,e3,e2,e1,e0];simp only [bb2];exact congrArg b2i (decide_eq_decide.2 (by unfold gV;omega))
 rw [hx',Q]
