/- The contracts of small functions of both sides: moves, speed, sums and differences of arcs. -/
import Derived.Test.YtmldbeipmappnaaZCur
set_option linter.unusedVariables false
set_option linter.unusedSimpArgs false
set_option maxRecDepth 100000
namespace Go.Proofs.Ytmldbeipmappnaa
open Go.RowKit Alm Sx
abbrev MV (a b l h:Int):Prop:=cu a b=true/\0<=l/\l<=h/\h<=200000
theorem in1 {x y z u:Int} (h:x=b2i (decide (u>=(-1099511627776:Int)))) (h2:y=b2i (decide (u<=(1099511627776:Int)))) (hz:z=if x≠0 then y else (0:Int)) (b:-1000000000<=u/\u<=1000000000):z=1:=by
 rw [hz,h,h2,decide_eq_true (show u>=(-1099511627776:Int) by omega),decide_eq_true (show u<=(1099511627776:Int) by omega)];rfl
theorem Ng {lo hi:Int} (h:-1000000000<=lo/\lo<=hi/\hi<=1000000000):b2i (cu lo hi)=1:=by
 rw [(cK lo hi).2 (by omega)];rfl
theorem ab {b:Bool} {q:Prop} [Decidable q]:(if b2i b≠0 then b2i (decide q) else 0)=b2i (decide (b=true/\q)):=by
 cases b<;>by_cases h2:q<;>simp [b2i,h2]
theorem ba {b:Bool} {q:Prop} [Decidable q]:(if b2i (decide q)≠0 then b2i b else 0)=b2i (decide (b=true/\q)):=by
 cases b<;>by_cases h2:q<;>simp [b2i,h2]
theorem bb {p q:Prop} [Decidable p] [Decidable q]:(if b2i (decide p)≠0 then b2i (decide q) else 0)=b2i (decide (p/\q)):=by
 by_cases h1:p<;>by_cases h2:q<;>simp [b2i,h1,h2]
theorem nY (args:List Int):∀ s∈([]:List Sx.Spec),aH Try.prog (cxC args) s:=fun s hs=>by cases hs
def yP:List Nd:=[
 .arg 0,
 .arg 1,
 .arg 2,
 .arg 3,
 .bin .leq .i64 (.n 0) (.n 1),
 .bin .geq .i64 (.n 0) (.c (-1099511627776)),
 .bin .leq .i64 (.n 0) (.c 1099511627776),
 .ite (.n 5) (.n 6) (.c 0),
 .ite (.n 4) (.n 7) (.c 0),
 .bin .geq .i64 (.n 1) (.c (-1099511627776)),
 .bin .leq .i64 (.n 1) (.c 1099511627776),
 .ite (.n 9) (.n 10) (.c 0),
 .ite (.n 8) (.n 11) (.c 0),
 .bin .leq .i64 (.n 2) (.n 3),
 .bin .geq .i64 (.n 2) (.c (-1099511627776)),
 .bin .leq .i64 (.n 2) (.c 1099511627776),
 .ite (.n 14) (.n 15) (.c 0),
 .ite (.n 13) (.n 16) (.c 0),
 .bin .geq .i64 (.n 3) (.c (-1099511627776)),
 .bin .leq .i64 (.n 3) (.c 1099511627776),
 .ite (.n 18) (.n 19) (.c 0),
 .ite (.n 17) (.n 20) (.c 0),
 .bin .geq .i64 (.n 2) (.c 0),
 .ite (.n 21) (.n 22) (.c 0),
 .bin .leq .i64 (.n 3) (.c 200000),
 .ite (.n 23) (.n 24) (.c 0),
 .ite (.n 12) (.n 25) (.c 0)]
def JW:List Vc:=[
 ]
theorem J6:whole Try.prog [] 20 40 146 [(true,[some .i64,some .i64]),(true,[some .i64,some .i64])]=some (.p (.c (.bool (.n 26))),⟨yP.reverse,JW.reverse⟩):=by kernel_rfl
theorem KD:wfN yP.reverse=true:=by kernel_rfl
theorem Qd (a b l h:Int) (w:World):Calls Try.prog 146 #[.agg #[.int .i64 a,.int .i64 b],.agg #[.int .i64 l,.int .i64 h]] w fun e w'=>e=.returned (.bool (decide (b2i (decide (MV a b l h))≠0)))/\Below w.heap.size w w':=by
 refine Sx.calls (X:=cxC [a,b,l,h]) dX (nY _) J6 KD (fun v hs=>?_) w
 have e0:v 0=a:=ae hs 0 rfl;have e1:v 1=b:=ae hs 1 rfl;have e2:v 2=l:=ae hs 2 rfl;have e3:v 3=h:=ae hs 3 rfl;have e4:v 4=b2i (decide (v 0<=v 1)):=ae hs 4 rfl;have e5:v 5=b2i (decide (v 0>=(-1099511627776:Int))):=ae hs 5 rfl;have e6:v 6=b2i (decide (v 0<=(1099511627776:Int))):=ae hs 6 rfl;have e7:v 7=if v 5≠0 then v 6 else (0:Int):=ae hs 7 rfl
 have e8:v 8=if v 4≠0 then v 7 else (0:Int):=ae hs 8 rfl
 have e9:v 9=b2i (decide (v 1>=(-1099511627776:Int))):=ae hs 9 rfl;have e10:v 10=b2i (decide (v 1<=(1099511627776:Int))):=ae hs 10 rfl;have e11:v 11=if v 9≠0 then v 10 else (0:Int):=ae hs 11 rfl
 have e12:v 12=if v 8≠0 then v 11 else (0:Int):=ae hs 12 rfl
 have e13:v 13=b2i (decide (v 2<=v 3)):=ae hs 13 rfl;have e14:v 14=b2i (decide (v 2>=(-1099511627776:Int))):=ae hs 14 rfl;have e15:v 15=b2i (decide (v 2<=(1099511627776:Int))):=ae hs 15 rfl;have e16:v 16=if v 14≠0 then v 15 else (0:Int):=ae hs 16 rfl
 have e17:v 17=if v 13≠0 then v 16 else (0:Int):=ae hs 17 rfl
 have e18:v 18=b2i (decide (v 3>=(-1099511627776:Int))):=ae hs 18 rfl;have e19:v 19=b2i (decide (v 3<=(1099511627776:Int))):=ae hs 19 rfl;have e20:v 20=if v 18≠0 then v 19 else (0:Int):=ae hs 20 rfl
 have e21:v 21=if v 17≠0 then v 20 else (0:Int):=ae hs 21 rfl
 have e22:v 22=b2i (decide (v 2>=(0:Int))):=ae hs 22 rfl;have e23:v 23=if v 21≠0 then v 22 else (0:Int):=ae hs 23 rfl
 have e24:v 24=b2i (decide (v 3<=(200000:Int))):=ae hs 24 rfl;have e25:v 25=if v 23≠0 then v 24 else (0:Int):=ae hs 25 rfl
 have e26:v 26=if v 12≠0 then v 25 else (0:Int):=ae hs 26 rfl
 have Q12:v 12=b2i (cu (v 0) (v 1)):=by rw [e12,e8,e4,e7,e5,e6,e11,e9,e10];exact fE _ _
 have Q21:v 21=b2i (cu (v 2) (v 3)):=by rw [e21,e17,e13,e16,e14,e15,e20,e18,e19];exact fE _ _
 have Q25:v 25=b2i (decide (0<=v 2/\v 2<=v 3/\v 3<=200000)):=by
  rw [e25,e23,Q21,e22,e24,ab,bb];exact congrArg b2i (decide_eq_decide.2 (by rw [cK];omega))
 refine ⟨bO bN,?_⟩;intro x hx;have hx':x=.bool (decide (v 26≠0)):=hx;rw [hx',e26,Q12,Q25,ab,e0,e1,e2,e3]
def Gr:List Nd:=[
 .arg 0,
 .arg 1,
 .arg 2,
 .arg 3,
 .bin .leq .i64 (.n 2) (.n 3),
 .bin .geq .i64 (.n 2) (.c 0),
 .ite (.n 4) (.n 5) (.c 0),
 .bin .leq .i64 (.n 3) (.c 200000),
 .ite (.n 6) (.n 7) (.c 0),
 .bin .leq .i64 (.n 0) (.n 1),
 .bin .geq .i64 (.n 0) (.c (-1099511627776)),
 .ite (.n 9) (.n 10) (.c 0),
 .bin .leq .i64 (.n 1) (.c 1099511627776),
 .ite (.n 11) (.n 12) (.c 0),
 .ite (.n 8) (.n 13) (.c 0)]
def Rk:List Vc:=[
 ]
theorem PP:whole Try.prog [] 20 40 34 [(true,[some .i64,some .i64,some .i64,some .i64])]=some (.p (.c (.bool (.n 14))),⟨Gr.reverse,Rk.reverse⟩):=by kernel_rfl
theorem Rp:wfN Gr.reverse=true:=by kernel_rfl
theorem JD (a b l h:Int) (w:World):Calls Try.prog 34 #[.agg #[.int .i64 a,.int .i64 b,.int .i64 l,.int .i64 h]] w fun e w'=>e=.returned (.bool (decide (b2i (decide (MV a b l h))≠0)))/\Below w.heap.size w w':=by
 refine Sx.calls (X:=cxC [a,b,l,h]) dX (nY _) PP Rp (fun v hs=>?_) w
 have e0:v 0=a:=ae hs 0 rfl;have e1:v 1=b:=ae hs 1 rfl;have e2:v 2=l:=ae hs 2 rfl;have e3:v 3=h:=ae hs 3 rfl;have e4:v 4=b2i (decide (v 2<=v 3)):=ae hs 4 rfl;have e5:v 5=b2i (decide (v 2>=(0:Int))):=ae hs 5 rfl;have e6:v 6=if v 4≠0 then v 5 else (0:Int):=ae hs 6 rfl
 have e7:v 7=b2i (decide (v 3<=(200000:Int))):=ae hs 7 rfl;have e8:v 8=if v 6≠0 then v 7 else (0:Int):=ae hs 8 rfl
 have e9:v 9=b2i (decide (v 0<=v 1)):=ae hs 9 rfl;have e10:v 10=b2i (decide (v 0>=(-1099511627776:Int))):=ae hs 10 rfl;have e11:v 11=if v 9≠0 then v 10 else (0:Int):=ae hs 11 rfl
 have e12:v 12=b2i (decide (v 1<=(1099511627776:Int))):=ae hs 12 rfl;have e13:v 13=if v 11≠0 then v 12 else (0:Int):=ae hs 13 rfl
 have e14:v 14=if v 8≠0 then v 13 else (0:Int):=ae hs 14 rfl
 have Q8:v 8=b2i (decide (0<=v 2/\v 2<=v 3/\v 3<=200000)):=by
  rw [e8,e6,e4,e5,e7,bb,bb];exact congrArg b2i (decide_eq_decide.2 (by omega))
 have Q13:v 13=b2i (cu (v 0) (v 1)):=by rw [e13,e11,e9,e10,e12];exact H9 _ _
 refine ⟨bO bN,?_⟩;intro x hx;have hx':x=.bool (decide (v 14≠0)):=hx;rw [hx',e14,Q8,Q13,ba,e0,e1,e2,e3]
def Gc:List Nd:=[
 .arg 0,
 .arg 1,
 .arg 2,
 .arg 3,
 .bin .leq .i64 (.n 2) (.n 3),
 .bin .geq .i64 (.n 2) (.c 0),
 .ite (.n 4) (.n 5) (.c 0),
 .bin .leq .i64 (.n 3) (.c 200000),
 .ite (.n 6) (.n 7) (.c 0),
 .bin .leq .i64 (.n 0) (.n 1),
 .bin .geq .i64 (.n 0) (.c (-1099511627776)),
 .ite (.n 9) (.n 10) (.c 0),
 .bin .leq .i64 (.n 1) (.c 1099511627776),
 .ite (.n 11) (.n 12) (.c 0),
 .ite (.n 8) (.n 13) (.c 0)]
def Qt:List Vc:=[
 ]
theorem TF:whole Try.prog [] 20 40 35 [(true,[some .i64,some .i64,some .i64,some .i64])]=some (.p (.c (.bool (.n 14))),⟨Gc.reverse,Qt.reverse⟩):=by kernel_rfl
theorem TD:wfN Gc.reverse=true:=by kernel_rfl
theorem LC (a b l h:Int) (w:World):Calls Try.prog 35 #[.agg #[.int .i64 a,.int .i64 b,.int .i64 l,.int .i64 h]] w fun e w'=>e=.returned (.bool (decide (b2i (decide (MV a b l h))≠0)))/\Below w.heap.size w w':=by
 refine Sx.calls (X:=cxC [a,b,l,h]) dX (nY _) TF TD (fun v hs=>?_) w
 have e0:v 0=a:=ae hs 0 rfl;have e1:v 1=b:=ae hs 1 rfl;have e2:v 2=l:=ae hs 2 rfl;have e3:v 3=h:=ae hs 3 rfl;have e4:v 4=b2i (decide (v 2<=v 3)):=ae hs 4 rfl;have e5:v 5=b2i (decide (v 2>=(0:Int))):=ae hs 5 rfl;have e6:v 6=if v 4≠0 then v 5 else (0:Int):=ae hs 6 rfl
 have e7:v 7=b2i (decide (v 3<=(200000:Int))):=ae hs 7 rfl;have e8:v 8=if v 6≠0 then v 7 else (0:Int):=ae hs 8 rfl
 have e9:v 9=b2i (decide (v 0<=v 1)):=ae hs 9 rfl;have e10:v 10=b2i (decide (v 0>=(-1099511627776:Int))):=ae hs 10 rfl;have e11:v 11=if v 9≠0 then v 10 else (0:Int):=ae hs 11 rfl
 have e12:v 12=b2i (decide (v 1<=(1099511627776:Int))):=ae hs 12 rfl;have e13:v 13=if v 11≠0 then v 12 else (0:Int):=ae hs 13 rfl
 have e14:v 14=if v 8≠0 then v 13 else (0:Int):=ae hs 14 rfl
 have Q8:v 8=b2i (decide (0<=v 2/\v 2<=v 3/\v 3<=200000)):=by
  rw [e8,e6,e4,e5,e7,bb,bb];exact congrArg b2i (decide_eq_decide.2 (by omega))
 have Q13:v 13=b2i (cu (v 0) (v 1)):=by rw [e13,e11,e9,e10,e12];exact H9 _ _
 refine ⟨bO bN,?_⟩;intro x hx;have hx':x=.bool (decide (v 14≠0)):=hx;rw [hx',e14,Q8,Q13,ba,e0,e1,e2,e3]
def zi:List Nd:=[
 .arg 0,
 .arg 1,
 .bin .leq .i64 (.n 0) (.n 1),
 .bin .geq .i64 (.n 0) (.c (-1099511627776)),
 .bin .leq .i64 (.n 0) (.c 1099511627776),
 .ite (.n 3) (.n 4) (.c 0),
 .ite (.n 2) (.n 5) (.c 0),
 .bin .geq .i64 (.n 1) (.c (-1099511627776)),
 .bin .leq .i64 (.n 1) (.c 1099511627776),
 .ite (.n 7) (.n 8) (.c 0),
 .ite (.n 6) (.n 9) (.c 0),
 .bin .geq .i64 (.n 0) (.c 0),
 .ite (.n 10) (.n 11) (.c 0),
 .bin .leq .i64 (.n 1) (.c 200000),
 .ite (.n 12) (.n 13) (.c 0)]
def Kc:List Vc:=[
 ]
theorem Kh:whole Try.prog [] 20 40 152 [(true,[some .i64,some .i64])]=some (.p (.c (.bool (.n 14))),⟨zi.reverse,Kc.reverse⟩):=by kernel_rfl
theorem Kn:wfN zi.reverse=true:=by kernel_rfl
theorem R9 (a b:Int) (w:World):Calls Try.prog 152 #[.agg #[.int .i64 a,.int .i64 b]] w fun e w'=>e=.returned (.bool (decide (b2i (decide (0<=a/\a<=b/\b<=200000))≠0)))/\Below w.heap.size w w':=by
 refine Sx.calls (X:=cxC [a,b]) dX (nY _) Kh Kn (fun v hs=>?_) w
 have e0:v 0=a:=ae hs 0 rfl;have e1:v 1=b:=ae hs 1 rfl;have e2:v 2=b2i (decide (v 0<=v 1)):=ae hs 2 rfl;have e3:v 3=b2i (decide (v 0>=(-1099511627776:Int))):=ae hs 3 rfl;have e4:v 4=b2i (decide (v 0<=(1099511627776:Int))):=ae hs 4 rfl;have e5:v 5=if v 3≠0 then v 4 else (0:Int):=ae hs 5 rfl
 have e6:v 6=if v 2≠0 then v 5 else (0:Int):=ae hs 6 rfl
 have e7:v 7=b2i (decide (v 1>=(-1099511627776:Int))):=ae hs 7 rfl;have e8:v 8=b2i (decide (v 1<=(1099511627776:Int))):=ae hs 8 rfl;have e9:v 9=if v 7≠0 then v 8 else (0:Int):=ae hs 9 rfl
 have e10:v 10=if v 6≠0 then v 9 else (0:Int):=ae hs 10 rfl
 have e11:v 11=b2i (decide (v 0>=(0:Int))):=ae hs 11 rfl;have e12:v 12=if v 10≠0 then v 11 else (0:Int):=ae hs 12 rfl
 have e13:v 13=b2i (decide (v 1<=(200000:Int))):=ae hs 13 rfl;have e14:v 14=if v 12≠0 then v 13 else (0:Int):=ae hs 14 rfl
 have Q10:v 10=b2i (cu (v 0) (v 1)):=by rw [e10,e6,e2,e5,e3,e4,e9,e7,e8];exact fE _ _
 have Q14:v 14=b2i (decide (0<=v 0/\v 0<=v 1/\v 1<=200000)):=by
  rw [e14,e12,Q10,e11,e13,ab,bb];exact congrArg b2i (decide_eq_decide.2 (by rw [cK];omega))
 refine ⟨bO bN,?_⟩;intro x hx;have hx':x=.bool (decide (v 14≠0)):=hx;rw [hx',Q14,e0,e1]
def yR:List Nd:=[
 .arg 0,
 .arg 1,
 .bin .leq .i64 (.n 0) (.n 1),
 .bin .geq .i64 (.n 0) (.c 0),
 .ite (.n 2) (.n 3) (.c 0),
 .bin .leq .i64 (.n 1) (.c 200000),
 .ite (.n 4) (.n 5) (.c 0)]
def Ki:List Vc:=[
 ]
theorem JI:whole Try.prog [] 20 40 97 [(true,[some .i64,some .i64])]=some (.p (.c (.bool (.n 6))),⟨yR.reverse,Ki.reverse⟩):=by kernel_rfl
theorem JK:wfN yR.reverse=true:=by kernel_rfl
theorem Nq (a b:Int) (w:World):Calls Try.prog 97 #[.agg #[.int .i64 a,.int .i64 b]] w fun e w'=>e=.returned (.bool (decide (b2i (decide (0<=a/\a<=b/\b<=200000))≠0)))/\Below w.heap.size w w':=by
 refine Sx.calls (X:=cxC [a,b]) dX (nY _) JI JK (fun v hs=>?_) w
 have e0:v 0=a:=ae hs 0 rfl;have e1:v 1=b:=ae hs 1 rfl;have e2:v 2=b2i (decide (v 0<=v 1)):=ae hs 2 rfl;have e3:v 3=b2i (decide (v 0>=(0:Int))):=ae hs 3 rfl;have e4:v 4=if v 2≠0 then v 3 else (0:Int):=ae hs 4 rfl
 have e5:v 5=b2i (decide (v 1<=(200000:Int))):=ae hs 5 rfl;have e6:v 6=if v 4≠0 then v 5 else (0:Int):=ae hs 6 rfl
 have Q6:v 6=b2i (decide (0<=v 0/\v 0<=v 1/\v 1<=200000)):=by
  rw [e6,e4,e2,e3,e5,bb,bb];exact congrArg b2i (decide_eq_decide.2 (by omega))
 refine ⟨bO bN,?_⟩;intro x hx;have hx':x=.bool (decide (v 6≠0)):=hx;rw [hx',Q6,e0,e1]
def pI:List Nd:=[
 .arg 0,
 .arg 1,
 .arg 2,
 .arg 3,
 .bin .leq .i64 (.n 0) (.n 1),
 .bin .geq .i64 (.n 0) (.c (-1099511627776)),
 .bin .leq .i64 (.n 0) (.c 1099511627776),
 .ite (.n 5) (.n 6) (.c 0),
 .ite (.n 4) (.n 7) (.c 0),
 .bin .geq .i64 (.n 1) (.c (-1099511627776)),
 .bin .leq .i64 (.n 1) (.c 1099511627776),
 .ite (.n 9) (.n 10) (.c 0),
 .ite (.n 8) (.n 11) (.c 0),
 .ite (.n 12) (.c 0) (.c 1),
 .bin .leq .i64 (.n 2) (.n 3),
 .bin .geq .i64 (.n 2) (.c (-1099511627776)),
 .bin .leq .i64 (.n 2) (.c 1099511627776),
 .ite (.n 15) (.n 16) (.c 0),
 .ite (.n 14) (.n 17) (.c 0),
 .bin .geq .i64 (.n 3) (.c (-1099511627776)),
 .bin .leq .i64 (.n 3) (.c 1099511627776),
 .ite (.n 19) (.n 20) (.c 0),
 .ite (.n 18) (.n 21) (.c 0),
 .ite (.n 22) (.c 0) (.c 1),
 .ite (.n 13) (.c 1) (.n 23),
 .ite (.n 24) (.c 0) (.c 1),
 .bin .add .i64 (.n 0) (.n 2),
 .bin .add .i64 (.n 1) (.n 3),
 .bin .geq .i64 (.n 26) (.c (-1099511627776)),
 .bin .leq .i64 (.n 26) (.c 1099511627776),
 .ite (.n 28) (.n 29) (.c 0),
 .ite (.n 30) (.c 0) (.c 1),
 .bin .geq .i64 (.n 27) (.c (-1099511627776)),
 .bin .leq .i64 (.n 27) (.c 1099511627776),
 .ite (.n 32) (.n 33) (.c 0),
 .ite (.n 34) (.c 0) (.c 1),
 .ite (.n 31) (.c 1) (.n 35),
 .ite (.n 36) (.c 0) (.c 1),
 .ite (.n 36) (.c 5) (.c 0),
 .ite (.n 36) (.c 0) (.n 26),
 .ite (.n 36) (.c 0) (.n 27),
 .ite (.n 24) (.c 1) (.n 38),
 .ite (.n 24) (.c 0) (.n 39),
 .ite (.n 24) (.c 0) (.n 40)]
def Rw:List Vc:=[
 ]
theorem Ql:whole Try.prog [] 20 40 99 [(true,[some .i64,some .i64]),(true,[some .i64,some .i64])]=some (.tup [.agg [.int .i64 (.n 42),.int .i64 (.n 43)],.c (.int .i64 (.n 41))],⟨pI.reverse,Rw.reverse⟩):=by kernel_rfl
theorem QZ:wfN pI.reverse=true:=by kernel_rfl
theorem NZ (a b l h:Int) (w:World) (h1:-200000000<=a/\a<=b/\b<=200000000) (h2:-200000000<=l/\l<=h/\h<=200000000):Calls Try.prog 99 #[.agg #[.int .i64 a,.int .i64 b],.agg #[.int .i64 l,.int .i64 h]] w fun e w'=>e=.returned (.tuple #[.agg #[.int .i64 (a+l),.int .i64 (b+h)],.int .i64 0])/\Below w.heap.size w w':=by
 refine Sx.calls (X:=cxC [a,b,l,h]) dX (nY _) Ql QZ (fun v hs=>?_) w
 have e0:v 0=a:=ae hs 0 rfl;have e1:v 1=b:=ae hs 1 rfl;have e2:v 2=l:=ae hs 2 rfl;have e3:v 3=h:=ae hs 3 rfl;have e4:v 4=b2i (decide (v 0<=v 1)):=ae hs 4 rfl;have e5:v 5=b2i (decide (v 0>=(-1099511627776:Int))):=ae hs 5 rfl;have e6:v 6=b2i (decide (v 0<=(1099511627776:Int))):=ae hs 6 rfl;have e7:v 7=if v 5≠0 then v 6 else (0:Int):=ae hs 7 rfl
 have e8:v 8=if v 4≠0 then v 7 else (0:Int):=ae hs 8 rfl
 have e9:v 9=b2i (decide (v 1>=(-1099511627776:Int))):=ae hs 9 rfl;have e10:v 10=b2i (decide (v 1<=(1099511627776:Int))):=ae hs 10 rfl;have e11:v 11=if v 9≠0 then v 10 else (0:Int):=ae hs 11 rfl
 have e12:v 12=if v 8≠0 then v 11 else (0:Int):=ae hs 12 rfl
 have e14:v 14=b2i (decide (v 2<=v 3)):=ae hs 14 rfl;have e15:v 15=b2i (decide (v 2>=(-1099511627776:Int))):=ae hs 15 rfl;have e16:v 16=b2i (decide (v 2<=(1099511627776:Int))):=ae hs 16 rfl;have e17:v 17=if v 15≠0 then v 16 else (0:Int):=ae hs 17 rfl
 have e18:v 18=if v 14≠0 then v 17 else (0:Int):=ae hs 18 rfl
 have e19:v 19=b2i (decide (v 3>=(-1099511627776:Int))):=ae hs 19 rfl;have e20:v 20=b2i (decide (v 3<=(1099511627776:Int))):=ae hs 20 rfl;have e21:v 21=if v 19≠0 then v 20 else (0:Int):=ae hs 21 rfl
 have e22:v 22=if v 18≠0 then v 21 else (0:Int):=ae hs 22 rfl
 have e26:v 26=IntKind.i64.wrap (v 0+v 2):=ae hs 26 rfl;have e27:v 27=IntKind.i64.wrap (v 1+v 3):=ae hs 27 rfl;have e28:v 28=b2i (decide (v 26>=(-1099511627776:Int))):=ae hs 28 rfl;have e29:v 29=b2i (decide (v 26<=(1099511627776:Int))):=ae hs 29 rfl;have e30:v 30=if v 28≠0 then v 29 else (0:Int):=ae hs 30 rfl
 have e32:v 32=b2i (decide (v 27>=(-1099511627776:Int))):=ae hs 32 rfl;have e33:v 33=b2i (decide (v 27<=(1099511627776:Int))):=ae hs 33 rfl;have e34:v 34=if v 32≠0 then v 33 else (0:Int):=ae hs 34 rfl
 have Q12:v 12=b2i (cu (v 0) (v 1)):=by rw [e12,e8,e4,e7,e5,e6,e11,e9,e10];exact fE _ _
 have Q22:v 22=b2i (cu (v 2) (v 3)):=by rw [e22,e18,e14,e17,e15,e16,e21,e19,e20];exact fE _ _
 have w26:v 26=a+l:=by rw [e26,e0,e2,IntWalk.i64_in _ (by omega)]
 have w27:v 27=b+h:=by rw [e27,e1,e3,IntWalk.i64_in _ (by omega)]
 have k12:v 12=1:=Q12.trans (Ng (by omega))
 have k22:v 22=1:=Q22.trans (Ng (by omega))
 have k30:v 30=1:=in1 e28 e29 e30 (by omega)
 have k34:v 34=1:=in1 e32 e33 e34 (by omega)
 have z41:v 41=0:=ak (X:=cxC [a,b,l,h]) (v:=v) (l:=pI) (gF _) hs (k:=41) (r:=.c 0) (ps:=[(12,.c 1),(22,.c 1),(30,.c 1),(34,.c 1)]) (nz:=[]) (aa k12 (aa k22 (aa k30 (aa k34 aj)))) az (by kernel_rfl)
 have z42:v 42=v 26:=cB (X:=cxC [a,b,l,h]) (v:=v) (l:=pI) (gF _) hs (k:=42) (j:=26) (ps:=[(12,.c 1),(22,.c 1),(30,.c 1),(34,.c 1)]) (aa k12 (aa k22 (aa k30 (aa k34 aj)))) (by kernel_rfl)
 have z43:v 43=v 27:=cB (X:=cxC [a,b,l,h]) (v:=v) (l:=pI) (gF _) hs (k:=43) (j:=27) (ps:=[(12,.c 1),(22,.c 1),(30,.c 1),(34,.c 1)]) (aa k12 (aa k22 (aa k30 (aa k34 aj)))) (by kernel_rfl)
 refine ⟨bO bN,?_⟩;intro x hx0;have hx':=dL (v:=v) (by rfl) hx0
 rw [hx'];show Value.tuple #[.agg #[.int .i64 (v 42),.int .i64 (v 43)],.int .i64 (v 41)]=_;rw [z41,z42,z43,w26,w27]
def jY:List Nd:=[
 .arg 0,
 .arg 1,
 .arg 2,
 .arg 3,
 .bin .leq .i64 (.n 2) (.n 3),
 .bin .geq .i64 (.n 2) (.c (-1099511627776)),
 .bin .leq .i64 (.n 2) (.c 1099511627776),
 .ite (.n 5) (.n 6) (.c 0),
 .ite (.n 4) (.n 7) (.c 0),
 .bin .geq .i64 (.n 3) (.c (-1099511627776)),
 .bin .leq .i64 (.n 3) (.c 1099511627776),
 .ite (.n 9) (.n 10) (.c 0),
 .ite (.n 8) (.n 11) (.c 0),
 .ite (.n 12) (.c 0) (.c 1),
 .bin .sub .i64 (.c 0) (.n 3),
 .bin .sub .i64 (.c 0) (.n 2),
 .bin .geq .i64 (.n 14) (.c (-1099511627776)),
 .bin .leq .i64 (.n 14) (.c 1099511627776),
 .ite (.n 16) (.n 17) (.c 0),
 .ite (.n 18) (.c 0) (.c 1),
 .bin .geq .i64 (.n 15) (.c (-1099511627776)),
 .bin .leq .i64 (.n 15) (.c 1099511627776),
 .ite (.n 20) (.n 21) (.c 0),
 .ite (.n 22) (.c 0) (.c 1),
 .ite (.n 19) (.c 1) (.n 23),
 .ite (.n 24) (.c 0) (.c 1),
 .ite (.n 24) (.c 5) (.c 0),
 .ite (.n 24) (.c 0) (.n 14),
 .ite (.n 24) (.c 0) (.n 15),
 .ite (.n 13) (.c 1) (.n 26),
 .ite (.n 13) (.c 0) (.n 27),
 .ite (.n 13) (.c 0) (.n 28),
 .bin .neq .i64 (.n 29) (.c 0),
 .ite (.n 32) (.c 0) (.c 1),
 .bin .leq .i64 (.n 0) (.n 1),
 .bin .geq .i64 (.n 0) (.c (-1099511627776)),
 .bin .leq .i64 (.n 0) (.c 1099511627776),
 .ite (.n 35) (.n 36) (.c 0),
 .ite (.n 34) (.n 37) (.c 0),
 .bin .geq .i64 (.n 1) (.c (-1099511627776)),
 .bin .leq .i64 (.n 1) (.c 1099511627776),
 .ite (.n 39) (.n 40) (.c 0),
 .ite (.n 38) (.n 41) (.c 0),
 .ite (.n 42) (.c 0) (.c 1),
 .bin .leq .i64 (.n 30) (.n 31),
 .bin .geq .i64 (.n 30) (.c (-1099511627776)),
 .bin .leq .i64 (.n 30) (.c 1099511627776),
 .ite (.n 45) (.n 46) (.c 0),
 .ite (.n 44) (.n 47) (.c 0),
 .bin .geq .i64 (.n 31) (.c (-1099511627776)),
 .bin .leq .i64 (.n 31) (.c 1099511627776),
 .ite (.n 49) (.n 50) (.c 0),
 .ite (.n 48) (.n 51) (.c 0),
 .ite (.n 52) (.c 0) (.c 1),
 .ite (.n 43) (.c 1) (.n 53),
 .ite (.n 54) (.c 0) (.c 1),
 .bin .add .i64 (.n 0) (.n 30),
 .bin .add .i64 (.n 1) (.n 31),
 .bin .geq .i64 (.n 56) (.c (-1099511627776)),
 .bin .leq .i64 (.n 56) (.c 1099511627776),
 .ite (.n 58) (.n 59) (.c 0),
 .ite (.n 60) (.c 0) (.c 1),
 .bin .geq .i64 (.n 57) (.c (-1099511627776)),
 .bin .leq .i64 (.n 57) (.c 1099511627776),
 .ite (.n 62) (.n 63) (.c 0),
 .ite (.n 64) (.c 0) (.c 1),
 .ite (.n 61) (.c 1) (.n 65),
 .ite (.n 66) (.c 0) (.c 1),
 .ite (.n 66) (.c 5) (.c 0),
 .ite (.n 66) (.c 0) (.n 56),
 .ite (.n 66) (.c 0) (.n 57),
 .ite (.n 54) (.c 1) (.n 68),
 .ite (.n 54) (.c 0) (.n 69),
 .ite (.n 54) (.c 0) (.n 70),
 .ite (.n 32) (.n 29) (.n 71),
 .ite (.n 32) (.n 30) (.n 72),
 .ite (.n 32) (.n 31) (.n 73)]
def Sv:List Vc:=[
 ]
theorem Si:whole Try.prog [] 20 40 81 [(true,[some .i64,some .i64]),(true,[some .i64,some .i64])]=some (.tup [.agg [.int .i64 (.n 75),.int .i64 (.n 76)],.c (.int .i64 (.n 74))],⟨jY.reverse,Sv.reverse⟩):=by kernel_rfl
theorem Tg:wfN jY.reverse=true:=by kernel_rfl
theorem Pn (a b l h:Int) (w:World) (h1:-200000000<=a/\a<=b/\b<=200000000) (h2:-200000000<=l/\l<=h/\h<=200000000):Calls Try.prog 81 #[.agg #[.int .i64 a,.int .i64 b],.agg #[.int .i64 l,.int .i64 h]] w fun e w'=>e=.returned (.tuple #[.agg #[.int .i64 (a-h),.int .i64 (b-l)],.int .i64 0])/\Below w.heap.size w w':=by
 refine Sx.calls (X:=cxC [a,b,l,h]) dX (nY _) Si Tg (fun v hs=>?_) w
 have e0:v 0=a:=ae hs 0 rfl;have e1:v 1=b:=ae hs 1 rfl;have e2:v 2=l:=ae hs 2 rfl;have e3:v 3=h:=ae hs 3 rfl;have e4:v 4=b2i (decide (v 2<=v 3)):=ae hs 4 rfl;have e5:v 5=b2i (decide (v 2>=(-1099511627776:Int))):=ae hs 5 rfl;have e6:v 6=b2i (decide (v 2<=(1099511627776:Int))):=ae hs 6 rfl;have e7:v 7=if v 5≠0 then v 6 else (0:Int):=ae hs 7 rfl
 have e8:v 8=if v 4≠0 then v 7 else (0:Int):=ae hs 8 rfl
 have e9:v 9=b2i (decide (v 3>=(-1099511627776:Int))):=ae hs 9 rfl;have e10:v 10=b2i (decide (v 3<=(1099511627776:Int))):=ae hs 10 rfl;have e11:v 11=if v 9≠0 then v 10 else (0:Int):=ae hs 11 rfl
 have e12:v 12=if v 8≠0 then v 11 else (0:Int):=ae hs 12 rfl
 have e14:v 14=IntKind.i64.wrap ((0:Int)-v 3):=ae hs 14 rfl;have e15:v 15=IntKind.i64.wrap ((0:Int)-v 2):=ae hs 15 rfl;have e16:v 16=b2i (decide (v 14>=(-1099511627776:Int))):=ae hs 16 rfl;have e17:v 17=b2i (decide (v 14<=(1099511627776:Int))):=ae hs 17 rfl;have e18:v 18=if v 16≠0 then v 17 else (0:Int):=ae hs 18 rfl
 have e20:v 20=b2i (decide (v 15>=(-1099511627776:Int))):=ae hs 20 rfl;have e21:v 21=b2i (decide (v 15<=(1099511627776:Int))):=ae hs 21 rfl;have e22:v 22=if v 20≠0 then v 21 else (0:Int):=ae hs 22 rfl
 have e34:v 34=b2i (decide (v 0<=v 1)):=ae hs 34 rfl;have e35:v 35=b2i (decide (v 0>=(-1099511627776:Int))):=ae hs 35 rfl;have e36:v 36=b2i (decide (v 0<=(1099511627776:Int))):=ae hs 36 rfl;have e37:v 37=if v 35≠0 then v 36 else (0:Int):=ae hs 37 rfl
 have e38:v 38=if v 34≠0 then v 37 else (0:Int):=ae hs 38 rfl
 have e39:v 39=b2i (decide (v 1>=(-1099511627776:Int))):=ae hs 39 rfl;have e40:v 40=b2i (decide (v 1<=(1099511627776:Int))):=ae hs 40 rfl;have e41:v 41=if v 39≠0 then v 40 else (0:Int):=ae hs 41 rfl
 have e42:v 42=if v 38≠0 then v 41 else (0:Int):=ae hs 42 rfl
 have e44:v 44=b2i (decide (v 30<=v 31)):=ae hs 44 rfl;have e45:v 45=b2i (decide (v 30>=(-1099511627776:Int))):=ae hs 45 rfl;have e46:v 46=b2i (decide (v 30<=(1099511627776:Int))):=ae hs 46 rfl;have e47:v 47=if v 45≠0 then v 46 else (0:Int):=ae hs 47 rfl
 have e48:v 48=if v 44≠0 then v 47 else (0:Int):=ae hs 48 rfl
 have e49:v 49=b2i (decide (v 31>=(-1099511627776:Int))):=ae hs 49 rfl;have e50:v 50=b2i (decide (v 31<=(1099511627776:Int))):=ae hs 50 rfl;have e51:v 51=if v 49≠0 then v 50 else (0:Int):=ae hs 51 rfl
 have e52:v 52=if v 48≠0 then v 51 else (0:Int):=ae hs 52 rfl
 have e56:v 56=IntKind.i64.wrap (v 0+v 30):=ae hs 56 rfl;have e57:v 57=IntKind.i64.wrap (v 1+v 31):=ae hs 57 rfl;have e58:v 58=b2i (decide (v 56>=(-1099511627776:Int))):=ae hs 58 rfl;have e59:v 59=b2i (decide (v 56<=(1099511627776:Int))):=ae hs 59 rfl;have e60:v 60=if v 58≠0 then v 59 else (0:Int):=ae hs 60 rfl
 have e62:v 62=b2i (decide (v 57>=(-1099511627776:Int))):=ae hs 62 rfl;have e63:v 63=b2i (decide (v 57<=(1099511627776:Int))):=ae hs 63 rfl;have e64:v 64=if v 62≠0 then v 63 else (0:Int):=ae hs 64 rfl
 have Q12:v 12=b2i (cu (v 2) (v 3)):=by rw [e12,e8,e4,e7,e5,e6,e11,e9,e10];exact fE _ _
 have w14:v 14=-h:=by rw [e14,e3,IntWalk.i64_in _ (by omega)];omega
 have w15:v 15=-l:=by rw [e15,e2,IntWalk.i64_in _ (by omega)];omega
 have k12:v 12=1:=Q12.trans (Ng (by omega))
 have k18:v 18=1:=in1 e16 e17 e18 (by omega)
 have k22:v 22=1:=in1 e20 e21 e22 (by omega)
 have z30:v 30=v 14:=cB (X:=cxC [a,b,l,h]) (v:=v) (l:=jY) (gF _) hs (k:=30) (j:=14) (ps:=[(12,.c 1),(18,.c 1),(22,.c 1)]) (aa k12 (aa k18 (aa k22 aj))) (by kernel_rfl)
 have z31:v 31=v 15:=cB (X:=cxC [a,b,l,h]) (v:=v) (l:=jY) (gF _) hs (k:=31) (j:=15) (ps:=[(12,.c 1),(18,.c 1),(22,.c 1)]) (aa k12 (aa k18 (aa k22 aj))) (by kernel_rfl)
 have Q42:v 42=b2i (cu (v 0) (v 1)):=by rw [e42,e38,e34,e37,e35,e36,e41,e39,e40];exact fE _ _
 have Q52:v 52=b2i (cu (v 30) (v 31)):=by rw [e52,e48,e44,e47,e45,e46,e51,e49,e50];exact fE _ _
 have w56:v 56=a-h:=by rw [e56,e0,z30,w14,IntWalk.i64_in _ (by omega)];omega
 have w57:v 57=b-l:=by rw [e57,e1,z31,w15,IntWalk.i64_in _ (by omega)];omega
 have k42:v 42=1:=Q42.trans (Ng (by omega))
 have k52:v 52=1:=Q52.trans (Ng (by omega))
 have k60:v 60=1:=in1 e58 e59 e60 (by omega)
 have k64:v 64=1:=in1 e62 e63 e64 (by omega)
 have z74:v 74=0:=ak (X:=cxC [a,b,l,h]) (v:=v) (l:=jY) (gF _) hs (k:=74) (r:=.c 0) (ps:=[(12,.c 1),(18,.c 1),(22,.c 1),(42,.c 1),(52,.c 1),(60,.c 1),(64,.c 1)]) (nz:=[]) (aa k12 (aa k18 (aa k22 (aa k42 (aa k52 (aa k60 (aa k64 aj))))))) az (by kernel_rfl)
 have z75:v 75=v 56:=cB (X:=cxC [a,b,l,h]) (v:=v) (l:=jY) (gF _) hs (k:=75) (j:=56) (ps:=[(12,.c 1),(18,.c 1),(22,.c 1),(42,.c 1),(52,.c 1),(60,.c 1),(64,.c 1)]) (aa k12 (aa k18 (aa k22 (aa k42 (aa k52 (aa k60 (aa k64 aj))))))) (by kernel_rfl)
 have z76:v 76=v 57:=cB (X:=cxC [a,b,l,h]) (v:=v) (l:=jY) (gF _) hs (k:=76) (j:=57) (ps:=[(12,.c 1),(18,.c 1),(22,.c 1),(42,.c 1),(52,.c 1),(60,.c 1),(64,.c 1)]) (aa k12 (aa k18 (aa k22 (aa k42 (aa k52 (aa k60 (aa k64 aj))))))) (by kernel_rfl)
 refine ⟨bO bN,?_⟩;intro x hx0;have hx':=dL (v:=v) (by rfl) hx0
 rw [hx'];show Value.tuple #[.agg #[.int .i64 (v 75),.int .i64 (v 76)],.int .i64 (v 74)]=_;rw [z74,z75,z76,w56,w57]
def XH:Nat->List Int->List Int
 | 42,[a,b,l,h]=>[b2i (decide (MV a b l h))]
 | 43,[a,b]=>[b2i (decide (0<=a/\a<=b/\b<=200000))]
 | 44,[a,b,l,h]=>[a+l,b+h,0]
 | 45,[a,b,l,h]=>[a-h,b-l,0]
 | f,xs=>Ah f xs
def lD:Nat->List Int->Prop
 | 42,[_,_,_,_]=>True
 | 43,[_,_]=>True
 | 44,[a,b,l,h]=>(-200000000<=a/\a<=b/\b<=200000000)/\(-200000000<=l/\l<=h/\h<=200000000)
 | 45,[a,b,l,h]=>(-200000000<=a/\a<=b/\b<=200000000)/\(-200000000<=l/\l<=h/\h<=200000000)
 | 42,_=>False
 | 43,_=>False
 | 44,_=>False
 | 45,_=>False
 | f,xs=>uG f xs
def cxD (args:List Int):Cx:=⟨XH,lD,args⟩
theorem C9 {f:Nat} (h:f≠42/\f≠43/\f≠44/\f≠45) (xs:List Int):XH f xs=Ah f xs:=by
 unfold XH;split
 . exact absurd rfl h.1
 . exact absurd rfl h.2.1
 . exact absurd rfl h.2.2.1
 . exact absurd rfl h.2.2.2
 . rfl
theorem BU {f:Nat} (h:f≠42/\f≠43/\f≠44/\f≠45) (xs:List Int):lD f xs=uG f xs:=by
 unfold lD;split<;>first|exact absurd rfl h.1|exact absurd rfl h.2.1|exact absurd rfl h.2.2.1|exact absurd rfl h.2.2.2|rfl
theorem UB (args:List Int):om (cxD args):=⟨fun f xs h=>(C9 (by omega) xs).trans ((M9 args).sem f xs h),fun f xs h hp=>by
 show lD f xs;rw [BU (by omega)];exact (M9 args).pre f xs h hp⟩
theorem aeo {args:List Int} {s:Sx.Spec} (h:s.id≠42/\s.id≠43/\s.id≠44/\s.id≠45) (H:aH Try.prog (cxC args) s):aH Try.prog (cxD args) s:=by
 obtain ⟨a,b⟩:=H;refine ⟨a,fun xs hp w=>?_⟩
 have hp':uG s.id xs:=by
  have:lD s.id xs:=hp
  rwa [BU h] at this
 have:=b xs hp' w;rw [show (cxD args).sem s.id xs=(cxC args).sem s.id xs from C9 h xs]
 exact this
theorem FH {xs:List Int} (hp:lD 42 xs):∃ a b l h,xs=[a,b,l,h]:=by
 match xs,hp with
 | [a,b,l,h],_=>exact ⟨a,b,l,h,rfl⟩
theorem OE {xs:List Int} (hp:lD 43 xs):∃ a b,xs=[a,b]:=by
 match xs,hp with
 | [a,b],_=>exact ⟨a,b,rfl⟩
theorem Ph {xs:List Int} (hp:lD 44 xs):∃ a b l h,xs=[a,b,l,h]/\(-200000000<=a/\a<=b/\b<=200000000)/\(-200000000<=l/\l<=h/\h<=200000000):=by
 match xs,hp with
 | [a,b,l,h],hp=>exact ⟨a,b,l,h,rfl,hp⟩
theorem Mh {xs:List Int} (hp:lD 45 xs):∃ a b l h,xs=[a,b,l,h]/\(-200000000<=a/\a<=b/\b<=200000000)/\(-200000000<=l/\l<=h/\h<=200000000):=by
 match xs,hp with
 | [a,b,l,h],hp=>exact ⟨a,b,l,h,rfl,hp⟩
def Sz:Sx.Spec:=⟨146,42,[(true,[some .i64,some .i64]),(true,[some .i64,some .i64])],[(false,[none])]⟩
def BF:Sx.Spec:=⟨34,42,[(true,[some .i64,some .i64,some .i64,some .i64])],[(false,[none])]⟩
def GK:Sx.Spec:=⟨35,42,[(true,[some .i64,some .i64,some .i64,some .i64])],[(false,[none])]⟩
def PZ:Sx.Spec:=⟨152,43,[(true,[some .i64,some .i64])],[(false,[none])]⟩
def Qv:Sx.Spec:=⟨97,43,[(true,[some .i64,some .i64])],[(false,[none])]⟩
def TV:Sx.Spec:=⟨99,44,[(true,[some .i64,some .i64]),(true,[some .i64,some .i64])],[(true,[some .i64,some .i64]),(false,[some .i64])]⟩
def TZ:Sx.Spec:=⟨81,45,[(true,[some .i64,some .i64]),(true,[some .i64,some .i64])],[(true,[some .i64,some .i64]),(false,[some .i64])]⟩
def Vn:Sx.Spec:=TV
def Zz:Sx.Spec:=TZ
def Qw:List Sx.Spec:=[Sz,BF,GK,PZ,Qv,TV,TZ,Vn,Zz]
def spD:List Sx.Spec:=spC++Qw
theorem U5:∀ s∈spC,s.id≠42/\s.id≠43/\s.id≠44/\s.id≠45:=by
 decide
theorem xg (args:List Int):∀ s∈spD,aH Try.prog (cxD args) s:=by
 intro s hs;rcases List.mem_append.1 hs with h|h
 . exact aeo (U5 s h) (ZQ args s h)
 . simp only [Qw,List.mem_cons,List.not_mem_nil,or_false] at h;rcases h with rfl|rfl|rfl|rfl|rfl|rfl|rfl|rfl|rfl
   . refine ⟨ours _ _ _ Try.func146 rfl (by kernel_rfl),fun xs hp w=>?_⟩
     obtain ⟨a,b,l,h,rfl⟩:=FH hp;exact Qd a b l h w
   . refine ⟨ours _ _ _ Try.func34 rfl (by kernel_rfl),fun xs hp w=>?_⟩
     obtain ⟨a,b,l,h,rfl⟩:=FH hp;exact JD a b l h w
   . refine ⟨ours _ _ _ Try.func35 rfl (by kernel_rfl),fun xs hp w=>?_⟩
     obtain ⟨a,b,l,h,rfl⟩:=FH hp;exact LC a b l h w
   . refine ⟨ours _ _ _ Try.func152 rfl (by kernel_rfl),fun xs hp w=>?_⟩
     obtain ⟨a,b,rfl⟩:=OE hp;exact R9 a b w
   . refine ⟨ours _ _ _ Try.func97 rfl (by kernel_rfl),fun xs hp w=>?_⟩
     obtain ⟨a,b,rfl⟩:=OE hp;exact Nq a b w
   . refine ⟨ours _ _ _ Try.func99 rfl (by kernel_rfl),fun xs hp w=>?_⟩
     obtain ⟨a,b,l,h,rfl,h1,h2⟩:=Ph hp;exact NZ a b l h w h1 h2
   . refine ⟨ours _ _ _ Try.func81 rfl (by kernel_rfl),fun xs hp w=>?_⟩
     obtain ⟨a,b,l,h,rfl,h1,h2⟩:=Mh hp;exact Pn a b l h w h1 h2
   . refine ⟨ours _ _ _ Try.func99 rfl (by kernel_rfl),fun xs hp w=>?_⟩
     obtain ⟨a,b,l,h,rfl,h1,h2⟩:=Ph hp;exact NZ a b l h w h1 h2
   . refine ⟨ours _ _ _ Try.func81 rfl (by kernel_rfl),fun xs hp w=>?_⟩
     obtain ⟨a,b,l,h,rfl,h1,h2⟩:=Mh hp;exact Pn a b l h w h1 h2
def aci (t:Tab):Nd->Option Rf
 | .app 37 4 [_,_,_,_]=>some (.c 0)
 | .app 38 4 [_,_,_,_]=>some (.c 0)
 | .app 44 2 [_,_,_,_]=>some (.c 0)
 | .app 45 2 [_,_,_,_]=>some (.c 0)
 | x=>vE t x
theorem aW (args:List Int):gJ (cxD args) aci:=by
 intro v t x r ht h;unfold aci at h;split at h
 . cases h;rfl
 . cases h;rfl
 . cases h;rfl
 . cases h;rfl
 . exact iU (UB args) v t x r ht h
