/- The contracts of small functions of both sides: moves, speed, sums and differences of arcs. -/
import Derived.Test.YtgmncdmcdgkodaaZCur
import Derived.Test.YtgmncdmcdgkodaaZEv
set_option linter.unusedVariables false
set_option linter.unusedSimpArgs false
set_option maxRecDepth 100000
namespace Go.Proofs.Ytgmncdmcdgkodaa
open Go.RowKit Alm Sx
abbrev MV (a b l h:Int):Prop:=dL a b=true/\0<=l/\l<=h/\h<=200000
theorem in1 {x y z u:Int} (h:x=b2i (decide (u>=(-1099511627776:Int)))) (h2:y=b2i (decide (u<=(1099511627776:Int)))) (hz:z=if x≠0 then y else (0:Int)) (b:-1000000000<=u/\u<=1000000000):z=1:=by
 rw [hz,h,h2,decide_eq_true (show u>=(-1099511627776:Int) by omega),decide_eq_true (show u<=(1099511627776:Int) by omega)];rfl
theorem H7 {lo hi:Int} (h:-1000000000<=lo/\lo<=hi/\hi<=1000000000):b2i (dL lo hi)=1:=by
 rw [(gG lo hi).2 (by omega)];rfl
theorem ab {b:Bool} {q:Prop} [Decidable q]:(if b2i b≠0 then b2i (decide q) else 0)=b2i (decide (b=true/\q)):=by
 cases b<;>by_cases h2:q<;>simp [b2i,h2]
theorem ba {b:Bool} {q:Prop} [Decidable q]:(if b2i (decide q)≠0 then b2i b else 0)=b2i (decide (b=true/\q)):=by
 cases b<;>by_cases h2:q<;>simp [b2i,h2]
theorem bb {p q:Prop} [Decidable p] [Decidable q]:(if b2i (decide p)≠0 then b2i (decide q) else 0)=b2i (decide (p/\q)):=by
 by_cases h1:p<;>by_cases h2:q<;>simp [b2i,h1,h2]
theorem kr (args:List Int):∀ s∈([]:List Sx.Spec),az Try.prog (cxC args) s:=fun s hs=>by cases hs
def uE:List Nd:=[
 .arg 0,
 .arg 1,
 .arg 2,
 .arg 3,
 .bin .leq .i64 (.n 0) (.n 1),
 .bin .geq .i64 (.n 0) (.c (-1099511627776)),
 .bin .leq .i64 (.n 0) (.c 1099511627776),
 .ite (.n 5) (.n 6) (.c 0),
 .ite (.n 4) (.n 7) (.c 0),
 .bin .geq .i64 (.n 1) (.c (-1099511627776)),
 .bin .leq .i64 (.n 1) (.c 1099511627776),
 .ite (.n 9) (.n 10) (.c 0),
 .ite (.n 8) (.n 11) (.c 0),
 .bin .leq .i64 (.n 2) (.n 3),
 .bin .geq .i64 (.n 2) (.c (-1099511627776)),
 .bin .leq .i64 (.n 2) (.c 1099511627776),
 .ite (.n 14) (.n 15) (.c 0),
 .ite (.n 13) (.n 16) (.c 0),
 .bin .geq .i64 (.n 3) (.c (-1099511627776)),
 .bin .leq .i64 (.n 3) (.c 1099511627776),
 .ite (.n 18) (.n 19) (.c 0),
 .ite (.n 17) (.n 20) (.c 0),
 .bin .geq .i64 (.n 2) (.c 0),
 .ite (.n 21) (.n 22) (.c 0),
 .bin .leq .i64 (.n 3) (.c 200000),
 .ite (.n 23) (.n 24) (.c 0),
 .ite (.n 12) (.n 25) (.c 0)]
def Es:List Vc:=[
 ]
theorem Dy:whole Try.prog [] 20 40 99 [(true,[some .i64,some .i64]),(true,[some .i64,some .i64])]=some (.p (.c (.bool (.n 26))),⟨uE.reverse,Es.reverse⟩):=by kernel_rfl
theorem EE:wfN uE.reverse=true:=by kernel_rfl
theorem Ji (a b l h:Int) (w:World):Calls Try.prog 99 #[.agg #[.int .i64 a,.int .i64 b],.agg #[.int .i64 l,.int .i64 h]] w fun e w'=>e=.returned (.bool (decide (b2i (decide (MV a b l h))≠0)))/\Below w.heap.size w w':=by
 refine Sx.calls (X:=cxC [a,b,l,h]) fB (kr _) Dy EE (fun v hs=>?_) w
 have e0:v 0=a:=ag hs 0 rfl;have e1:v 1=b:=ag hs 1 rfl;have e2:v 2=l:=ag hs 2 rfl;have e3:v 3=h:=ag hs 3 rfl;have e4:v 4=b2i (decide (v 0<=v 1)):=ag hs 4 rfl;have e5:v 5=b2i (decide (v 0>=(-1099511627776:Int))):=ag hs 5 rfl;have e6:v 6=b2i (decide (v 0<=(1099511627776:Int))):=ag hs 6 rfl;have e7:v 7=if v 5≠0 then v 6 else (0:Int):=ag hs 7 rfl
 have e8:v 8=if v 4≠0 then v 7 else (0:Int):=ag hs 8 rfl
 have e9:v 9=b2i (decide (v 1>=(-1099511627776:Int))):=ag hs 9 rfl;have e10:v 10=b2i (decide (v 1<=(1099511627776:Int))):=ag hs 10 rfl;have e11:v 11=if v 9≠0 then v 10 else (0:Int):=ag hs 11 rfl
 have e12:v 12=if v 8≠0 then v 11 else (0:Int):=ag hs 12 rfl
 have e13:v 13=b2i (decide (v 2<=v 3)):=ag hs 13 rfl;have e14:v 14=b2i (decide (v 2>=(-1099511627776:Int))):=ag hs 14 rfl;have e15:v 15=b2i (decide (v 2<=(1099511627776:Int))):=ag hs 15 rfl;have e16:v 16=if v 14≠0 then v 15 else (0:Int):=ag hs 16 rfl
 have e17:v 17=if v 13≠0 then v 16 else (0:Int):=ag hs 17 rfl
 have e18:v 18=b2i (decide (v 3>=(-1099511627776:Int))):=ag hs 18 rfl;have e19:v 19=b2i (decide (v 3<=(1099511627776:Int))):=ag hs 19 rfl;have e20:v 20=if v 18≠0 then v 19 else (0:Int):=ag hs 20 rfl
 have e21:v 21=if v 17≠0 then v 20 else (0:Int):=ag hs 21 rfl
 have e22:v 22=b2i (decide (v 2>=(0:Int))):=ag hs 22 rfl;have e23:v 23=if v 21≠0 then v 22 else (0:Int):=ag hs 23 rfl
 have e24:v 24=b2i (decide (v 3<=(200000:Int))):=ag hs 24 rfl;have e25:v 25=if v 23≠0 then v 24 else (0:Int):=ag hs 25 rfl
 have e26:v 26=if v 12≠0 then v 25 else (0:Int):=ag hs 26 rfl
 have Q12:v 12=b2i (dL (v 0) (v 1)):=by rw [e12,e8,e4,e7,e5,e6,e11,e9,e10];exact fF _ _
 have Q21:v 21=b2i (dL (v 2) (v 3)):=by rw [e21,e17,e13,e16,e14,e15,e20,e18,e19];exact fF _ _
 have Q25:v 25=b2i (decide (0<=v 2/\v 2<=v 3/\v 3<=200000)):=by
  rw [e25,e23,Q21,e22,e24,ab,bb];exact congrArg b2i (decide_eq_decide.2 (by rw [gG];omega))
 refine ⟨bO bP,?_⟩;intro x hx;have hx':x=.bool (decide (v 26≠0)):=hx;rw [hx',e26,Q12,Q25,ab,e0,e1,e2,e3]
def Br:List Nd:=[
 .arg 0,
 .arg 1,
 .arg 2,
 .arg 3,
 .bin .leq .i64 (.n 2) (.n 3),
 .bin .geq .i64 (.n 2) (.c 0),
 .ite (.n 4) (.n 5) (.c 0),
 .bin .leq .i64 (.n 3) (.c 200000),
 .ite (.n 6) (.n 7) (.c 0),
 .bin .leq .i64 (.n 0) (.n 1),
 .bin .geq .i64 (.n 0) (.c (-1099511627776)),
 .ite (.n 9) (.n 10) (.c 0),
 .bin .leq .i64 (.n 1) (.c 1099511627776),
 .ite (.n 11) (.n 12) (.c 0),
 .ite (.n 8) (.n 13) (.c 0)]
def KW:List Vc:=[
 ]
theorem Ki:whole Try.prog [] 20 40 22 [(true,[some .i64,some .i64,some .i64,some .i64])]=some (.p (.c (.bool (.n 14))),⟨Br.reverse,KW.reverse⟩):=by kernel_rfl
theorem Lc:wfN Br.reverse=true:=by kernel_rfl
theorem Ej (a b l h:Int) (w:World):Calls Try.prog 22 #[.agg #[.int .i64 a,.int .i64 b,.int .i64 l,.int .i64 h]] w fun e w'=>e=.returned (.bool (decide (b2i (decide (MV a b l h))≠0)))/\Below w.heap.size w w':=by
 refine Sx.calls (X:=cxC [a,b,l,h]) fB (kr _) Ki Lc (fun v hs=>?_) w
 have e0:v 0=a:=ag hs 0 rfl;have e1:v 1=b:=ag hs 1 rfl;have e2:v 2=l:=ag hs 2 rfl;have e3:v 3=h:=ag hs 3 rfl;have e4:v 4=b2i (decide (v 2<=v 3)):=ag hs 4 rfl;have e5:v 5=b2i (decide (v 2>=(0:Int))):=ag hs 5 rfl;have e6:v 6=if v 4≠0 then v 5 else (0:Int):=ag hs 6 rfl
 have e7:v 7=b2i (decide (v 3<=(200000:Int))):=ag hs 7 rfl;have e8:v 8=if v 6≠0 then v 7 else (0:Int):=ag hs 8 rfl
 have e9:v 9=b2i (decide (v 0<=v 1)):=ag hs 9 rfl;have e10:v 10=b2i (decide (v 0>=(-1099511627776:Int))):=ag hs 10 rfl;have e11:v 11=if v 9≠0 then v 10 else (0:Int):=ag hs 11 rfl
 have e12:v 12=b2i (decide (v 1<=(1099511627776:Int))):=ag hs 12 rfl;have e13:v 13=if v 11≠0 then v 12 else (0:Int):=ag hs 13 rfl
 have e14:v 14=if v 8≠0 then v 13 else (0:Int):=ag hs 14 rfl
 have Q8:v 8=b2i (decide (0<=v 2/\v 2<=v 3/\v 3<=200000)):=by
  rw [e8,e6,e4,e5,e7,bb,bb];exact congrArg b2i (decide_eq_decide.2 (by omega))
 have Q13:v 13=b2i (dL (v 0) (v 1)):=by rw [e13,e11,e9,e10,e12];exact Ch _ _
 refine ⟨bO bP,?_⟩;intro x hx;have hx':x=.bool (decide (v 14≠0)):=hx;rw [hx',e14,Q8,Q13,ba,e0,e1,e2,e3]
def AO:List Nd:=[
 .arg 0,
 .arg 1,
 .arg 2,
 .arg 3,
 .bin .leq .i64 (.n 2) (.n 3),
 .bin .geq .i64 (.n 2) (.c 0),
 .ite (.n 4) (.n 5) (.c 0),
 .bin .leq .i64 (.n 3) (.c 200000),
 .ite (.n 6) (.n 7) (.c 0),
 .bin .leq .i64 (.n 0) (.n 1),
 .bin .geq .i64 (.n 0) (.c (-1099511627776)),
 .ite (.n 9) (.n 10) (.c 0),
 .bin .leq .i64 (.n 1) (.c 1099511627776),
 .ite (.n 11) (.n 12) (.c 0),
 .ite (.n 8) (.n 13) (.c 0)]
def KP:List Vc:=[
 ]
theorem JO:whole Try.prog [] 20 40 23 [(true,[some .i64,some .i64,some .i64,some .i64])]=some (.p (.c (.bool (.n 14))),⟨AO.reverse,KP.reverse⟩):=by kernel_rfl
theorem Ke:wfN AO.reverse=true:=by kernel_rfl
theorem H6 (a b l h:Int) (w:World):Calls Try.prog 23 #[.agg #[.int .i64 a,.int .i64 b,.int .i64 l,.int .i64 h]] w fun e w'=>e=.returned (.bool (decide (b2i (decide (MV a b l h))≠0)))/\Below w.heap.size w w':=by
 refine Sx.calls (X:=cxC [a,b,l,h]) fB (kr _) JO Ke (fun v hs=>?_) w
 have e0:v 0=a:=ag hs 0 rfl;have e1:v 1=b:=ag hs 1 rfl;have e2:v 2=l:=ag hs 2 rfl;have e3:v 3=h:=ag hs 3 rfl;have e4:v 4=b2i (decide (v 2<=v 3)):=ag hs 4 rfl;have e5:v 5=b2i (decide (v 2>=(0:Int))):=ag hs 5 rfl;have e6:v 6=if v 4≠0 then v 5 else (0:Int):=ag hs 6 rfl
 have e7:v 7=b2i (decide (v 3<=(200000:Int))):=ag hs 7 rfl;have e8:v 8=if v 6≠0 then v 7 else (0:Int):=ag hs 8 rfl
 have e9:v 9=b2i (decide (v 0<=v 1)):=ag hs 9 rfl;have e10:v 10=b2i (decide (v 0>=(-1099511627776:Int))):=ag hs 10 rfl;have e11:v 11=if v 9≠0 then v 10 else (0:Int):=ag hs 11 rfl
 have e12:v 12=b2i (decide (v 1<=(1099511627776:Int))):=ag hs 12 rfl;have e13:v 13=if v 11≠0 then v 12 else (0:Int):=ag hs 13 rfl
 have e14:v 14=if v 8≠0 then v 13 else (0:Int):=ag hs 14 rfl
 have Q8:v 8=b2i (decide (0<=v 2/\v 2<=v 3/\v 3<=200000)):=by
  rw [e8,e6,e4,e5,e7,bb,bb];exact congrArg b2i (decide_eq_decide.2 (by omega))
 have Q13:v 13=b2i (dL (v 0) (v 1)):=by rw [e13,e11,e9,e10,e12];exact Ch _ _
 refine ⟨bO bP,?_⟩;intro x hx;have hx':x=.bool (decide (v 14≠0)):=hx;rw [hx',e14,Q8,Q13,ba,e0,e1,e2,e3]
def ug:List Nd:=[
 .arg 0,
 .arg 1,
 .bin .leq .i64 (.n 0) (.n 1),
 .bin .geq .i64 (.n 0) (.c (-1099511627776)),
 .bin .leq .i64 (.n 0) (.c 1099511627776),
 .ite (.n 3) (.n 4) (.c 0),
 .ite (.n 2) (.n 5) (.c 0),
 .bin .geq .i64 (.n 1) (.c (-1099511627776)),
 .bin .leq .i64 (.n 1) (.c 1099511627776),
 .ite (.n 7) (.n 8) (.c 0),
 .ite (.n 6) (.n 9) (.c 0),
 .bin .geq .i64 (.n 0) (.c 0),
 .ite (.n 10) (.n 11) (.c 0),
 .bin .leq .i64 (.n 1) (.c 200000),
 .ite (.n 12) (.n 13) (.c 0)]
def Dx:List Vc:=[
 ]
theorem DC:whole Try.prog [] 20 40 105 [(true,[some .i64,some .i64])]=some (.p (.c (.bool (.n 14))),⟨ug.reverse,Dx.reverse⟩):=by kernel_rfl
theorem Eh:wfN ug.reverse=true:=by kernel_rfl
theorem Kz (a b:Int) (w:World):Calls Try.prog 105 #[.agg #[.int .i64 a,.int .i64 b]] w fun e w'=>e=.returned (.bool (decide (b2i (decide (0<=a/\a<=b/\b<=200000))≠0)))/\Below w.heap.size w w':=by
 refine Sx.calls (X:=cxC [a,b]) fB (kr _) DC Eh (fun v hs=>?_) w
 have e0:v 0=a:=ag hs 0 rfl;have e1:v 1=b:=ag hs 1 rfl;have e2:v 2=b2i (decide (v 0<=v 1)):=ag hs 2 rfl;have e3:v 3=b2i (decide (v 0>=(-1099511627776:Int))):=ag hs 3 rfl;have e4:v 4=b2i (decide (v 0<=(1099511627776:Int))):=ag hs 4 rfl;have e5:v 5=if v 3≠0 then v 4 else (0:Int):=ag hs 5 rfl
 have e6:v 6=if v 2≠0 then v 5 else (0:Int):=ag hs 6 rfl
 have e7:v 7=b2i (decide (v 1>=(-1099511627776:Int))):=ag hs 7 rfl;have e8:v 8=b2i (decide (v 1<=(1099511627776:Int))):=ag hs 8 rfl;have e9:v 9=if v 7≠0 then v 8 else (0:Int):=ag hs 9 rfl
 have e10:v 10=if v 6≠0 then v 9 else (0:Int):=ag hs 10 rfl
 have e11:v 11=b2i (decide (v 0>=(0:Int))):=ag hs 11 rfl;have e12:v 12=if v 10≠0 then v 11 else (0:Int):=ag hs 12 rfl
 have e13:v 13=b2i (decide (v 1<=(200000:Int))):=ag hs 13 rfl;have e14:v 14=if v 12≠0 then v 13 else (0:Int):=ag hs 14 rfl
 have Q10:v 10=b2i (dL (v 0) (v 1)):=by rw [e10,e6,e2,e5,e3,e4,e9,e7,e8];exact fF _ _
 have Q14:v 14=b2i (decide (0<=v 0/\v 0<=v 1/\v 1<=200000)):=by
  rw [e14,e12,Q10,e11,e13,ab,bb];exact congrArg b2i (decide_eq_decide.2 (by rw [gG];omega))
 refine ⟨bO bP,?_⟩;intro x hx;have hx':x=.bool (decide (v 14≠0)):=hx;rw [hx',Q14,e0,e1]
def uq:List Nd:=[
 .arg 0,
 .arg 1,
 .bin .leq .i64 (.n 0) (.n 1),
 .bin .geq .i64 (.n 0) (.c 0),
 .ite (.n 2) (.n 3) (.c 0),
 .bin .leq .i64 (.n 1) (.c 200000),
 .ite (.n 4) (.n 5) (.c 0)]
def DL:List Vc:=[
 ]
theorem DJ:whole Try.prog [] 20 40 58 [(true,[some .i64,some .i64])]=some (.p (.c (.bool (.n 6))),⟨uq.reverse,DL.reverse⟩):=by kernel_rfl
theorem Dn:wfN uq.reverse=true:=by kernel_rfl
theorem Hr (a b:Int) (w:World):Calls Try.prog 58 #[.agg #[.int .i64 a,.int .i64 b]] w fun e w'=>e=.returned (.bool (decide (b2i (decide (0<=a/\a<=b/\b<=200000))≠0)))/\Below w.heap.size w w':=by
 refine Sx.calls (X:=cxC [a,b]) fB (kr _) DJ Dn (fun v hs=>?_) w
 have e0:v 0=a:=ag hs 0 rfl;have e1:v 1=b:=ag hs 1 rfl;have e2:v 2=b2i (decide (v 0<=v 1)):=ag hs 2 rfl;have e3:v 3=b2i (decide (v 0>=(0:Int))):=ag hs 3 rfl;have e4:v 4=if v 2≠0 then v 3 else (0:Int):=ag hs 4 rfl
 have e5:v 5=b2i (decide (v 1<=(200000:Int))):=ag hs 5 rfl;have e6:v 6=if v 4≠0 then v 5 else (0:Int):=ag hs 6 rfl
 have Q6:v 6=b2i (decide (0<=v 0/\v 0<=v 1/\v 1<=200000)):=by
  rw [e6,e4,e2,e3,e5,bb,bb];exact congrArg b2i (decide_eq_decide.2 (by omega))
 refine ⟨bO bP,?_⟩;intro x hx;have hx':x=.bool (decide (v 6≠0)):=hx;rw [hx',Q6,e0,e1]
def lq:List Nd:=[
 .arg 0,
 .arg 1,
 .arg 2,
 .arg 3,
 .bin .leq .i64 (.n 0) (.n 1),
 .bin .geq .i64 (.n 0) (.c (-1099511627776)),
 .bin .leq .i64 (.n 0) (.c 1099511627776),
 .ite (.n 5) (.n 6) (.c 0),
 .ite (.n 4) (.n 7) (.c 0),
 .bin .geq .i64 (.n 1) (.c (-1099511627776)),
 .bin .leq .i64 (.n 1) (.c 1099511627776),
 .ite (.n 9) (.n 10) (.c 0),
 .ite (.n 8) (.n 11) (.c 0),
 .ite (.n 12) (.c 0) (.c 1),
 .bin .leq .i64 (.n 2) (.n 3),
 .bin .geq .i64 (.n 2) (.c (-1099511627776)),
 .bin .leq .i64 (.n 2) (.c 1099511627776),
 .ite (.n 15) (.n 16) (.c 0),
 .ite (.n 14) (.n 17) (.c 0),
 .bin .geq .i64 (.n 3) (.c (-1099511627776)),
 .bin .leq .i64 (.n 3) (.c 1099511627776),
 .ite (.n 19) (.n 20) (.c 0),
 .ite (.n 18) (.n 21) (.c 0),
 .ite (.n 22) (.c 0) (.c 1),
 .ite (.n 13) (.c 1) (.n 23),
 .ite (.n 24) (.c 0) (.c 1),
 .bin .add .i64 (.n 0) (.n 2),
 .bin .add .i64 (.n 1) (.n 3),
 .bin .geq .i64 (.n 26) (.c (-1099511627776)),
 .bin .leq .i64 (.n 26) (.c 1099511627776),
 .ite (.n 28) (.n 29) (.c 0),
 .ite (.n 30) (.c 0) (.c 1),
 .bin .geq .i64 (.n 27) (.c (-1099511627776)),
 .bin .leq .i64 (.n 27) (.c 1099511627776),
 .ite (.n 32) (.n 33) (.c 0),
 .ite (.n 34) (.c 0) (.c 1),
 .ite (.n 31) (.c 1) (.n 35),
 .ite (.n 36) (.c 0) (.c 1),
 .ite (.n 36) (.c 5) (.c 0),
 .ite (.n 36) (.c 0) (.n 26),
 .ite (.n 36) (.c 0) (.n 27),
 .ite (.n 24) (.c 1) (.n 38),
 .ite (.n 24) (.c 0) (.n 39),
 .ite (.n 24) (.c 0) (.n 40)]
def KF:List Vc:=[
 ]
theorem La:whole Try.prog [] 20 40 60 [(true,[some .i64,some .i64]),(true,[some .i64,some .i64])]=some (.tup [.agg [.int .i64 (.n 42),.int .i64 (.n 43)],.c (.int .i64 (.n 41))],⟨lq.reverse,KF.reverse⟩):=by kernel_rfl
theorem Kh:wfN lq.reverse=true:=by kernel_rfl
theorem Gy (a b l h:Int) (w:World) (h1:-200000000<=a/\a<=b/\b<=200000000) (h2:-200000000<=l/\l<=h/\h<=200000000):Calls Try.prog 60 #[.agg #[.int .i64 a,.int .i64 b],.agg #[.int .i64 l,.int .i64 h]] w fun e w'=>e=.returned (.tuple #[.agg #[.int .i64 (a+l),.int .i64 (b+h)],.int .i64 0])/\Below w.heap.size w w':=by
 refine Sx.calls (X:=cxC [a,b,l,h]) fB (kr _) La Kh (fun v hs=>?_) w
 have e0:v 0=a:=ag hs 0 rfl;have e1:v 1=b:=ag hs 1 rfl;have e2:v 2=l:=ag hs 2 rfl;have e3:v 3=h:=ag hs 3 rfl;have e4:v 4=b2i (decide (v 0<=v 1)):=ag hs 4 rfl;have e5:v 5=b2i (decide (v 0>=(-1099511627776:Int))):=ag hs 5 rfl;have e6:v 6=b2i (decide (v 0<=(1099511627776:Int))):=ag hs 6 rfl;have e7:v 7=if v 5≠0 then v 6 else (0:Int):=ag hs 7 rfl
 have e8:v 8=if v 4≠0 then v 7 else (0:Int):=ag hs 8 rfl
 have e9:v 9=b2i (decide (v 1>=(-1099511627776:Int))):=ag hs 9 rfl;have e10:v 10=b2i (decide (v 1<=(1099511627776:Int))):=ag hs 10 rfl;have e11:v 11=if v 9≠0 then v 10 else (0:Int):=ag hs 11 rfl
 have e12:v 12=if v 8≠0 then v 11 else (0:Int):=ag hs 12 rfl
 have e14:v 14=b2i (decide (v 2<=v 3)):=ag hs 14 rfl;have e15:v 15=b2i (decide (v 2>=(-1099511627776:Int))):=ag hs 15 rfl;have e16:v 16=b2i (decide (v 2<=(1099511627776:Int))):=ag hs 16 rfl;have e17:v 17=if v 15≠0 then v 16 else (0:Int):=ag hs 17 rfl
 have e18:v 18=if v 14≠0 then v 17 else (0:Int):=ag hs 18 rfl
 have e19:v 19=b2i (decide (v 3>=(-1099511627776:Int))):=ag hs 19 rfl;have e20:v 20=b2i (decide (v 3<=(1099511627776:Int))):=ag hs 20 rfl;have e21:v 21=if v 19≠0 then v 20 else (0:Int):=ag hs 21 rfl
 have e22:v 22=if v 18≠0 then v 21 else (0:Int):=ag hs 22 rfl
 have e26:v 26=IntKind.i64.wrap (v 0+v 2):=ag hs 26 rfl;have e27:v 27=IntKind.i64.wrap (v 1+v 3):=ag hs 27 rfl;have e28:v 28=b2i (decide (v 26>=(-1099511627776:Int))):=ag hs 28 rfl;have e29:v 29=b2i (decide (v 26<=(1099511627776:Int))):=ag hs 29 rfl;have e30:v 30=if v 28≠0 then v 29 else (0:Int):=ag hs 30 rfl
 have e32:v 32=b2i (decide (v 27>=(-1099511627776:Int))):=ag hs 32 rfl;have e33:v 33=b2i (decide (v 27<=(1099511627776:Int))):=ag hs 33 rfl;have e34:v 34=if v 32≠0 then v 33 else (0:Int):=ag hs 34 rfl
 have Q12:v 12=b2i (dL (v 0) (v 1)):=by rw [e12,e8,e4,e7,e5,e6,e11,e9,e10];exact fF _ _
 have Q22:v 22=b2i (dL (v 2) (v 3)):=by rw [e22,e18,e14,e17,e15,e16,e21,e19,e20];exact fF _ _
 have w26:v 26=a+l:=by rw [e26,e0,e2,IntWalk.i64_in _ (by omega)]
 have w27:v 27=b+h:=by rw [e27,e1,e3,IntWalk.i64_in _ (by omega)]
 have k12:v 12=1:=Q12.trans (H7 (by omega))
 have k22:v 22=1:=Q22.trans (H7 (by omega))
 have k30:v 30=1:=in1 e28 e29 e30 (by omega)
 have k34:v 34=1:=in1 e32 e33 e34 (by omega)
 have z41:v 41=0:=ay (X:=cxC [a,b,l,h]) (v:=v) (l:=lq) (dO _) hs (k:=41) (r:=.c 0) (ps:=[(12,.c 1),(22,.c 1),(30,.c 1),(34,.c 1)]) (nz:=[]) (ah k12 (ah k22 (ah k30 (ah k34 aA)))) aO (by kernel_rfl)
 have z42:v 42=v 26:=aZ (X:=cxC [a,b,l,h]) (v:=v) (l:=lq) (dO _) hs (k:=42) (j:=26) (ps:=[(12,.c 1),(22,.c 1),(30,.c 1),(34,.c 1)]) (ah k12 (ah k22 (ah k30 (ah k34 aA)))) (by kernel_rfl)
 have z43:v 43=v 27:=aZ (X:=cxC [a,b,l,h]) (v:=v) (l:=lq) (dO _) hs (k:=43) (j:=27) (ps:=[(12,.c 1),(22,.c 1),(30,.c 1),(34,.c 1)]) (ah k12 (ah k22 (ah k30 (ah k34 aA)))) (by kernel_rfl)
 refine ⟨bO bP,?_⟩;intro x hx0;have hx':=jG (v:=v) (by rfl) hx0
 rw [hx'];show Value.tuple #[.agg #[.int .i64 (v 42),.int .i64 (v 43)],.int .i64 (v 41)]=_;rw [z41,z42,z43,w26,w27]
def ik:List Nd:=[
 .arg 0,
 .arg 1,
 .arg 2,
 .arg 3,
 .bin .leq .i64 (.n 2) (.n 3),
 .bin .geq .i64 (.n 2) (.c (-1099511627776)),
 .bin .leq .i64 (.n 2) (.c 1099511627776),
 .ite (.n 5) (.n 6) (.c 0),
 .ite (.n 4) (.n 7) (.c 0),
 .bin .geq .i64 (.n 3) (.c (-1099511627776)),
 .bin .leq .i64 (.n 3) (.c 1099511627776),
 .ite (.n 9) (.n 10) (.c 0),
 .ite (.n 8) (.n 11) (.c 0),
 .ite (.n 12) (.c 0) (.c 1),
 .bin .sub .i64 (.c 0) (.n 3),
 .bin .sub .i64 (.c 0) (.n 2),
 .bin .geq .i64 (.n 14) (.c (-1099511627776)),
 .bin .leq .i64 (.n 14) (.c 1099511627776),
 .ite (.n 16) (.n 17) (.c 0),
 .ite (.n 18) (.c 0) (.c 1),
 .bin .geq .i64 (.n 15) (.c (-1099511627776)),
 .bin .leq .i64 (.n 15) (.c 1099511627776),
 .ite (.n 20) (.n 21) (.c 0),
 .ite (.n 22) (.c 0) (.c 1),
 .ite (.n 19) (.c 1) (.n 23),
 .ite (.n 24) (.c 0) (.c 1),
 .ite (.n 24) (.c 5) (.c 0),
 .ite (.n 24) (.c 0) (.n 14),
 .ite (.n 24) (.c 0) (.n 15),
 .ite (.n 13) (.c 1) (.n 26),
 .ite (.n 13) (.c 0) (.n 27),
 .ite (.n 13) (.c 0) (.n 28),
 .bin .neq .i64 (.n 29) (.c 0),
 .ite (.n 32) (.c 0) (.c 1),
 .bin .leq .i64 (.n 0) (.n 1),
 .bin .geq .i64 (.n 0) (.c (-1099511627776)),
 .bin .leq .i64 (.n 0) (.c 1099511627776),
 .ite (.n 35) (.n 36) (.c 0),
 .ite (.n 34) (.n 37) (.c 0),
 .bin .geq .i64 (.n 1) (.c (-1099511627776)),
 .bin .leq .i64 (.n 1) (.c 1099511627776),
 .ite (.n 39) (.n 40) (.c 0),
 .ite (.n 38) (.n 41) (.c 0),
 .ite (.n 42) (.c 0) (.c 1),
 .bin .leq .i64 (.n 30) (.n 31),
 .bin .geq .i64 (.n 30) (.c (-1099511627776)),
 .bin .leq .i64 (.n 30) (.c 1099511627776),
 .ite (.n 45) (.n 46) (.c 0),
 .ite (.n 44) (.n 47) (.c 0),
 .bin .geq .i64 (.n 31) (.c (-1099511627776)),
 .bin .leq .i64 (.n 31) (.c 1099511627776),
 .ite (.n 49) (.n 50) (.c 0),
 .ite (.n 48) (.n 51) (.c 0),
 .ite (.n 52) (.c 0) (.c 1),
 .ite (.n 43) (.c 1) (.n 53),
 .ite (.n 54) (.c 0) (.c 1),
 .bin .add .i64 (.n 0) (.n 30),
 .bin .add .i64 (.n 1) (.n 31),
 .bin .geq .i64 (.n 56) (.c (-1099511627776)),
 .bin .leq .i64 (.n 56) (.c 1099511627776),
 .ite (.n 58) (.n 59) (.c 0),
 .ite (.n 60) (.c 0) (.c 1),
 .bin .geq .i64 (.n 57) (.c (-1099511627776)),
 .bin .leq .i64 (.n 57) (.c 1099511627776),
 .ite (.n 62) (.n 63) (.c 0),
 .ite (.n 64) (.c 0) (.c 1),
 .ite (.n 61) (.c 1) (.n 65),
 .ite (.n 66) (.c 0) (.c 1),
 .ite (.n 66) (.c 5) (.c 0),
 .ite (.n 66) (.c 0) (.n 56),
 .ite (.n 66) (.c 0) (.n 57),
 .ite (.n 54) (.c 1) (.n 68),
 .ite (.n 54) (.c 0) (.n 69),
 .ite (.n 54) (.c 0) (.n 70),
 .ite (.n 32) (.n 29) (.n 71),
 .ite (.n 32) (.n 30) (.n 72),
 .ite (.n 32) (.n 31) (.n 73)]
def Kr:List Vc:=[
 ]
theorem JE:whole Try.prog [] 20 40 87 [(true,[some .i64,some .i64]),(true,[some .i64,some .i64])]=some (.tup [.agg [.int .i64 (.n 75),.int .i64 (.n 76)],.c (.int .i64 (.n 74))],⟨ik.reverse,Kr.reverse⟩):=by kernel_rfl
theorem Jz:wfN ik.reverse=true:=by kernel_rfl
theorem Ho (a b l h:Int) (w:World) (h1:-200000000<=a/\a<=b/\b<=200000000) (h2:-200000000<=l/\l<=h/\h<=200000000):Calls Try.prog 87 #[.agg #[.int .i64 a,.int .i64 b],.agg #[.int .i64 l,.int .i64 h]] w fun e w'=>e=.returned (.tuple #[.agg #[.int .i64 (a-h),.int .i64 (b-l)],.int .i64 0])/\Below w.heap.size w w':=by
 refine Sx.calls (X:=cxC [a,b,l,h]) fB (kr _) JE Jz (fun v hs=>?_) w
 have e0:v 0=a:=ag hs 0 rfl;have e1:v 1=b:=ag hs 1 rfl;have e2:v 2=l:=ag hs 2 rfl;have e3:v 3=h:=ag hs 3 rfl;have e4:v 4=b2i (decide (v 2<=v 3)):=ag hs 4 rfl;have e5:v 5=b2i (decide (v 2>=(-1099511627776:Int))):=ag hs 5 rfl;have e6:v 6=b2i (decide (v 2<=(1099511627776:Int))):=ag hs 6 rfl;have e7:v 7=if v 5≠0 then v 6 else (0:Int):=ag hs 7 rfl
 have e8:v 8=if v 4≠0 then v 7 else (0:Int):=ag hs 8 rfl
 have e9:v 9=b2i (decide (v 3>=(-1099511627776:Int))):=ag hs 9 rfl;have e10:v 10=b2i (decide (v 3<=(1099511627776:Int))):=ag hs 10 rfl;have e11:v 11=if v 9≠0 then v 10 else (0:Int):=ag hs 11 rfl
 have e12:v 12=if v 8≠0 then v 11 else (0:Int):=ag hs 12 rfl
 have e14:v 14=IntKind.i64.wrap ((0:Int)-v 3):=ag hs 14 rfl;have e15:v 15=IntKind.i64.wrap ((0:Int)-v 2):=ag hs 15 rfl;have e16:v 16=b2i (decide (v 14>=(-1099511627776:Int))):=ag hs 16 rfl;have e17:v 17=b2i (decide (v 14<=(1099511627776:Int))):=ag hs 17 rfl;have e18:v 18=if v 16≠0 then v 17 else (0:Int):=ag hs 18 rfl
 have e20:v 20=b2i (decide (v 15>=(-1099511627776:Int))):=ag hs 20 rfl;have e21:v 21=b2i (decide (v 15<=(1099511627776:Int))):=ag hs 21 rfl;have e22:v 22=if v 20≠0 then v 21 else (0:Int):=ag hs 22 rfl
 have e34:v 34=b2i (decide (v 0<=v 1)):=ag hs 34 rfl;have e35:v 35=b2i (decide (v 0>=(-1099511627776:Int))):=ag hs 35 rfl;have e36:v 36=b2i (decide (v 0<=(1099511627776:Int))):=ag hs 36 rfl;have e37:v 37=if v 35≠0 then v 36 else (0:Int):=ag hs 37 rfl
 have e38:v 38=if v 34≠0 then v 37 else (0:Int):=ag hs 38 rfl
 have e39:v 39=b2i (decide (v 1>=(-1099511627776:Int))):=ag hs 39 rfl;have e40:v 40=b2i (decide (v 1<=(1099511627776:Int))):=ag hs 40 rfl;have e41:v 41=if v 39≠0 then v 40 else (0:Int):=ag hs 41 rfl
 have e42:v 42=if v 38≠0 then v 41 else (0:Int):=ag hs 42 rfl
 have e44:v 44=b2i (decide (v 30<=v 31)):=ag hs 44 rfl;have e45:v 45=b2i (decide (v 30>=(-1099511627776:Int))):=ag hs 45 rfl;have e46:v 46=b2i (decide (v 30<=(1099511627776:Int))):=ag hs 46 rfl;have e47:v 47=if v 45≠0 then v 46 else (0:Int):=ag hs 47 rfl
 have e48:v 48=if v 44≠0 then v 47 else (0:Int):=ag hs 48 rfl
 have e49:v 49=b2i (decide (v 31>=(-1099511627776:Int))):=ag hs 49 rfl;have e50:v 50=b2i (decide (v 31<=(1099511627776:Int))):=ag hs 50 rfl;have e51:v 51=if v 49≠0 then v 50 else (0:Int):=ag hs 51 rfl
 have e52:v 52=if v 48≠0 then v 51 else (0:Int):=ag hs 52 rfl
 have e56:v 56=IntKind.i64.wrap (v 0+v 30):=ag hs 56 rfl;have e57:v 57=IntKind.i64.wrap (v 1+v 31):=ag hs 57 rfl;have e58:v 58=b2i (decide (v 56>=(-1099511627776:Int))):=ag hs 58 rfl;have e59:v 59=b2i (decide (v 56<=(1099511627776:Int))):=ag hs 59 rfl;have e60:v 60=if v 58≠0 then v 59 else (0:Int):=ag hs 60 rfl
 have e62:v 62=b2i (decide (v 57>=(-1099511627776:Int))):=ag hs 62 rfl;have e63:v 63=b2i (decide (v 57<=(1099511627776:Int))):=ag hs 63 rfl;have e64:v 64=if v 62≠0 then v 63 else (0:Int):=ag hs 64 rfl
 have Q12:v 12=b2i (dL (v 2) (v 3)):=by rw [e12,e8,e4,e7,e5,e6,e11,e9,e10];exact fF _ _
 have w14:v 14=-h:=by rw [e14,e3,IntWalk.i64_in _ (by omega)];omega
 have w15:v 15=-l:=by rw [e15,e2,IntWalk.i64_in _ (by omega)];omega
 have k12:v 12=1:=Q12.trans (H7 (by omega))
 have k18:v 18=1:=in1 e16 e17 e18 (by omega)
 have k22:v 22=1:=in1 e20 e21 e22 (by omega)
 have z30:v 30=v 14:=aZ (X:=cxC [a,b,l,h]) (v:=v) (l:=ik) (dO _) hs (k:=30) (j:=14) (ps:=[(12,.c 1),(18,.c 1),(22,.c 1)]) (ah k12 (ah k18 (ah k22 aA))) (by kernel_rfl)
 have z31:v 31=v 15:=aZ (X:=cxC [a,b,l,h]) (v:=v) (l:=ik) (dO _) hs (k:=31) (j:=15) (ps:=[(12,.c 1),(18,.c 1),(22,.c 1)]) (ah k12 (ah k18 (ah k22 aA))) (by kernel_rfl)
 have Q42:v 42=b2i (dL (v 0) (v 1)):=by rw [e42,e38,e34,e37,e35,e36,e41,e39,e40];exact fF _ _
 have Q52:v 52=b2i (dL (v 30) (v 31)):=by rw [e52,e48,e44,e47,e45,e46,e51,e49,e50];exact fF _ _
 have w56:v 56=a-h:=by rw [e56,e0,z30,w14,IntWalk.i64_in _ (by omega)];omega
 have w57:v 57=b-l:=by rw [e57,e1,z31,w15,IntWalk.i64_in _ (by omega)];omega
 have k42:v 42=1:=Q42.trans (H7 (by omega))
 have k52:v 52=1:=Q52.trans (H7 (by omega))
 have k60:v 60=1:=in1 e58 e59 e60 (by omega)
 have k64:v 64=1:=in1 e62 e63 e64 (by omega)
 have z74:v 74=0:=ay (X:=cxC [a,b,l,h]) (v:=v) (l:=ik) (dO _) hs (k:=74) (r:=.c 0) (ps:=[(12,.c 1),(18,.c 1),(22,.c 1),(42,.c 1),(52,.c 1),(60,.c 1),(64,.c 1)]) (nz:=[]) (ah k12 (ah k18 (ah k22 (ah k42 (ah k52 (ah k60 (ah k64 aA))))))) aO (by kernel_rfl)
 have z75:v 75=v 56:=aZ (X:=cxC [a,b,l,h]) (v:=v) (l:=ik) (dO _) hs (k:=75) (j:=56) (ps:=[(12,.c 1),(18,.c 1),(22,.c 1),(42,.c 1),(52,.c 1),(60,.c 1),(64,.c 1)]) (ah k12 (ah k18 (ah k22 (ah k42 (ah k52 (ah k60 (ah k64 aA))))))) (by kernel_rfl)
 have z76:v 76=v 57:=aZ (X:=cxC [a,b,l,h]) (v:=v) (l:=ik) (dO _) hs (k:=76) (j:=57) (ps:=[(12,.c 1),(18,.c 1),(22,.c 1),(42,.c 1),(52,.c 1),(60,.c 1),(64,.c 1)]) (ah k12 (ah k18 (ah k22 (ah k42 (ah k52 (ah k60 (ah k64 aA))))))) (by kernel_rfl)
 refine ⟨bO bP,?_⟩;intro x hx0;have hx':=jG (v:=v) (by rfl) hx0
 rw [hx'];show Value.tuple #[.agg #[.int .i64 (v 75),.int .i64 (v 76)],.int .i64 (v 74)]=_;rw [z74,z75,z76,w56,w57]
def OZ:Nat->List Int->List Int
 | 42,[a,b,l,h]=>[b2i (decide (MV a b l h))]
 | 43,[a,b]=>[b2i (decide (0<=a/\a<=b/\b<=200000))]
 | 44,[a,b,l,h]=>[a+l,b+h,0]
 | 45,[a,b,l,h]=>[a-h,b-l,0]
 | f,xs=>Fx f xs
def nk:Nat->List Int->Prop
 | 42,[_,_,_,_]=>True
 | 43,[_,_]=>True
 | 44,[a,b,l,h]=>(-200000000<=a/\a<=b/\b<=200000000)/\(-200000000<=l/\l<=h/\h<=200000000)
 | 45,[a,b,l,h]=>(-200000000<=a/\a<=b/\b<=200000000)/\(-200000000<=l/\l<=h/\h<=200000000)
 | 42,_=>False
 | 43,_=>False
 | 44,_=>False
 | 45,_=>False
 | f,xs=>su f xs
def cxD (args:List Int):Cx:=⟨OZ,nk,args⟩
theorem wo {f:Nat} (h:f≠42/\f≠43/\f≠44/\f≠45) (xs:List Int):OZ f xs=Fx f xs:=by
 unfold OZ;split
 . exact absurd rfl h.1
 . exact absurd rfl h.2.1
 . exact absurd rfl h.2.2.1
 . exact absurd rfl h.2.2.2
 . rfl
theorem wZ {f:Nat} (h:f≠42/\f≠43/\f≠44/\f≠45) (xs:List Int):nk f xs=su f xs:=by
 unfold nk;split<;>first|exact absurd rfl h.1|exact absurd rfl h.2.1|exact absurd rfl h.2.2.1|exact absurd rfl h.2.2.2|rfl
theorem LM (args:List Int):vE (cxD args):=⟨fun f xs h=>(wo (by omega) xs).trans ((IG args).sem f xs h),fun f xs h hp=>by
 show nk f xs;rw [wZ (by omega)];exact (IG args).pre f xs h hp⟩
theorem RP {args:List Int} {s:Sx.Spec} (h:s.id≠42/\s.id≠43/\s.id≠44/\s.id≠45) (H:az Try.prog (cxC args) s):az Try.prog (cxD args) s:=by
 obtain ⟨a,b⟩:=H;refine ⟨a,fun xs hp w=>?_⟩
 have hp':su s.id xs:=by
  have:nk s.id xs:=hp
  rwa [wZ h] at this
 have:=b xs hp' w;rw [show (cxD args).sem s.id xs=(cxC args).sem s.id xs from wo h xs]
 exact this
theorem Am {xs:List Int} (hp:nk 42 xs):∃ a b l h,xs=[a,b,l,h]:=by
 match xs,hp with
 | [a,b,l,h],_=>exact ⟨a,b,l,h,rfl⟩
theorem F9 {xs:List Int} (hp:nk 43 xs):∃ a b,xs=[a,b]:=by
 match xs,hp with
 | [a,b],_=>exact ⟨a,b,rfl⟩
theorem G9 {xs:List Int} (hp:nk 44 xs):∃ a b l h,xs=[a,b,l,h]/\(-200000000<=a/\a<=b/\b<=200000000)/\(-200000000<=l/\l<=h/\h<=200000000):=by
 match xs,hp with
 | [a,b,l,h],hp=>exact ⟨a,b,l,h,rfl,hp⟩
theorem GR {xs:List Int} (hp:nk 45 xs):∃ a b l h,xs=[a,b,l,h]/\(-200000000<=a/\a<=b/\b<=200000000)/\(-200000000<=l/\l<=h/\h<=200000000):=by
 match xs,hp with
 | [a,b,l,h],hp=>exact ⟨a,b,l,h,rfl,hp⟩
def JS:Sx.Spec:=⟨99,42,[(true,[some .i64,some .i64]),(true,[some .i64,some .i64])],[(false,[none])]⟩
def GK:Sx.Spec:=⟨22,42,[(true,[some .i64,some .i64,some .i64,some .i64])],[(false,[none])]⟩
def KX:Sx.Spec:=⟨23,42,[(true,[some .i64,some .i64,some .i64,some .i64])],[(false,[none])]⟩
def I4:Sx.Spec:=⟨105,43,[(true,[some .i64,some .i64])],[(false,[none])]⟩
def KH:Sx.Spec:=⟨58,43,[(true,[some .i64,some .i64])],[(false,[none])]⟩
def LX:Sx.Spec:=⟨60,44,[(true,[some .i64,some .i64]),(true,[some .i64,some .i64])],[(true,[some .i64,some .i64]),(false,[some .i64])]⟩
def Lm:Sx.Spec:=⟨87,45,[(true,[some .i64,some .i64]),(true,[some .i64,some .i64])],[(true,[some .i64,some .i64]),(false,[some .i64])]⟩
def O6:Sx.Spec:=LX
def Nl:Sx.Spec:=Lm
def Qn:List Sx.Spec:=[JS,GK,KX,I4,KH,LX,Lm,O6,Nl]
def spD:List Sx.Spec:=spC++Qn
theorem Pv:∀ s∈spC,s.id≠42/\s.id≠43/\s.id≠44/\s.id≠45:=by
 decide
theorem vV (args:List Int):∀ s∈spD,az Try.prog (cxD args) s:=by
 intro s hs;rcases List.mem_append.1 hs with h|h
 . exact RP (Pv s h) (Py args s h)
 . simp only [Qn,List.mem_cons,List.not_mem_nil,or_false] at h;rcases h with rfl|rfl|rfl|rfl|rfl|rfl|rfl|rfl|rfl
   . refine ⟨ours _ _ _ Try.func99 rfl (by kernel_rfl),fun xs hp w=>?_⟩
     obtain ⟨a,b,l,h,rfl⟩:=Am hp;exact Ji a b l h w
   . refine ⟨ours _ _ _ Try.func22 rfl (by kernel_rfl),fun xs hp w=>?_⟩
     obtain ⟨a,b,l,h,rfl⟩:=Am hp;exact Ej a b l h w
   . refine ⟨ours _ _ _ Try.func23 rfl (by kernel_rfl),fun xs hp w=>?_⟩
     obtain ⟨a,b,l,h,rfl⟩:=Am hp;exact H6 a b l h w
   . refine ⟨ours _ _ _ Try.func105 rfl (by kernel_rfl),fun xs hp w=>?_⟩
     obtain ⟨a,b,rfl⟩:=F9 hp;exact Kz a b w
   . refine ⟨ours _ _ _ Try.func58 rfl (by kernel_rfl),fun xs hp w=>?_⟩
     obtain ⟨a,b,rfl⟩:=F9 hp;exact Hr a b w
   . refine ⟨ours _ _ _ Try.func60 rfl (by kernel_rfl),fun xs hp w=>?_⟩
     obtain ⟨a,b,l,h,rfl,h1,h2⟩:=G9 hp;exact Gy a b l h w h1 h2
   . refine ⟨ours _ _ _ Try.func87 rfl (by kernel_rfl),fun xs hp w=>?_⟩
     obtain ⟨a,b,l,h,rfl,h1,h2⟩:=GR hp;exact Ho a b l h w h1 h2
   . refine ⟨ours _ _ _ Try.func60 rfl (by kernel_rfl),fun xs hp w=>?_⟩
     obtain ⟨a,b,l,h,rfl,h1,h2⟩:=G9 hp;exact Gy a b l h w h1 h2
   . refine ⟨ours _ _ _ Try.func87 rfl (by kernel_rfl),fun xs hp w=>?_⟩
     obtain ⟨a,b,l,h,rfl,h1,h2⟩:=GR hp;exact Ho a b l h w h1 h2
def Rv (t:Tab):Nd->Option Rf
 | .app 37 4 [_,_,_,_]=>some (.c 0)
 | .app 38 4 [_,_,_,_]=>some (.c 0)
 | .app 44 2 [_,_,_,_]=>some (.c 0)
 | .app 45 2 [_,_,_,_]=>some (.c 0)
 | x=>Dh t x
theorem bE (args:List Int):jo (cxD args) Rv:=by
 intro v t x r ht h;unfold Rv at h;split at h
 . cases h;rfl
 . cases h;rfl
 . cases h;rfl
 . cases h;rfl
 . exact oM (LM args) v t x r ht h
end Go.Proofs.Ytgmncdmcdgkodaa
namespace Go.Proofs.Ytgmncdmcdgkodaa
open Go.RowKit Alm Sx
def coS (p q:List Int):List Int:=coV (p.getD 0 0+q.getD 0 0) (p.getD 1 0+q.getD 1 0) (p.getD 2 0+q.getD 2 0) (p.getD 3 0+q.getD 3 0)
def coD (p q:List Int):List Int:=coV (p.getD 0 0-q.getD 1 0) (p.getD 1 0-q.getD 0 0) (p.getD 2 0-q.getD 3 0) (p.getD 3 0-q.getD 2 0)
def jnV (s:List Int):List Int:=if 0<=s.getD 2 0/\s.getD 2 0<=s.getD 3 0/\s.getD 3 0<=200000 then [s.getD 0 0,s.getD 1 0,s.getD 2 0,s.getD 3 0,0] else [0,0,0,0,5]
def mgV (a b c d e f g h:Int):List Int:=if MV a b c d/\MV e f g h then jnV (coS (paV a b c d) (paV e f g h)) else [0,0,0,0,1]
def foV (a b c d e f g h:Int):List Int:=if MV e f g h/\MV a b c d then jnV (coD (paV e f g h) (paV a b c d)) else [0,0,0,0,1]
theorem Ck (a b c d e:Int):[a,b,c,d,e].getD 0 0=a/\[a,b,c,d,e].getD 1 0=b/\[a,b,c,d,e].getD 2 0=c/\[a,b,c,d,e].getD 3 0=d/\[a,b,c,d,e].getD 4 0=e:=⟨rfl,rfl,rfl,rfl,rfl⟩
def bA:List Nd:=[
 .arg 0,
 .arg 1,
 .arg 2,
 .arg 3,
 .arg 4,
 .arg 5,
 .arg 6,
 .arg 7,
 .app 42 0 [.n 0,.n 1,.n 2,.n 3],
 .ite (.n 8) (.c 0) (.c 1),
 .app 42 0 [.n 4,.n 5,.n 6,.n 7],
 .ite (.n 10) (.c 0) (.c 1),
 .ite (.n 9) (.c 1) (.n 11),
 .ite (.n 12) (.c 0) (.c 1),
 .app 37 0 [.n 0,.n 1,.n 2,.n 3],
 .app 37 1 [.n 0,.n 1,.n 2,.n 3],
 .app 37 2 [.n 0,.n 1,.n 2,.n 3],
 .app 37 3 [.n 0,.n 1,.n 2,.n 3],
 .app 37 4 [.n 0,.n 1,.n 2,.n 3],
 .bin .neq .i64 (.n 18) (.c 0),
 .ite (.n 19) (.c 0) (.c 1),
 .app 37 0 [.n 4,.n 5,.n 6,.n 7],
 .app 37 1 [.n 4,.n 5,.n 6,.n 7],
 .app 37 2 [.n 4,.n 5,.n 6,.n 7],
 .app 37 3 [.n 4,.n 5,.n 6,.n 7],
 .app 37 4 [.n 4,.n 5,.n 6,.n 7],
 .bin .neq .i64 (.n 25) (.c 0),
 .ite (.n 26) (.c 0) (.c 1),
 .app 44 0 [.n 14,.n 15,.n 21,.n 22],
 .app 44 1 [.n 14,.n 15,.n 21,.n 22],
 .app 44 2 [.n 14,.n 15,.n 21,.n 22],
 .bin .neq .i64 (.n 30) (.c 0),
 .ite (.n 31) (.c 0) (.c 1),
 .app 44 0 [.n 16,.n 17,.n 23,.n 24],
 .app 44 1 [.n 16,.n 17,.n 23,.n 24],
 .app 44 2 [.n 16,.n 17,.n 23,.n 24],
 .bin .neq .i64 (.n 35) (.c 0),
 .ite (.n 36) (.c 0) (.c 1),
 .app 38 0 [.n 28,.n 29,.n 33,.n 34],
 .app 38 1 [.n 28,.n 29,.n 33,.n 34],
 .app 38 2 [.n 28,.n 29,.n 33,.n 34],
 .app 38 3 [.n 28,.n 29,.n 33,.n 34],
 .app 38 4 [.n 28,.n 29,.n 33,.n 34],
 .bin .neq .i64 (.n 42) (.c 0),
 .app 43 0 [.n 40,.n 41],
 .ite (.n 44) (.c 0) (.c 1),
 .ite (.n 43) (.c 1) (.n 45),
 .mx (.n 42) (.c 5),
 .ite (.n 46) (.c 0) (.c 1),
 .ite (.n 46) (.n 47) (.c 0),
 .ite (.n 46) (.c 0) (.n 40),
 .ite (.n 46) (.c 0) (.n 41),
 .ite (.n 46) (.c 0) (.n 38),
 .ite (.n 46) (.c 0) (.n 39),
 .ite (.n 36) (.n 35) (.n 49),
 .ite (.n 36) (.n 35) (.n 42),
 .ite (.n 36) (.c 0) (.n 50),
 .ite (.n 36) (.c 0) (.n 51),
 .ite (.n 36) (.c 0) (.n 52),
 .ite (.n 36) (.c 0) (.n 53),
 .ite (.n 31) (.n 30) (.n 54),
 .ite (.n 31) (.n 30) (.n 55),
 .ite (.n 31) (.c 0) (.n 56),
 .ite (.n 31) (.c 0) (.n 57),
 .ite (.n 31) (.c 0) (.n 58),
 .ite (.n 31) (.c 0) (.n 59),
 .ite (.n 26) (.n 25) (.n 60),
 .ite (.n 26) (.n 25) (.n 61),
 .ite (.n 26) (.c 0) (.n 62),
 .ite (.n 26) (.c 0) (.n 63),
 .ite (.n 26) (.c 0) (.n 64),
 .ite (.n 26) (.c 0) (.n 65),
 .ite (.n 19) (.n 18) (.n 66),
 .ite (.n 19) (.n 18) (.n 67),
 .ite (.n 19) (.c 0) (.n 68),
 .ite (.n 19) (.c 0) (.n 69),
 .ite (.n 19) (.c 0) (.n 70),
 .ite (.n 19) (.c 0) (.n 71),
 .ite (.n 12) (.c 1) (.n 72),
 .ite (.n 12) (.c 0) (.n 74),
 .ite (.n 12) (.c 0) (.n 75),
 .ite (.n 12) (.c 0) (.n 76),
 .ite (.n 12) (.c 0) (.n 77),
 .bin .neq .i64 (.n 78) (.c 0),
 .ite (.n 83) (.c 0) (.c 1),
 .ite (.n 83) (.n 78) (.c 0),
 .ite (.n 83) (.c 0) (.n 81),
 .ite (.n 83) (.c 0) (.n 82),
 .ite (.n 83) (.c 0) (.n 79),
 .ite (.n 83) (.c 0) (.n 80)]
def Mk:List Vc:=[
 ⟨[],.pre 42 [.n 0,.n 1,.n 2,.n 3]⟩,
 ⟨[(.n 9,false)],.pre 42 [.n 4,.n 5,.n 6,.n 7]⟩,
 ⟨[(.n 13,true)],.pre 37 [.n 0,.n 1,.n 2,.n 3]⟩,
 ⟨[(.n 20,true),(.n 13,true)],.pre 37 [.n 4,.n 5,.n 6,.n 7]⟩,
 ⟨[(.n 27,true),(.n 20,true),(.n 13,true)],.pre 44 [.n 14,.n 15,.n 21,.n 22]⟩,
 ⟨[(.n 32,true),(.n 27,true),(.n 20,true),(.n 13,true)],.pre 44 [.n 16,.n 17,.n 23,.n 24]⟩,
 ⟨[(.n 37,true),(.n 32,true),(.n 27,true),(.n 20,true),(.n 13,true)],.pre 38 [.n 28,.n 29,.n 33,.n 34]⟩,
 ⟨[(.n 37,true),(.n 32,true),(.n 27,true),(.n 20,true),(.n 13,true),(.n 43,false)],.pre 43 [.n 40,.n 41]⟩]
theorem Pk:whole Try.prog spD 20 40 26 [(true,[some .i64,some .i64,some .i64,some .i64]),(true,[some .i64,some .i64,some .i64,some .i64])]=some (.tup [.agg [.int .i64 (.n 86),.int .i64 (.n 87),.int .i64 (.n 88),.int .i64 (.n 89)],.c (.int .i64 (.n 85))],⟨bA.reverse,Mk.reverse⟩):=by kernel_rfl
theorem NJ:wfN bA.reverse=true:=by kernel_rfl
theorem Pg {ar:List Int} {v:Nat->Int} (hs:dV (cxD ar) v bA.reverse) (P8:v 8=0):v 85=1/\v 86=0/\v 87=0/\v 88=0/\v 89=0 :=
 ⟨ay (X:=cxD ar) (v:=v) (l:=bA) (bE _) hs (k:=85) (r:=.c 1) (ps:=[(8,.c 0)]) (nz:=[]) (ah P8 aA) aO (by kernel_rfl),
  ay (X:=cxD ar) (v:=v) (l:=bA) (bE _) hs (k:=86) (r:=.c 0) (ps:=[(8,.c 0)]) (nz:=[]) (ah P8 aA) aO (by kernel_rfl),
  ay (X:=cxD ar) (v:=v) (l:=bA) (bE _) hs (k:=87) (r:=.c 0) (ps:=[(8,.c 0)]) (nz:=[]) (ah P8 aA) aO (by kernel_rfl),
  ay (X:=cxD ar) (v:=v) (l:=bA) (bE _) hs (k:=88) (r:=.c 0) (ps:=[(8,.c 0)]) (nz:=[]) (ah P8 aA) aO (by kernel_rfl),
  ay (X:=cxD ar) (v:=v) (l:=bA) (bE _) hs (k:=89) (r:=.c 0) (ps:=[(8,.c 0)]) (nz:=[]) (ah P8 aA) aO (by kernel_rfl)⟩
theorem Ms {ar:List Int} {v:Nat->Int} (hs:dV (cxD ar) v bA.reverse) (P8:v 8=1) (P10:v 10=0):v 85=1/\v 86=0/\v 87=0/\v 88=0/\v 89=0 :=
 ⟨ay (X:=cxD ar) (v:=v) (l:=bA) (bE _) hs (k:=85) (r:=.c 1) (ps:=[(8,.c 1),(10,.c 0)]) (nz:=[]) (ah P8 (ah P10 aA)) aO (by kernel_rfl),
  ay (X:=cxD ar) (v:=v) (l:=bA) (bE _) hs (k:=86) (r:=.c 0) (ps:=[(8,.c 1),(10,.c 0)]) (nz:=[]) (ah P8 (ah P10 aA)) aO (by kernel_rfl),
  ay (X:=cxD ar) (v:=v) (l:=bA) (bE _) hs (k:=87) (r:=.c 0) (ps:=[(8,.c 1),(10,.c 0)]) (nz:=[]) (ah P8 (ah P10 aA)) aO (by kernel_rfl),
  ay (X:=cxD ar) (v:=v) (l:=bA) (bE _) hs (k:=88) (r:=.c 0) (ps:=[(8,.c 1),(10,.c 0)]) (nz:=[]) (ah P8 (ah P10 aA)) aO (by kernel_rfl),
  ay (X:=cxD ar) (v:=v) (l:=bA) (bE _) hs (k:=89) (r:=.c 0) (ps:=[(8,.c 1),(10,.c 0)]) (nz:=[]) (ah P8 (ah P10 aA)) aO (by kernel_rfl)⟩
theorem Ps {ar:List Int} {v:Nat->Int} (hs:dV (cxD ar) v bA.reverse) (P8:v 8=1) (P10:v 10=1) (P44:v 44=0):v 85=5/\v 86=0/\v 87=0/\v 88=0/\v 89=0 :=
 ⟨ay (X:=cxD ar) (v:=v) (l:=bA) (bE _) hs (k:=85) (r:=.c 5) (ps:=[(8,.c 1),(10,.c 1),(44,.c 0)]) (nz:=[]) (ah P8 (ah P10 (ah P44 aA))) aO (by kernel_rfl),
  ay (X:=cxD ar) (v:=v) (l:=bA) (bE _) hs (k:=86) (r:=.c 0) (ps:=[(8,.c 1),(10,.c 1),(44,.c 0)]) (nz:=[]) (ah P8 (ah P10 (ah P44 aA))) aO (by kernel_rfl),
  ay (X:=cxD ar) (v:=v) (l:=bA) (bE _) hs (k:=87) (r:=.c 0) (ps:=[(8,.c 1),(10,.c 1),(44,.c 0)]) (nz:=[]) (ah P8 (ah P10 (ah P44 aA))) aO (by kernel_rfl),
  ay (X:=cxD ar) (v:=v) (l:=bA) (bE _) hs (k:=88) (r:=.c 0) (ps:=[(8,.c 1),(10,.c 1),(44,.c 0)]) (nz:=[]) (ah P8 (ah P10 (ah P44 aA))) aO (by kernel_rfl),
  ay (X:=cxD ar) (v:=v) (l:=bA) (bE _) hs (k:=89) (r:=.c 0) (ps:=[(8,.c 1),(10,.c 1),(44,.c 0)]) (nz:=[]) (ah P8 (ah P10 (ah P44 aA))) aO (by kernel_rfl)⟩
theorem NB {ar:List Int} {v:Nat->Int} (hs:dV (cxD ar) v bA.reverse) (P8:v 8=1) (P10:v 10=1) (P44:v 44=1):v 85=0/\v 86=v 38/\v 87=v 39/\v 88=v 40/\v 89=v 41 :=
 ⟨ay (X:=cxD ar) (v:=v) (l:=bA) (bE _) hs (k:=85) (r:=.c 0) (ps:=[(8,.c 1),(10,.c 1),(44,.c 1)]) (nz:=[]) (ah P8 (ah P10 (ah P44 aA))) aO (by kernel_rfl),
  aZ (X:=cxD ar) (v:=v) (l:=bA) (bE _) hs (k:=86) (j:=38) (ps:=[(8,.c 1),(10,.c 1),(44,.c 1)]) (ah P8 (ah P10 (ah P44 aA))) (by kernel_rfl),
  aZ (X:=cxD ar) (v:=v) (l:=bA) (bE _) hs (k:=87) (j:=39) (ps:=[(8,.c 1),(10,.c 1),(44,.c 1)]) (ah P8 (ah P10 (ah P44 aA))) (by kernel_rfl),
  aZ (X:=cxD ar) (v:=v) (l:=bA) (bE _) hs (k:=88) (j:=40) (ps:=[(8,.c 1),(10,.c 1),(44,.c 1)]) (ah P8 (ah P10 (ah P44 aA))) (by kernel_rfl),
  aZ (X:=cxD ar) (v:=v) (l:=bA) (bE _) hs (k:=89) (j:=41) (ps:=[(8,.c 1),(10,.c 1),(44,.c 1)]) (ah P8 (ah P10 (ah P44 aA))) (by kernel_rfl)⟩
theorem KI (a b c d p q g h:Int) (w:World):Calls Try.prog 26 #[.agg #[.int .i64 a,.int .i64 b,.int .i64 c,.int .i64 d],.agg #[.int .i64 p,.int .i64 q,.int .i64 g,.int .i64 h]] w fun e w'=>e=.returned (.tuple #[.agg #[.int .i64 ((mgV a b c d p q g h).getD 0 0),.int .i64 ((mgV a b c d p q g h).getD 1 0),.int .i64 ((mgV a b c d p q g h).getD 2 0),.int .i64 ((mgV a b c d p q g h).getD 3 0)],.int .i64 ((mgV a b c d p q g h).getD 4 0)])/\Below w.heap.size w w':=by
 refine Sx.calls (X:=cxD [a,b,c,d,p,q,g,h]) fB (vV _) Pk NJ (fun v hs=>?_) w
 have e8:v 8=b2i (decide (MV (v 0) (v 1) (v 2) (v 3))):=ag hs 8 rfl;have e10:v 10=b2i (decide (MV (v 4) (v 5) (v 6) (v 7))):=ag hs 10 rfl;have e9:v 9=if v 8≠0 then (0:Int) else (1:Int):=ag hs 9 rfl
 have e11:v 11=if v 10≠0 then (0:Int) else (1:Int):=ag hs 11 rfl
 have e12:v 12=if v 9≠0 then (1:Int) else v 11:=ag hs 12 rfl
 have e13:v 13=if v 12≠0 then (0:Int) else (1:Int):=ag hs 13 rfl
 have H:v 13≠0->MV (v 0) (v 1) (v 2) (v 3)/\MV (v 4) (v 5) (v 6) (v 7):=by
  intro h;rw [e13,e12,e9,e11,e8,e10] at h
  by_cases h1:MV (v 0) (v 1) (v 2) (v 3)<;>by_cases h2:MV (v 4) (v 5) (v 6) (v 7)
  . exact ⟨h1,h2⟩
  . rw [decide_eq_true h1,decide_eq_false h2] at h;exact absurd (by decide) h
  . rw [decide_eq_false h1,decide_eq_true h2] at h;exact absurd (by decide) h
  . rw [decide_eq_false h1,decide_eq_false h2] at h;exact absurd (by decide) h
 have e14:v 14=(paV (v 0) (v 1) (v 2) (v 3)).getD 0 0:=ag hs 14 rfl;have e15:v 15=(paV (v 0) (v 1) (v 2) (v 3)).getD 1 0:=ag hs 15 rfl;have e16:v 16=(paV (v 0) (v 1) (v 2) (v 3)).getD 2 0:=ag hs 16 rfl;have e17:v 17=(paV (v 0) (v 1) (v 2) (v 3)).getD 3 0:=ag hs 17 rfl;have e21:v 21=(paV (v 4) (v 5) (v 6) (v 7)).getD 0 0:=ag hs 21 rfl;have e22:v 22=(paV (v 4) (v 5) (v 6) (v 7)).getD 1 0:=ag hs 22 rfl;have e23:v 23=(paV (v 4) (v 5) (v 6) (v 7)).getD 2 0:=ag hs 23 rfl;have e24:v 24=(paV (v 4) (v 5) (v 6) (v 7)).getD 3 0:=ag hs 24 rfl
 have BX:MV (v 0) (v 1) (v 2) (v 3)->(-200000<=v 14/\v 14<=v 15/\v 15<=200000)/\(-200000<=v 16/\v 16<=v 17/\v 17<=200000):=by
  intro q
  have t:(-(v 3)<=v 14/\v 14<=v 15/\v 15<=v 3)/\(-(v 3)<=v 16/\v 16<=v 17/\v 17<=v 3):=by
   rw [e14,e15,e16,e17];exact Ay q.2.1 q.2.2.1
  omega
 have BY:MV (v 4) (v 5) (v 6) (v 7)->(-200000<=v 21/\v 21<=v 22/\v 22<=200000)/\(-200000<=v 23/\v 23<=v 24/\v 24<=200000):=by
  intro q
  have t:(-(v 7)<=v 21/\v 21<=v 22/\v 22<=v 7)/\(-(v 7)<=v 23/\v 23<=v 24/\v 24<=v 7):=by
   rw [e21,e22,e23,e24];exact Ay q.2.1 q.2.2.1
  omega
 have P37:∀ {a b l h:Int},MV a b l h->nk 37 [a,b,l,h]:=fun q=>⟨q.1,q.2.1,q.2.2.1,by have:=q.2.2.2;omega⟩
 have e28:v 28=v 14+v 21:=ag hs 28 rfl;have e29:v 29=v 15+v 22:=ag hs 29 rfl;have e33:v 33=v 16+v 23:=ag hs 33 rfl;have e34:v 34=v 17+v 24:=ag hs 34 rfl
 have P38:MV (v 0) (v 1) (v 2) (v 3)/\MV (v 4) (v 5) (v 6) (v 7)->nk 38 [v 28,v 29,v 33,v 34]:=by
  intro q;have x:=BX q.1;have y:=BY q.2;refine ⟨?_,?_⟩<;>(first|rw [e28,e29]|rw [e33,e34])<;>omega
 have Fa:MV (v 0) (v 1) (v 2) (v 3)/\MV (v 4) (v 5) (v 6) (v 7)->nk 44 [v 14,v 15,v 21,v 22]:=fun q=>by
  have x:=BX q.1;have y:=BY q.2;exact ⟨by omega,by omega⟩
 have Fb:MV (v 0) (v 1) (v 2) (v 3)/\MV (v 4) (v 5) (v 6) (v 7)->nk 44 [v 16,v 17,v 23,v 24]:=fun q=>by
  have x:=BX q.1;have y:=BY q.2;exact ⟨by omega,by omega⟩
 refine ⟨bO ?_,?_⟩
 . exact ak (fun _=>trivial) (ak (fun _=>trivial) (ak (fun hp=>P37 (H ((aD hp).1)).1) (ak (fun hp=>P37 (H ((aD (aD hp).2).1)).2) (ak (fun hp=>Fa (H ((aD (aD (aD hp).2).2).1))) (ak (fun hp=>Fb (H ((aD (aD (aD (aD hp).2).2).2).1))) (ak (fun hp=>P38 (H ((aD (aD (aD (aD (aD hp).2).2).2).2).1))) (ak (fun _=>trivial) (bP))))))))
 . intro x hx0;have hx':=jG (v:=v) (by rfl) hx0
   rw [hx'];show Value.tuple #[.agg #[.int .i64 (v 86),.int .i64 (v 87),.int .i64 (v 88),.int .i64 (v 89)],.int .i64 (v 85)]=_
   have R:v 86=(mgV (v 0) (v 1) (v 2) (v 3) (v 4) (v 5) (v 6) (v 7)).getD 0 0/\v 87=(mgV (v 0) (v 1) (v 2) (v 3) (v 4) (v 5) (v 6) (v 7)).getD 1 0/\v 88=(mgV (v 0) (v 1) (v 2) (v 3) (v 4) (v 5) (v 6) (v 7)).getD 2 0/\v 89=(mgV (v 0) (v 1) (v 2) (v 3) (v 4) (v 5) (v 6) (v 7)).getD 3 0/\v 85=(mgV (v 0) (v 1) (v 2) (v 3) (v 4) (v 5) (v 6) (v 7)).getD 4 0:=by
    by_cases h1:MV (v 0) (v 1) (v 2) (v 3)
    . have q8:v 8=1:=by rw [e8,decide_eq_true h1];rfl
      by_cases h2:MV (v 4) (v 5) (v 6) (v 7)
      . have q10:v 10=1:=by rw [e10,decide_eq_true h2];rfl
        have V0:mgV (v 0) (v 1) (v 2) (v 3) (v 4) (v 5) (v 6) (v 7)=jnV (coS (paV (v 0) (v 1) (v 2) (v 3)) (paV (v 4) (v 5) (v 6) (v 7))):=if_pos ⟨h1,h2⟩
        have c38:∀ i,(coV (v 28) (v 29) (v 33) (v 34)).getD i 0=(coS (paV (v 0) (v 1) (v 2) (v 3)) (paV (v 4) (v 5) (v 6) (v 7))).getD i 0:=fun i=>by
         rw [e28,e29,e33,e34,e14,e15,e16,e17,e21,e22,e23,e24];rfl
        have s38:v 38=(coV (v 28) (v 29) (v 33) (v 34)).getD 0 0:=ag hs 38 rfl;have s39:v 39=(coV (v 28) (v 29) (v 33) (v 34)).getD 1 0:=ag hs 39 rfl;have s40:v 40=(coV (v 28) (v 29) (v 33) (v 34)).getD 2 0:=ag hs 40 rfl;have s41:v 41=(coV (v 28) (v 29) (v 33) (v 34)).getD 3 0:=ag hs 41 rfl;rw [c38] at s38 s39 s40 s41;have e44:v 44=b2i (decide (0<=v 40/\v 40<=v 41/\v 41<=200000)):=ag hs 44 rfl;rw [s40,s41] at e44;rw [V0];generalize coS (paV (v 0) (v 1) (v 2) (v 3)) (paV (v 4) (v 5) (v 6) (v 7))=s at *
        unfold jnV
        by_cases h3:0<=s.getD 2 0/\s.getD 2 0<=s.getD 3 0/\s.getD 3 0<=200000
        . rw [if_pos h3];rw [decide_eq_true h3] at e44;obtain ⟨r4,r0,r1,r2,r3⟩:=NB hs q8 q10 e44;have F:=Ck (s.getD 0 0) (s.getD 1 0) (s.getD 2 0) (s.getD 3 0) 0;rw [F.1,F.2.1,F.2.2.1,F.2.2.2.1,F.2.2.2.2];exact ⟨r0.trans s38,r1.trans s39,r2.trans s40,r3.trans s41,r4⟩
        . rw [if_neg h3];rw [decide_eq_false h3] at e44;obtain ⟨r4,r0,r1,r2,r3⟩:=Ps hs q8 q10 e44;exact ⟨r0,r1,r2,r3,r4⟩
      . have q10:v 10=0:=by rw [e10,decide_eq_false h2];rfl
        have V0:mgV (v 0) (v 1) (v 2) (v 3) (v 4) (v 5) (v 6) (v 7)=[0,0,0,0,1]:=if_neg fun q=>h2 q.2
        rw [V0];obtain ⟨r4,r0,r1,r2,r3⟩:=Ms hs q8 q10;exact ⟨r0,r1,r2,r3,r4⟩
    . have q8:v 8=0:=by rw [e8,decide_eq_false h1];rfl
      have V0:mgV (v 0) (v 1) (v 2) (v 3) (v 4) (v 5) (v 6) (v 7)=[0,0,0,0,1]:=if_neg fun q=>h1 q.1
      rw [V0];obtain ⟨r4,r0,r1,r2,r3⟩:=Pg hs q8;exact ⟨r0,r1,r2,r3,r4⟩
   have a0:v 0=a:=ag hs 0 rfl;have a1:v 1=b:=ag hs 1 rfl;have a2:v 2=c:=ag hs 2 rfl;have a3:v 3=d:=ag hs 3 rfl;have a4:v 4=p:=ag hs 4 rfl;have a5:v 5=q:=ag hs 5 rfl;have a6:v 6=g:=ag hs 6 rfl;have a7:v 7=h:=ag hs 7 rfl;rw [a0,a1,a2,a3,a4,a5,a6,a7] at R;rw [R.1,R.2.1,R.2.2.1,R.2.2.2.1,R.2.2.2.2]
def kMg (f:Nat):Bool:=f==47 || f==48
def QM:Nat->List Int->List Int
 | 47,[a,b,c,d,e,f,g,h]=>[(mgV a b c d e f g h).getD 0 0,(mgV a b c d e f g h).getD 1 0,(mgV a b c d e f g h).getD 2 0,(mgV a b c d e f g h).getD 3 0,(mgV a b c d e f g h).getD 4 0]
 | 48,[a,b,c,d,e,f,g,h]=>[(foV a b c d e f g h).getD 0 0,(foV a b c d e f g h).getD 1 0,(foV a b c d e f g h).getD 2 0,(foV a b c d e f g h).getD 3 0,(foV a b c d e f g h).getD 4 0]
 | _,_=>[]
def Qo:Nat->List Int->Prop
 | 47,[_,_,_,_,_,_,_,_]=>True
 | 48,[_,_,_,_,_,_,_,_]=>True
 | _,_=>False
def dN (args:List Int):Cx:=(cxD args).plus kMg QM Qo
theorem MZ (args:List Int):vE (dN args):=Ez (LM args) fun f h=>by
 unfold kMg;rcases h with h|rfl
 . simp;omega
 . rfl
def LP:Sx.Spec:=⟨26,47,[(true,[some .i64,some .i64,some .i64,some .i64]),(true,[some .i64,some .i64,some .i64,some .i64])],[(true,[some .i64,some .i64,some .i64,some .i64]),(false,[some .i64])]⟩
theorem Fj (args:List Int):az Try.prog (dN args) LP:=by
 refine Il rfl (ours _ _ _ Try.func26 rfl (by kernel_rfl)) fun xs hp w=>?_
 match xs,hp with
 | [a,b,c,d,e,f,g,h],hp=>exact KI a b c d e f g h w
def Lv (t:Tab):Nd->Option Rf
 | .app 20 0 []=>some (.c 1)
 | x=>Dh t x
theorem aT (args:List Int):jo (dN args) Lv:=by
 intro v t x r ht h;unfold Lv at h;split at h
 . cases h;rfl
 . exact oM (MZ args) v t x r ht h
