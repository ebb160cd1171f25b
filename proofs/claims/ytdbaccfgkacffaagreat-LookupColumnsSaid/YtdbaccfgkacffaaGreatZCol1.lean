/- Columns of tables: the tests of their entries, and of their lists, on both sides. -/
import Derived.Test.YtdbaccfgkacffaaGreatZLkP
import Derived.Test.YtdbaccfgkacffaaGreatZRw
import Derived.Deep.QuietTactic
import Derived.BigQuiet
import Derived.Deep.Light
set_option linter.unusedVariables false
set_option linter.unusedSimpArgs false
set_option maxRecDepth 100000
set_option maxHeartbeats 2000000
namespace Go.Proofs.YtdbaccfgkacffaaGreat
open Go.RowKit Alm Sx
def hOk (r:List Int):Bool:=decide (-5400000<=r.getD 0 0/\r.getD 0 0<=r.getD 1 0/\r.getD 1 0<=5400000)
def zOk (r:List Int):Bool:=decide (0<=r.getD 0 0/\r.getD 0 0<=21599999/\r.getD 0 0<=r.getD 1 0/\r.getD 1 0<=r.getD 0 0+21600000/\(r.getD 1 0-r.getD 0 0=21600000->r.getD 0 0=0))
theorem acX {x y z s t:Int} {P Q R:Prop} [Decidable P] [Decidable Q] [Decidable R] (hx:x=b2i (decide P)) (hy:y=b2i (decide Q)) (hs:s=if x≠0 then (1:Int) else y) (hz:z=b2i (decide R)) (ht:t=if s≠0 then (1:Int) else z):t=b2i (decide (P∨Q∨R)):=by
 rw [ht,hs,hx,hy,hz]
 by_cases p1:P<;>by_cases p2:Q<;>by_cases p3:R<;>simp [p1,p2,p3,b2i]
theorem BC {x y s:Int} {P Q:Prop} [Decidable P] [Decidable Q] (hx:x=b2i (decide P)) (hy:y=b2i (decide Q)) (hs:s=if x≠0 then y else (0:Int)):s=b2i (decide (P/\Q)):=by
 rw [hs,hx,hy]
 by_cases p1:P<;>by_cases p2:Q<;>simp [p1,p2,b2i]
def I5:List Nd:=[.arg 0,.arg 1,.bin .gtr .i64 0 1,.bin .lss .i64 0 (.c (-5400000)),.ite 2 (.c 1) 3,.bin .gtr .i64 1 (.c 5400000),.ite 4 (.c 1) 5]
def Sc:List Vc:=[]
theorem Vf:whole Tryz.prog [] 20 40 193 [(true,[some .i64,some .i64])]=some (.p (.c (.bool (.n 6))),⟨I5.reverse,Sc.reverse⟩):=by kernel_rfl
theorem Wh:wfN I5.reverse=true:=by kernel_rfl
theorem XV (a b:Int) (w:World):Calls Tryz.prog 193 #[.agg #[.int .i64 a,.int .i64 b]] w fun e w'=>e=.returned (.bool (!hOk [a,b]))/\Below w.heap.size w w':=by
 refine Sx.calls (X:=cxE [a,b]) dG (fun s hs=>by cases hs) Vf Wh (fun v hs=>?_) w
 have e0:v 0=a:=aa hs 0 rfl;have e1:v 1=b:=aa hs 1 rfl;have k:v 6=b2i (decide (v 0>v 1∨v 0 < -5400000∨v 1>5400000)):=acX (aa hs 2 rfl) (aa hs 3 rfl) (aa hs 4 rfl) (aa hs 5 rfl) (aa hs 6 rfl)
 have w:v 6=b2i (!hOk [a,b]):=by
  rw [k,e0,e1]
  congr 1
  unfold hOk;rw [Bool.eq_iff_iff];simp;omega
 refine ⟨aS ?_,?_⟩
 . exact aR
 . intro x hx0;have hx':=bE (v:=v) (by rfl) hx0
   rw [hx'];show Value.bool (decide (v 6≠0))=_;rw [w,dX]
def JI:List Nd:=[.arg 0,.arg 1,.bin .sub .i64 1 0,.bin .leq .i64 0 1,.bin .geq .i64 0 (.c (-1099511627776)),.bin .leq .i64 0 (.c 1099511627776),.ite 4 5 (.c 0),.ite 3 6 (.c 0),.bin .geq .i64 1 (.c (-1099511627776)),.bin .leq .i64 1 (.c 1099511627776),.ite 8 9 (.c 0),.ite 7 10 (.c 0),.ite 11 (.c 0) (.c 1),.bin .geq .i64 2 (.c 21600000),.bin .rem .i64 0 (.c 21600000),.bin .lss .i64 14 (.c 0),.bin .add .i64 14 (.c 21600000),.ite 15 (.c 0) (.c 1),.ite 15 16 14,.bin .add .i64 18 2,.ite 13 (.c 0) (.c 1),.ite 13 (.c 0) 18,.ite 13 (.c 21600000) 19,.ite 12 (.c 0) 21,.ite 12 (.c 0) 22,.bin .neq .i64 12 (.c 0),.bin .eql .i64 23 0,.bin .eql .i64 24 1,.ite 26 27 (.c 0),.ite 28 (.c 0) (.c 1),.ite 25 (.c 1) 29]
def SF:List Vc:=[]
theorem TJ:whole Tryz.prog [] 20 40 194 [(true,[some .i64,some .i64])]=some (.p (.c (.bool (.n 30))),⟨JI.reverse,SF.reverse⟩):=by kernel_rfl
theorem V7:wfN JI.reverse=true:=by kernel_rfl
theorem XE (a b:Int) (w:World):Calls Tryz.prog 194 #[.agg #[.int .i64 a,.int .i64 b]] w fun e w'=>e=.returned (.bool (!zOk [a,b]))/\Below w.heap.size w w':=by
 refine Sx.calls (X:=cxE [a,b]) dG (fun s hs=>by cases hs) TJ V7 (fun v hs=>?_) w
 have e0:v 0=a:=aa hs 0 rfl;have e1:v 1=b:=aa hs 1 rfl;have A:v 11=b2i (bf (v 0) (v 1)):=jZ (aa hs 3 rfl) (aa hs 4 rfl) (aa hs 5 rfl) (aa hs 6 rfl) (aa hs 7 rfl) (aa hs 8 rfl) (aa hs 9 rfl) (aa hs 10 rfl) (aa hs 11 rfl);have e12:v 12=if v 11≠0 then (0:Int) else (1:Int):=(aa hs 12 rfl)
 have e25:v 25=b2i (v 12 != (0:Int)):=(aa hs 25 rfl);have e30:v 30=if v 25≠0 then (1:Int) else v 29:=(aa hs 30 rfl)
 have w:v 30=b2i (!zOk [a,b]):=by
  by_cases hA:bf (v 0) (v 1)=true
  . have bd:=(aV _ _).1 hA;have w12:v 12=0:=by rw [e12,A,hA];rfl
    have w25:v 25=0:=by rw [e25,w12];rfl
    have w2:v 2=v 1-v 0:=by rw [show v 2=IntKind.i64.wrap (v 1-v 0) from aa hs 2 rfl,Go.IntWalk.i64_in _ (by omega)]
    have w18:v 18=v 0%21600000:=dK (by omega) (aa hs 14 rfl) (aa hs 15 rfl) (aa hs 16 rfl) (aa hs 18 rfl)
    have w19:v 19=v 18+v 2:=by rw [show v 19=IntKind.i64.wrap (v 18+v 2) from aa hs 19 rfl,Go.IntWalk.i64_in _ (by omega)]
    have w21:v 21=if v 2>=21600000 then (0:Int) else v 18:=kif (aa hs 13 rfl) (aa hs 21 rfl)
    have w22:v 22=if v 2>=21600000 then (21600000:Int) else v 19:=kif (aa hs 13 rfl) (aa hs 22 rfl)
    have w23:v 23=v 21:=by rw [show v 23=if v 12≠0 then (0:Int) else v 21 from aa hs 23 rfl,w12];rfl
    have w24:v 24=v 22:=by rw [show v 24=if v 12≠0 then (0:Int) else v 22 from aa hs 24 rfl,w12];rfl
    have w28:v 28=b2i (decide (v 23=v 0/\v 24=v 1)):=BC (aa hs 26 rfl) (aa hs 27 rfl) (aa hs 28 rfl);have w29:v 29=if v 28≠0 then (0:Int) else (1:Int):=(aa hs 29 rfl)
    have z:zOk [a,b]=decide (v 23=v 0/\v 24=v 1):=by
     unfold zOk;rw [Bool.eq_iff_iff,decide_eq_true_iff,decide_eq_true_iff,<-e0,<-e1];show (0<=v 0/\v 0<=21599999/\v 0<=v 1/\v 1<=v 0+21600000/\(v 1-v 0=21600000->v 0=0))↔_;rw [w23,w24,w21,w22,w19,w18,w2];split<;>omega
    rw [e30,w25,w29,w28,z];cases decide (v 23=v 0/\v 24=v 1)<;>rfl
  . have hB:bf (v 0) (v 1)=false:=by simpa using hA
    have w12:v 12=1:=by rw [e12,A,hB];rfl
    have w25:v 25=1:=by rw [e25,w12];rfl
    have z:zOk [a,b]=false:=by
     unfold zOk;rw [decide_eq_false_iff_not,<-e0,<-e1];show ¬ (0<=v 0/\v 0<=21599999/\v 0<=v 1/\v 1<=v 0+21600000/\(v 1-v 0=21600000->v 0=0));intro h;rw [(aV _ _).2 (by omega)] at hB
     cases hB
    rw [e30,w25,z];rfl
 refine ⟨aS ?_,?_⟩
 . exact aR
 . intro x hx0;have hx':=bE (v:=v) (by rfl) hx0
   rw [hx'];show Value.bool (decide (v 30≠0))=_;rw [w,dX]
def JH:List Nd:=[.arg 0,.bin .geq .i64 0 (.c (-90)),.bin .leq .i64 0 (.c 90),.ite 1 2 (.c 0)]
def Uo:List Vc:=[]
theorem Vg:whole Tryz.prog [] 20 40 191 [(false,[some .i64])]=some (.p (.c (.bool (.n 3))),⟨JH.reverse,Uo.reverse⟩):=by kernel_rfl
theorem R8:wfN JH.reverse=true:=by kernel_rfl
theorem ET (a:Int) (w:World):Calls Tryz.prog 191 #[.int .i64 a] w fun e w'=>e=.returned (.bool (decide (-90<=a/\a<=90)))/\Below w.heap.size w w':=by
 refine Sx.calls (X:=cxE [a]) dG (fun s hs=>by cases hs) Vg R8 (fun v hs=>?_) w
 have e0:v 0=a:=aa hs 0 rfl
 have w:v 3=b2i (decide (-90<=a/\a<=90)):=by
  rw [<-e0];exact BC (P:=-90<=v 0) (Q:=v 0<=90) (aa hs 1 rfl) (aa hs 2 rfl) (aa hs 3 rfl)
 refine ⟨aS ?_,?_⟩
 . exact aR
 . intro x hx0;have hx':=bE (v:=v) (by rfl) hx0
   rw [hx'];show Value.bool (decide (v 3≠0))=_;rw [w,dX]
def H6:List Nd:=[.arg 0,.bin .geq .i64 0 (.c (-90)),.bin .leq .i64 0 (.c 90),.ite 1 2 (.c 0)]
def Wi:List Vc:=[]
theorem UZ:whole Tryz.prog [] 20 40 195 [(false,[some .i64])]=some (.p (.c (.bool (.n 3))),⟨H6.reverse,Wi.reverse⟩):=by kernel_rfl
theorem UE:wfN H6.reverse=true:=by kernel_rfl
theorem Ce (a:Int) (w:World):Calls Tryz.prog 195 #[.int .i64 a] w fun e w'=>e=.returned (.bool (decide (-90<=a/\a<=90)))/\Below w.heap.size w w':=by
 refine Sx.calls (X:=cxE [a]) dG (fun s hs=>by cases hs) UZ UE (fun v hs=>?_) w
 have e0:v 0=a:=aa hs 0 rfl
 have w:v 3=b2i (decide (-90<=a/\a<=90)):=by
  rw [<-e0];exact BC (P:=-90<=v 0) (Q:=v 0<=90) (aa hs 1 rfl) (aa hs 2 rfl) (aa hs 3 rfl)
 refine ⟨aS ?_,?_⟩
 . exact aR
 . intro x hx0;have hx':=bE (v:=v) (by rfl) hx0
   rw [hx'];show Value.bool (decide (v 3≠0))=_;rw [w,dX]
def JQ:List Nd:=[.arg 0,.bin .geq .i64 0 (.c 0),.bin .leq .i64 0 (.c 10800000),.ite 1 2 (.c 0)]
def TC:List Vc:=[]
theorem VP:whole Tryz.prog [] 20 40 196 [(false,[some .i64])]=some (.p (.c (.bool (.n 3))),⟨JQ.reverse,TC.reverse⟩):=by kernel_rfl
theorem TG:wfN JQ.reverse=true:=by kernel_rfl
theorem Cc (a:Int) (w:World):Calls Tryz.prog 196 #[.int .i64 a] w fun e w'=>e=.returned (.bool (decide (0<=a/\a<=10800000)))/\Below w.heap.size w w':=by
 refine Sx.calls (X:=cxE [a]) dG (fun s hs=>by cases hs) VP TG (fun v hs=>?_) w
 have e0:v 0=a:=aa hs 0 rfl
 have w:v 3=b2i (decide (0<=a/\a<=10800000)):=by
  rw [<-e0];exact BC (P:=0<=v 0) (Q:=v 0<=10800000) (aa hs 1 rfl) (aa hs 2 rfl) (aa hs 3 rfl)
 refine ⟨aS ?_,?_⟩
 . exact aR
 . intro x hx0;have hx':=bE (v:=v) (by rfl) hx0
   rw [hx'];show Value.bool (decide (v 3≠0))=_;rw [w,dX]
def Hu:List Nd:=[.arg 0,.arg 1,.bin .geq .i64 0 (.c (-5400000)),.bin .leq .i64 0 1,.ite 2 3 (.c 0),.bin .leq .i64 1 (.c 5400000),.ite 4 5 (.c 0)]
def Sb:List Vc:=[]
theorem UG:whole Tryz.prog [] 20 40 197 [(true,[some .i64,some .i64])]=some (.p (.c (.bool (.n 6))),⟨Hu.reverse,Sb.reverse⟩):=by kernel_rfl
theorem Wm:wfN Hu.reverse=true:=by kernel_rfl
theorem VU (a b:Int) (w:World):Calls Tryz.prog 197 #[.agg #[.int .i64 a,.int .i64 b]] w fun e w'=>e=.returned (.bool (hOk [a,b]))/\Below w.heap.size w w':=by
 refine Sx.calls (X:=cxE [a,b]) dG (fun s hs=>by cases hs) UG Wm (fun v hs=>?_) w
 have e0:v 0=a:=aa hs 0 rfl;have e1:v 1=b:=aa hs 1 rfl;have k:v 6=b2i (decide (-5400000<=v 0/\v 0<=v 1/\v 1<=5400000)):=kH (aa hs 2 rfl) (aa hs 3 rfl) (aa hs 5 rfl) (aa hs 4 rfl) (aa hs 6 rfl)
 have w:v 6=b2i (hOk [a,b]):=by
  rw [k,e0,e1];rfl
 refine ⟨aS ?_,?_⟩
 . exact aR
 . intro x hx0;have hx':=bE (v:=v) (by rfl) hx0
   rw [hx'];show Value.bool (decide (v 6≠0))=_;rw [w,dX]
def I6:List Nd:=[.arg 0,.arg 1,.bin .leq .i64 0 1,.bin .geq .i64 0 (.c (-1099511627776)),.ite 2 3 (.c 0),.bin .leq .i64 1 (.c 1099511627776),.ite 4 5 (.c 0),.bin .sub .i64 1 0,.bin .geq .i64 7 (.c 21600000),.ite 8 (.c 0) (.c 1),.bin .rem .i64 0 (.c 21600000),.bin .lss .i64 10 (.c 0),.bin .add .i64 10 (.c 21600000),.ite 11 (.c 0) (.c 1),.ite 11 12 10,.bin .add .i64 14 7,.ite 8 (.c 0) 14,.ite 8 (.c 21600000) 15,.bin .eql .i64 16 0,.bin .eql .i64 17 1,.ite 18 19 (.c 0),.ite 6 20 (.c 0)]
def Vh:List Vc:=[]
theorem Uq:whole Tryz.prog [] 20 40 198 [(true,[some .i64,some .i64])]=some (.p (.c (.bool (.n 21))),⟨I6.reverse,Vh.reverse⟩):=by kernel_rfl
theorem TR:wfN I6.reverse=true:=by kernel_rfl
theorem RB (a b:Int) (w:World):Calls Tryz.prog 198 #[.agg #[.int .i64 a,.int .i64 b]] w fun e w'=>e=.returned (.bool (zOk [a,b]))/\Below w.heap.size w w':=by
 refine Sx.calls (X:=cxE [a,b]) dG (fun s hs=>by cases hs) Uq TR (fun v hs=>?_) w
 have e0:v 0=a:=aa hs 0 rfl;have e1:v 1=b:=aa hs 1 rfl;have A:v 6=b2i (decide (v 0<=v 1/\v 0>=(-1099511627776:Int)/\v 1<=(1099511627776:Int))):=kH (aa hs 2 rfl) (aa hs 3 rfl) (aa hs 5 rfl) (aa hs 4 rfl) (aa hs 6 rfl);have e21:v 21=if v 6≠0 then v 20 else (0:Int):=(aa hs 21 rfl)
 have w:v 21=b2i (zOk [a,b]):=by
  by_cases bd:v 0<=v 1/\v 0>=(-1099511627776:Int)/\v 1<=(1099511627776:Int)
  . rw [decide_eq_true bd] at A;have w7:v 7=v 1-v 0:=by rw [show v 7=IntKind.i64.wrap (v 1-v 0) from aa hs 7 rfl,Go.IntWalk.i64_in _ (by omega)]
    have w14:v 14=v 0%21600000:=dK (by omega) (aa hs 10 rfl) (aa hs 11 rfl) (aa hs 12 rfl) (aa hs 14 rfl)
    have w15:v 15=v 14+v 7:=by rw [show v 15=IntKind.i64.wrap (v 14+v 7) from aa hs 15 rfl,Go.IntWalk.i64_in _ (by omega)]
    have w16:v 16=if v 7>=21600000 then (0:Int) else v 14:=kif (aa hs 8 rfl) (aa hs 16 rfl)
    have w17:v 17=if v 7>=21600000 then (21600000:Int) else v 15:=kif (aa hs 8 rfl) (aa hs 17 rfl)
    have w20:v 20=b2i (decide (v 16=v 0/\v 17=v 1)):=BC (aa hs 18 rfl) (aa hs 19 rfl) (aa hs 20 rfl)
    have z:zOk [a,b]=decide (v 16=v 0/\v 17=v 1):=by
     unfold zOk;rw [Bool.eq_iff_iff,decide_eq_true_iff,decide_eq_true_iff,<-e0,<-e1];show (0<=v 0/\v 0<=21599999/\v 0<=v 1/\v 1<=v 0+21600000/\(v 1-v 0=21600000->v 0=0))↔_;rw [w16,w17,w15,w14,w7];split<;>omega
    rw [e21,A,w20,z];rfl
  . rw [decide_eq_false bd] at A
    have z:zOk [a,b]=false:=by
     unfold zOk;rw [decide_eq_false_iff_not,<-e0,<-e1];show ¬ (0<=v 0/\v 0<=21599999/\v 0<=v 1/\v 1<=v 0+21600000/\(v 1-v 0=21600000->v 0=0));omega
    rw [e21,A,z];rfl
 refine ⟨aS ?_,?_⟩
 . exact aR
 . intro x hx0;have hx':=bE (v:=v) (by rfl) hx0
   rw [hx'];show Value.bool (decide (v 21≠0))=_;rw [w,dX]
def Ip:List Nd:=[.arg 0,.arg 1,.bin .leq .i64 0 1,.bin .geq .i64 0 (.c (-1099511627776)),.bin .leq .i64 0 (.c 1099511627776),.ite 3 4 (.c 0),.ite 2 5 (.c 0),.bin .geq .i64 1 (.c (-1099511627776)),.bin .leq .i64 1 (.c 1099511627776),.ite 7 8 (.c 0),.ite 6 9 (.c 0)]
def Tk:List Vc:=[]
theorem UY:whole Tryz.prog [] 20 40 63 [(true,[some .i64,some .i64])]=some (.p (.c (.bool (.n 10))),⟨Ip.reverse,Tk.reverse⟩):=by kernel_rfl
theorem Vr:wfN Ip.reverse=true:=by kernel_rfl
theorem BQ (a b:Int) (w:World):Calls Tryz.prog 63 #[.agg #[.int .i64 a,.int .i64 b]] w fun e w'=>e=.returned (.bool (bf a b))/\Below w.heap.size w w':=by
 refine Sx.calls (X:=cxE [a,b]) dG (fun s hs=>by cases hs) UY Vr (fun v hs=>?_) w
 have e0:v 0=a:=aa hs 0 rfl;have e1:v 1=b:=aa hs 1 rfl
 have w:v 10=b2i (bf a b):=by
  rw [<-e0,<-e1];exact jZ (aa hs 2 rfl) (aa hs 3 rfl) (aa hs 4 rfl) (aa hs 5 rfl) (aa hs 6 rfl) (aa hs 7 rfl) (aa hs 8 rfl) (aa hs 9 rfl) (aa hs 10 rfl)
 refine ⟨aS ?_,?_⟩
 . exact aR
 . intro x hx0;have hx':=bE (v:=v) (by rfl) hx0
   rw [hx'];show Value.bool (decide (v 10≠0))=_;rw [w,dX]
def Iq:List Nd:=[.arg 0,.arg 1,.bin .leq .i64 0 1,.bin .geq .i64 0 (.c (-1099511627776)),.ite 2 3 (.c 0),.bin .leq .i64 1 (.c 1099511627776),.ite 4 5 (.c 0)]
def Tm:List Vc:=[]
theorem TK:whole Tryz.prog [] 20 40 52 [(true,[some .i64,some .i64])]=some (.p (.c (.bool (.n 6))),⟨Iq.reverse,Tm.reverse⟩):=by kernel_rfl
theorem Uf:wfN Iq.reverse=true:=by kernel_rfl
theorem Jn (a b:Int) (w:World):Calls Tryz.prog 52 #[.agg #[.int .i64 a,.int .i64 b]] w fun e w'=>e=.returned (.bool (bf a b))/\Below w.heap.size w w':=by
 refine Sx.calls (X:=cxE [a,b]) dG (fun s hs=>by cases hs) TK Uf (fun v hs=>?_) w
 have e0:v 0=a:=aa hs 0 rfl;have e1:v 1=b:=aa hs 1 rfl;have k:v 6=b2i (decide (v 0<=v 1/\v 0>=(-1099511627776:Int)/\v 1<=(1099511627776:Int))):=kH (aa hs 2 rfl) (aa hs 3 rfl) (aa hs 5 rfl) (aa hs 4 rfl) (aa hs 6 rfl)
 have w:v 6=b2i (bf a b):=by
  rw [k,e0,e1]
  congr 1
  rw [Bool.eq_iff_iff,decide_eq_true_iff,aV];omega
 refine ⟨aS ?_,?_⟩
 . exact aR
 . intro x hx0;have hx':=bE (v:=v) (by rfl) hx0
   rw [hx'];show Value.bool (decide (v 6≠0))=_;rw [w,dX]
def Jv:List Nd:=[.arg 0,.arg 1,.arg 2,.arg 3,.bin .quo .i64 0 (.c 60000),.bin .rem .i64 0 (.c 60000),.bin .lss .i64 5 (.c 0),.bin .sub .i64 4 (.c 1),.ite 6 (.c 0) (.c 1),.ite 6 7 4,.mn 9 3,.bin .mul .i64 10 (.c 60000),.bin .sub .i64 0 11,.bin .sub .i64 1 11,.bin .geq .i64 10 2,.bin .geq .i64 12 (.c 0),.ite 14 15 (.c 0),.bin .leq .i64 13 (.c 60000),.ite 16 17 (.c 0)]
def Ub:List Vc:=[]
theorem TU:whole Tryz.prog [] 20 40 44 [(true,[some .i64,some .i64]),(false,[some .i64]),(false,[some .i64])]=some (.tup [.c (.int .i64 (.n 10)),.agg [.int .i64 (.n 12),.int .i64 (.n 13)],.c (.bool (.n 18))],⟨Jv.reverse,Ub.reverse⟩):=by kernel_rfl
theorem Uu:wfN Jv.reverse=true:=by kernel_rfl
theorem XB (a b lo hi:Int) (w:World) (h1:-1000000000000<=a/\a<=1000000000000) (h2:-1000000000000<=b/\b<=1000000000000) (h4:-1000<=hi/\hi<=1000):Calls Tryz.prog 44 #[.agg #[.int .i64 a,.int .i64 b],.int .i64 lo,.int .i64 hi] w fun e w'=>e=.returned (.tuple #[.int .i64 (min (a/60000) hi),.agg #[.int .i64 (a-min (a/60000) hi*60000),.int .i64 (b-min (a/60000) hi*60000)],.bool (decide (lo<=min (a/60000) hi/\0<=a-min (a/60000) hi*60000/\b-min (a/60000) hi*60000<=60000))])/\Below w.heap.size w w':=by
 refine Sx.calls (X:=cxE [a,b,lo,hi]) dG (fun s hs=>by cases hs) TU Uu (fun v hs=>?_) w
 have e0:v 0=a:=aa hs 0 rfl;have e1:v 1=b:=aa hs 1 rfl;have e2:v 2=lo:=aa hs 2 rfl;have e3:v 3=hi:=aa hs 3 rfl;have w9:v 9=a/60000:=by rw [<-e0];exact bW (x:=v 0) (m:=60000) (by omega) (by omega) (aa hs 4 rfl) (aa hs 5 rfl) (aa hs 6 rfl) (aa hs 7 rfl) (aa hs 9 rfl)
 have w10:v 10=min (a/60000) hi:=by rw [<-w9,<-e3];exact iK (aa hs 10 rfl)
 have kb:-100000000<=min (a/60000) hi/\min (a/60000) hi<=100000000:=by omega
 generalize min (a/60000) hi=k at *
 have w11:v 11=k*60000:=by rw [show v 11=IntKind.i64.wrap (v 10*(60000:Int)) from (aa hs 11 rfl),w10,Go.IntWalk.i64_in _ (by omega)]
 have w12:v 12=a-k*60000:=by rw [show v 12=IntKind.i64.wrap (v 0-v 11) from (aa hs 12 rfl),w11,e0,Go.IntWalk.i64_in _ (by omega)]
 have w13:v 13=b-k*60000:=by rw [show v 13=IntKind.i64.wrap (v 1-v 11) from (aa hs 13 rfl),w11,e1,Go.IntWalk.i64_in _ (by omega)]
 have w18:v 18=b2i (decide (lo<=k/\0<=a-k*60000/\b-k*60000<=60000)):=kH (a:=v 14) (b:=v 15) (e:=v 17) (q:=v 16) (by rw [show v 14=b2i (decide (v 10>=v 2)) from (aa hs 14 rfl),w10,e2]) (by rw [show v 15=b2i (decide (v 12>=(0:Int))) from (aa hs 15 rfl),w12]) (by rw [show v 17=b2i (decide (v 13<=(60000:Int))) from (aa hs 17 rfl),w13]) (aa hs 16 rfl) (aa hs 18 rfl)
 refine ⟨aS ?_,?_⟩
 . exact aR
 . intro x hx0;have hx':=bE (v:=v) (by rfl) hx0
   rw [hx'];show Value.tuple #[.int .i64 (v 10),.agg #[.int .i64 (v 12),.int .i64 (v 13)],.bool (decide (v 18≠0))]=_;rw [w10,w12,w13,w18,dX]
theorem UR (a:Option Addr) (cap:Nat) (L:Cs) (w:World) (hL:SlI 2 w a L) (hn:L.length<=1000) :
 Calls Tryz.prog 266 #[.slice a L.length cap,.func (.func 193) #[] #[]] w fun e w'=>(∃ r:Int,e=.returned (.int .i64 r)/\-1<=r/\(0<=r↔L.all hOk=false))/\Below w.heap.size w w':=by
 have HL:=Lib.hid hL;clear hL;obtain ⟨A,hA⟩:∃ A,L.all hOk=A:=⟨_,rfl⟩;rw [hA];have HAA:=Lib.hid hA;clear hA
 skip
 go_enter Tryz.func266,Tryz.ntmps266;go_wp2;go_loopw [8] (fun v wr=>∃ i:Nat,v=.int .i64 (i:Int)/\i<=L.length/\(∀ j (h:j<L.length),j<i->hOk L[j]=true)/\Below w.heap.size w wr) (fun v _=>((L.length:Int)-intOf v).toNat)
 case atStart =>
  exact ⟨0,rfl,by omega,fun j h hj=>by omega,Below.refl _ _⟩
 case round =>
  obtain ⟨i,rfl,hi,hs,hb⟩:=hrel;have HB:=Lib.hid hb;clear hb
  by_cases hl:i<L.length
  . have hLw:=HL.out.below HB.out;rcases hLw with h0|⟨b,off,rfl,hR⟩
    . rw [h0] at hl;simp at hl
    . obtain ⟨x,y,hx,c0,c1⟩:=hR.at2 i hl;have hS:=Lib.hid hs;clear hs;have C:=Lib.hid (fun w=>XV x y w)
      have hl':(i:Int)<(L.length:Int):=by omega
      have FIN:Hid (hOk L[i]=true->∀ j (h:j<L.length),j<i+1->hOk L[j]=true):=by
       intro h j hj hji
       by_cases e:j<i
       . exact hS.out j hj e
       . obtain rfl:j=i:=by omega
         exact h
      have FIN2:Hid (hOk L[i]=false->A=false):=by
       intro h;rw [<-HAA.out];cases hA:L.all hOk
       . rfl
       . rw [List.all_eq_true] at hA;have:=hA _ (List.getElem_mem hl);rw [h] at this;cases this
      rw [hx] at FIN FIN2;cases hsm:hOk [x,y]
      . rw [hsm] at C FIN2;go_wp2_with fail;refine (C.out _).mono ?_;rintro e w1 ⟨rfl,hb1⟩;have HB1:Hid (Below w.heap.size w w1):=HB.out.trans (hb1.mono HB.out.size);clear hb1 c0 c1 hR HL HB C FIN hS;go_wp2;go_ret;exact ⟨⟨_,rfl,by omega,⟨fun _=>FIN2.out trivial,fun _=>by omega⟩⟩,HB1.out⟩
      . rw [hsm] at C FIN;go_wp2_with fail;refine (C.out _).mono ?_;rintro e w1 ⟨rfl,hb1⟩;have HB1:Hid (Below w.heap.size w w1):=HB.out.trans (hb1.mono HB.out.size);clear hb1 c0 c1 hR HL HB C FIN2 hS;go_wp2;go_light;exact ⟨⟨i+1,by rw [show ((i+1:Nat):Int)=(i:Int)+1 by omega],by omega,FIN.out trivial,HB1.out⟩,by simp only [intOf];omega⟩
  . have hl':¬ (i:Int)<(L.length:Int):=by omega
    have hA:L.all hOk=true:=by
     rw [List.all_eq_true];intro x hx;obtain ⟨j,hj,rfl⟩:=List.getElem_of_mem hx;exact hs j hj (by omega)
    have HA:=Lib.hid (show A=true from by rw [<-HAA.out];exact hA)
    clear hs hl hi hA;go_wp2;go_ret;exact ⟨⟨_,rfl,by omega,⟨fun h=>by omega,fun h=>by rw [HA.out] at h;cases h⟩⟩,HB.out⟩
theorem VX (a:Option Addr) (cap:Nat) (L:Cs) (w:World) (hL:SlI 2 w a L) (hn:L.length<=1000) :
 Calls Tryz.prog 192 #[.slice a L.length cap,.func (.func 193) #[] #[]] w fun e w'=>e=.returned (.bool (!L.all hOk))/\Below w.heap.size w w':=by
 have C:=Lib.hid (UR a cap L w hL hn );clear hL;go_enter Tryz.func192,Tryz.ntmps192;go_wp2_with fail;refine C.out.mono ?_;rintro e w1 ⟨⟨r,rfl,hr0,hr⟩,hb⟩;have HB:=Lib.hid hb;clear hb
 have HR:Hid ((!L.all hOk)=decide (0<=r)):=by
  cases hA:L.all hOk
  . rw [decide_eq_true (hr.2 hA)];rfl
  . rw [decide_eq_false (fun h=>by have:=hr.1 h;rw [hA] at this;cases this)];rfl
 clear hr C;go_wp2;go_ret;exact ⟨by rw [HR.out];rfl,HB.out⟩
theorem TP (a:Option Addr) (cap:Nat) (L:Cs) (w:World) (hL:SlI 2 w a L) (hn:L.length<=1000) :
 Calls Tryz.prog 266 #[.slice a L.length cap,.func (.func 194) #[] #[]] w fun e w'=>(∃ r:Int,e=.returned (.int .i64 r)/\-1<=r/\(0<=r↔L.all zOk=false))/\Below w.heap.size w w':=by
 have HL:=Lib.hid hL;clear hL;obtain ⟨A,hA⟩:∃ A,L.all zOk=A:=⟨_,rfl⟩;rw [hA];have HAA:=Lib.hid hA;clear hA
 skip
 go_enter Tryz.func266,Tryz.ntmps266;go_wp2;go_loopw [8] (fun v wr=>∃ i:Nat,v=.int .i64 (i:Int)/\i<=L.length/\(∀ j (h:j<L.length),j<i->zOk L[j]=true)/\Below w.heap.size w wr) (fun v _=>((L.length:Int)-intOf v).toNat)
 case atStart =>
  exact ⟨0,rfl,by omega,fun j h hj=>by omega,Below.refl _ _⟩
 case round =>
  obtain ⟨i,rfl,hi,hs,hb⟩:=hrel;have HB:=Lib.hid hb;clear hb
  by_cases hl:i<L.length
  . have hLw:=HL.out.below HB.out;rcases hLw with h0|⟨b,off,rfl,hR⟩
    . rw [h0] at hl;simp at hl
    . obtain ⟨x,y,hx,c0,c1⟩:=hR.at2 i hl;have hS:=Lib.hid hs;clear hs;have C:=Lib.hid (fun w=>XE x y w)
      have hl':(i:Int)<(L.length:Int):=by omega
      have FIN:Hid (zOk L[i]=true->∀ j (h:j<L.length),j<i+1->zOk L[j]=true):=by
       intro h j hj hji
       by_cases e:j<i
       . exact hS.out j hj e
       . obtain rfl:j=i:=by omega
         exact h
      have FIN2:Hid (zOk L[i]=false->A=false):=by
       intro h;rw [<-HAA.out];cases hA:L.all zOk
       . rfl
       . rw [List.all_eq_true] at hA;have:=hA _ (List.getElem_mem hl);rw [h] at this;cases this
      rw [hx] at FIN FIN2;cases hsm:zOk [x,y]
      . rw [hsm] at C FIN2;go_wp2_with fail;refine (C.out _).mono ?_;rintro e w1 ⟨rfl,hb1⟩;have HB1:Hid (Below w.heap.size w w1):=HB.out.trans (hb1.mono HB.out.size);clear hb1 c0 c1 hR HL HB C FIN hS;go_wp2;go_ret;exact ⟨⟨_,rfl,by omega,⟨fun _=>FIN2.out trivial,fun _=>by omega⟩⟩,HB1.out⟩
      . rw [hsm] at C FIN;go_wp2_with fail;refine (C.out _).mono ?_;rintro e w1 ⟨rfl,hb1⟩;have HB1:Hid (Below w.heap.size w w1):=HB.out.trans (hb1.mono HB.out.size);clear hb1 c0 c1 hR HL HB C FIN2 hS;go_wp2;go_light;exact ⟨⟨i+1,by rw [show ((i+1:Nat):Int)=(i:Int)+1 by omega],by omega,FIN.out trivial,HB1.out⟩,by simp only [intOf];omega⟩
  . have hl':¬ (i:Int)<(L.length:Int):=by omega
    have hA:L.all zOk=true:=by
     rw [List.all_eq_true];intro x hx;obtain ⟨j,hj,rfl⟩:=List.getElem_of_mem hx;exact hs j hj (by omega)
    have HA:=Lib.hid (show A=true from by rw [<-HAA.out];exact hA)
    clear hs hl hi hA;go_wp2;go_ret;exact ⟨⟨_,rfl,by omega,⟨fun h=>by omega,fun h=>by rw [HA.out] at h;cases h⟩⟩,HB.out⟩
theorem Tj (a:Option Addr) (cap:Nat) (L:Cs) (w:World) (hL:SlI 2 w a L) (hn:L.length<=1000) :
 Calls Tryz.prog 192 #[.slice a L.length cap,.func (.func 194) #[] #[]] w fun e w'=>e=.returned (.bool (!L.all zOk))/\Below w.heap.size w w':=by
 have C:=Lib.hid (TP a cap L w hL hn );clear hL;go_enter Tryz.func192,Tryz.ntmps192;go_wp2_with fail;refine C.out.mono ?_;rintro e w1 ⟨⟨r,rfl,hr0,hr⟩,hb⟩;have HB:=Lib.hid hb;clear hb
 have HR:Hid ((!L.all zOk)=decide (0<=r)):=by
  cases hA:L.all zOk
  . rw [decide_eq_true (hr.2 hA)];rfl
  . rw [decide_eq_false (fun h=>by have:=hr.1 h;rw [hA] at this;cases this)];rfl
 clear hr C;go_wp2;go_ret;exact ⟨by rw [HR.out];rfl,HB.out⟩
