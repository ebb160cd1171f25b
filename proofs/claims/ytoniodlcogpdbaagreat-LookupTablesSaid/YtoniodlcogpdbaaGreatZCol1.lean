/- Columns of tables: the tests of their entries, and of their lists, on both sides. -/
import Derived.Test.YtoniodlcogpdbaaGreatZLkP
import Derived.Test.YtoniodlcogpdbaaGreatZRw
import Derived.Deep.QuietTactic
import Derived.BigQuiet
import Derived.Deep.Light
set_option linter.unusedVariables false
set_option linter.unusedSimpArgs false
set_option maxRecDepth 100000
set_option maxHeartbeats 2000000
namespace Go.Proofs.YtoniodlcogpdbaaGreat
open Go.RowKit Alm Sx
def hOk (r:List Int):Bool:=decide (-5400000<=r.getD 0 0/\r.getD 0 0<=r.getD 1 0/\r.getD 1 0<=5400000)
def zOk (r:List Int):Bool:=decide (0<=r.getD 0 0/\r.getD 0 0<=21599999/\r.getD 0 0<=r.getD 1 0/\r.getD 1 0<=r.getD 0 0+21600000/\(r.getD 1 0-r.getD 0 0=21600000->r.getD 0 0=0))
theorem adM {x y z s t:Int} {P Q R:Prop} [Decidable P] [Decidable Q] [Decidable R] (hx:x=b2i (decide P)) (hy:y=b2i (decide Q)) (hs:s=if x≠0 then (1:Int) else y) (hz:z=b2i (decide R)) (ht:t=if s≠0 then (1:Int) else z):t=b2i (decide (P∨Q∨R)):=by
 rw [ht,hs,hx,hy,hz]
 by_cases p1:P<;>by_cases p2:Q<;>by_cases p3:R<;>simp [p1,p2,p3,b2i]
theorem WH {x y s:Int} {P Q:Prop} [Decidable P] [Decidable Q] (hx:x=b2i (decide P)) (hy:y=b2i (decide Q)) (hs:s=if x≠0 then y else (0:Int)):s=b2i (decide (P/\Q)):=by
 rw [hs,hx,hy]
 by_cases p1:P<;>by_cases p2:Q<;>simp [p1,p2,b2i]
def IQ:List Nd:=[
 .arg 0,
 .arg 1,
 .bin .gtr .i64 (.n 0) (.n 1),
 .bin .lss .i64 (.n 0) (.c (-5400000)),
 .ite (.n 2) (.c 1) (.n 3),
 .bin .gtr .i64 (.n 1) (.c 5400000),
 .ite (.n 4) (.c 1) (.n 5)]
def SK:List Vc:=[
 ]
theorem UV:whole Tryz.prog [] 20 40 37 [(true,[some .i64,some .i64])]=some (.p (.c (.bool (.n 6))),⟨IQ.reverse,SK.reverse⟩):=by kernel_rfl
theorem TK:wfN IQ.reverse=true:=by kernel_rfl
theorem Xk (a b:Int) (w:World):Calls Tryz.prog 37 #[.agg #[.int .i64 a,.int .i64 b]] w fun e w'=>e=.returned (.bool (!hOk [a,b]))/\Below w.heap.size w w':=by
 refine Sx.calls (X:=cxE [a,b]) dP (fun s hs=>by cases hs) UV TK (fun v hs=>?_) w
 have e0:v 0=a:=aa hs 0 rfl;have e1:v 1=b:=aa hs 1 rfl;have k:v 6=b2i (decide (v 0>v 1∨v 0 < -5400000∨v 1>5400000)):=adM (aa hs 2 rfl) (aa hs 3 rfl) (aa hs 4 rfl) (aa hs 5 rfl) (aa hs 6 rfl)
 have w:v 6=b2i (!hOk [a,b]):=by
  rw [k,e0,e1]
  congr 1
  unfold hOk;rw [Bool.eq_iff_iff];simp;omega
 refine ⟨bB ?_,?_⟩
 . exact bu
 . intro x hx0;have hx':=bM (v:=v) (by rfl) hx0
   rw [hx'];show Value.bool (decide (v 6≠0))=_;rw [w,gH]
def JC:List Nd:=[
 .arg 0,
 .arg 1,
 .bin .sub .i64 (.n 1) (.n 0),
 .bin .leq .i64 (.n 0) (.n 1),
 .bin .geq .i64 (.n 0) (.c (-1099511627776)),
 .bin .leq .i64 (.n 0) (.c 1099511627776),
 .ite (.n 4) (.n 5) (.c 0),
 .ite (.n 3) (.n 6) (.c 0),
 .bin .geq .i64 (.n 1) (.c (-1099511627776)),
 .bin .leq .i64 (.n 1) (.c 1099511627776),
 .ite (.n 8) (.n 9) (.c 0),
 .ite (.n 7) (.n 10) (.c 0),
 .ite (.n 11) (.c 0) (.c 1),
 .bin .geq .i64 (.n 2) (.c 21600000),
 .bin .rem .i64 (.n 0) (.c 21600000),
 .bin .lss .i64 (.n 14) (.c 0),
 .bin .add .i64 (.n 14) (.c 21600000),
 .ite (.n 15) (.c 0) (.c 1),
 .ite (.n 15) (.n 16) (.n 14),
 .bin .add .i64 (.n 18) (.n 2),
 .ite (.n 13) (.c 0) (.c 1),
 .ite (.n 13) (.c 0) (.n 18),
 .ite (.n 13) (.c 21600000) (.n 19),
 .ite (.n 12) (.c 0) (.n 21),
 .ite (.n 12) (.c 0) (.n 22),
 .bin .neq .i64 (.n 12) (.c 0),
 .bin .eql .i64 (.n 23) (.n 0),
 .bin .eql .i64 (.n 24) (.n 1),
 .ite (.n 26) (.n 27) (.c 0),
 .ite (.n 28) (.c 0) (.c 1),
 .ite (.n 25) (.c 1) (.n 29)]
def UY:List Vc:=[
 ]
theorem Vx:whole Tryz.prog [] 20 40 38 [(true,[some .i64,some .i64])]=some (.p (.c (.bool (.n 30))),⟨JC.reverse,UY.reverse⟩):=by kernel_rfl
theorem Ub:wfN JC.reverse=true:=by kernel_rfl
theorem XP (a b:Int) (w:World):Calls Tryz.prog 38 #[.agg #[.int .i64 a,.int .i64 b]] w fun e w'=>e=.returned (.bool (!zOk [a,b]))/\Below w.heap.size w w':=by
 refine Sx.calls (X:=cxE [a,b]) dP (fun s hs=>by cases hs) Vx Ub (fun v hs=>?_) w
 have e0:v 0=a:=aa hs 0 rfl;have e1:v 1=b:=aa hs 1 rfl;have A:v 11=b2i (aQ (v 0) (v 1)):=kE (aa hs 3 rfl) (aa hs 4 rfl) (aa hs 5 rfl) (aa hs 6 rfl) (aa hs 7 rfl) (aa hs 8 rfl) (aa hs 9 rfl) (aa hs 10 rfl) (aa hs 11 rfl);have e12:v 12=if v 11≠0 then (0:Int) else (1:Int):=(aa hs 12 rfl)
 have e25:v 25=b2i (v 12 != (0:Int)):=(aa hs 25 rfl);have e30:v 30=if v 25≠0 then (1:Int) else v 29:=(aa hs 30 rfl)
 have w:v 30=b2i (!zOk [a,b]):=by
  by_cases hA:aQ (v 0) (v 1)=true
  . have bd:=(aJ _ _).1 hA;have w12:v 12=0:=by rw [e12,A,hA];rfl
    have w25:v 25=0:=by rw [e25,w12];rfl
    have w2:v 2=v 1-v 0:=by rw [show v 2=IntKind.i64.wrap (v 1-v 0) from aa hs 2 rfl,Go.IntWalk.i64_in _ (by omega)]
    have w18:v 18=v 0%21600000:=gN (by omega) (aa hs 14 rfl) (aa hs 15 rfl) (aa hs 16 rfl) (aa hs 18 rfl)
    have w19:v 19=v 18+v 2:=by rw [show v 19=IntKind.i64.wrap (v 18+v 2) from aa hs 19 rfl,Go.IntWalk.i64_in _ (by omega)]
    have w21:v 21=if v 2>=21600000 then (0:Int) else v 18:=kif (aa hs 13 rfl) (aa hs 21 rfl)
    have w22:v 22=if v 2>=21600000 then (21600000:Int) else v 19:=kif (aa hs 13 rfl) (aa hs 22 rfl)
    have w23:v 23=v 21:=by rw [show v 23=if v 12≠0 then (0:Int) else v 21 from aa hs 23 rfl,w12];rfl
    have w24:v 24=v 22:=by rw [show v 24=if v 12≠0 then (0:Int) else v 22 from aa hs 24 rfl,w12];rfl
    have w28:v 28=b2i (decide (v 23=v 0/\v 24=v 1)):=WH (aa hs 26 rfl) (aa hs 27 rfl) (aa hs 28 rfl);have w29:v 29=if v 28≠0 then (0:Int) else (1:Int):=(aa hs 29 rfl)
    have z:zOk [a,b]=decide (v 23=v 0/\v 24=v 1):=by
     unfold zOk;rw [Bool.eq_iff_iff,decide_eq_true_iff,decide_eq_true_iff,<-e0,<-e1];show (0<=v 0/\v 0<=21599999/\v 0<=v 1/\v 1<=v 0+21600000/\(v 1-v 0=21600000->v 0=0))↔_;rw [w23,w24,w21,w22,w19,w18,w2];split<;>omega
    rw [e30,w25,w29,w28,z];cases decide (v 23=v 0/\v 24=v 1)<;>rfl
  . have hB:aQ (v 0) (v 1)=false:=by simpa using hA
    have w12:v 12=1:=by rw [e12,A,hB];rfl
    have w25:v 25=1:=by rw [e25,w12];rfl
    have z:zOk [a,b]=false:=by
     unfold zOk;rw [decide_eq_false_iff_not,<-e0,<-e1];show ¬ (0<=v 0/\v 0<=21599999/\v 0<=v 1/\v 1<=v 0+21600000/\(v 1-v 0=21600000->v 0=0));intro h;rw [(aJ _ _).2 (by omega)] at hB
     cases hB
    rw [e30,w25,z];rfl
 refine ⟨bB ?_,?_⟩
 . exact bu
 . intro x hx0;have hx':=bM (v:=v) (by rfl) hx0
   rw [hx'];show Value.bool (decide (v 30≠0))=_;rw [w,gH]
def I7:List Nd:=[
 .arg 0,
 .bin .geq .i64 (.n 0) (.c (-90)),
 .bin .leq .i64 (.n 0) (.c 90),
 .ite (.n 1) (.n 2) (.c 0)]
def Uy:List Vc:=[
 ]
theorem SI:whole Tryz.prog [] 20 40 35 [(false,[some .i64])]=some (.p (.c (.bool (.n 3))),⟨I7.reverse,Uy.reverse⟩):=by kernel_rfl
theorem Us:wfN I7.reverse=true:=by kernel_rfl
theorem Ea (a:Int) (w:World):Calls Tryz.prog 35 #[.int .i64 a] w fun e w'=>e=.returned (.bool (decide (-90<=a/\a<=90)))/\Below w.heap.size w w':=by
 refine Sx.calls (X:=cxE [a]) dP (fun s hs=>by cases hs) SI Us (fun v hs=>?_) w
 have e0:v 0=a:=aa hs 0 rfl
 have w:v 3=b2i (decide (-90<=a/\a<=90)):=by
  rw [<-e0];exact WH (P:=-90<=v 0) (Q:=v 0<=90) (aa hs 1 rfl) (aa hs 2 rfl) (aa hs 3 rfl)
 refine ⟨bB ?_,?_⟩
 . exact bu
 . intro x hx0;have hx':=bM (v:=v) (by rfl) hx0
   rw [hx'];show Value.bool (decide (v 3≠0))=_;rw [w,gH]
def Je:List Nd:=[
 .arg 0,
 .arg 1,
 .bin .leq .i64 (.n 0) (.n 1),
 .bin .geq .i64 (.n 0) (.c (-1099511627776)),
 .bin .leq .i64 (.n 0) (.c 1099511627776),
 .ite (.n 3) (.n 4) (.c 0),
 .ite (.n 2) (.n 5) (.c 0),
 .bin .geq .i64 (.n 1) (.c (-1099511627776)),
 .bin .leq .i64 (.n 1) (.c 1099511627776),
 .ite (.n 7) (.n 8) (.c 0),
 .ite (.n 6) (.n 9) (.c 0)]
def Wo:List Vc:=[
 ]
theorem Sy:whole Tryz.prog [] 20 40 14 [(true,[some .i64,some .i64])]=some (.p (.c (.bool (.n 10))),⟨Je.reverse,Wo.reverse⟩):=by kernel_rfl
theorem Uk:wfN Je.reverse=true:=by kernel_rfl
theorem Ff (a b:Int) (w:World):Calls Tryz.prog 14 #[.agg #[.int .i64 a,.int .i64 b]] w fun e w'=>e=.returned (.bool (aQ a b))/\Below w.heap.size w w':=by
 refine Sx.calls (X:=cxE [a,b]) dP (fun s hs=>by cases hs) Sy Uk (fun v hs=>?_) w
 have e0:v 0=a:=aa hs 0 rfl;have e1:v 1=b:=aa hs 1 rfl
 have w:v 10=b2i (aQ a b):=by
  rw [<-e0,<-e1];exact kE (aa hs 2 rfl) (aa hs 3 rfl) (aa hs 4 rfl) (aa hs 5 rfl) (aa hs 6 rfl) (aa hs 7 rfl) (aa hs 8 rfl) (aa hs 9 rfl) (aa hs 10 rfl)
 refine ⟨bB ?_,?_⟩
 . exact bu
 . intro x hx0;have hx':=bM (v:=v) (by rfl) hx0
   rw [hx'];show Value.bool (decide (v 10≠0))=_;rw [w,gH]
def Jh:List Nd:=[
 .arg 0,
 .arg 1,
 .arg 2,
 .arg 3,
 .bin .quo .i64 (.n 0) (.c 60000),
 .bin .rem .i64 (.n 0) (.c 60000),
 .bin .lss .i64 (.n 5) (.c 0),
 .bin .sub .i64 (.n 4) (.c 1),
 .ite (.n 6) (.c 0) (.c 1),
 .ite (.n 6) (.n 7) (.n 4),
 .mn (.n 9) (.n 3),
 .bin .mul .i64 (.n 10) (.c 60000),
 .bin .sub .i64 (.n 0) (.n 11),
 .bin .sub .i64 (.n 1) (.n 11),
 .bin .geq .i64 (.n 10) (.n 2),
 .bin .geq .i64 (.n 12) (.c 0),
 .ite (.n 14) (.n 15) (.c 0),
 .bin .leq .i64 (.n 13) (.c 60000),
 .ite (.n 16) (.n 17) (.c 0)]
def RV:List Vc:=[
 ]
theorem Sk:whole Tryz.prog [] 20 40 15 [(true,[some .i64,some .i64]),(false,[some .i64]),(false,[some .i64])]=some (.tup [.c (.int .i64 (.n 10)),.agg [.int .i64 (.n 12),.int .i64 (.n 13)],.c (.bool (.n 18))],⟨Jh.reverse,RV.reverse⟩):=by kernel_rfl
theorem VR:wfN Jh.reverse=true:=by kernel_rfl
theorem Zm (a b lo hi:Int) (w:World) (h1:-1000000000000<=a/\a<=1000000000000) (h2:-1000000000000<=b/\b<=1000000000000) (h4:-1000<=hi/\hi<=1000):Calls Tryz.prog 15 #[.agg #[.int .i64 a,.int .i64 b],.int .i64 lo,.int .i64 hi] w fun e w'=>e=.returned (.tuple #[.int .i64 (min (a/60000) hi),.agg #[.int .i64 (a-min (a/60000) hi*60000),.int .i64 (b-min (a/60000) hi*60000)],.bool (decide (lo<=min (a/60000) hi/\0<=a-min (a/60000) hi*60000/\b-min (a/60000) hi*60000<=60000))])/\Below w.heap.size w w':=by
 refine Sx.calls (X:=cxE [a,b,lo,hi]) dP (fun s hs=>by cases hs) Sk VR (fun v hs=>?_) w
 have e0:v 0=a:=aa hs 0 rfl;have e1:v 1=b:=aa hs 1 rfl;have e2:v 2=lo:=aa hs 2 rfl;have e3:v 3=hi:=aa hs 3 rfl;have w9:v 9=a/60000:=by rw [<-e0];exact fK (x:=v 0) (m:=60000) (by omega) (by omega) (aa hs 4 rfl) (aa hs 5 rfl) (aa hs 6 rfl) (aa hs 7 rfl) (aa hs 9 rfl)
 have w10:v 10=min (a/60000) hi:=by rw [<-w9,<-e3];exact iI (aa hs 10 rfl)
 have kb:-100000000<=min (a/60000) hi/\min (a/60000) hi<=100000000:=by omega
 generalize min (a/60000) hi=k at *
 have w11:v 11=k*60000:=by rw [show v 11=IntKind.i64.wrap (v 10*(60000:Int)) from (aa hs 11 rfl),w10,Go.IntWalk.i64_in _ (by omega)]
 have w12:v 12=a-k*60000:=by rw [show v 12=IntKind.i64.wrap (v 0-v 11) from (aa hs 12 rfl),w11,e0,Go.IntWalk.i64_in _ (by omega)]
 have w13:v 13=b-k*60000:=by rw [show v 13=IntKind.i64.wrap (v 1-v 11) from (aa hs 13 rfl),w11,e1,Go.IntWalk.i64_in _ (by omega)]
 have w18:v 18=b2i (decide (lo<=k/\0<=a-k*60000/\b-k*60000<=60000)):=Bw (a:=v 14) (b:=v 15) (e:=v 17) (q:=v 16) (by rw [show v 14=b2i (decide (v 10>=v 2)) from (aa hs 14 rfl),w10,e2]) (by rw [show v 15=b2i (decide (v 12>=(0:Int))) from (aa hs 15 rfl),w12]) (by rw [show v 17=b2i (decide (v 13<=(60000:Int))) from (aa hs 17 rfl),w13]) (aa hs 16 rfl) (aa hs 18 rfl)
 refine ⟨bB ?_,?_⟩
 . exact bu
 . intro x hx0;have hx':=bM (v:=v) (by rfl) hx0
   rw [hx'];show Value.tuple #[.int .i64 (v 10),.agg #[.int .i64 (v 12),.int .i64 (v 13)],.bool (decide (v 18≠0))]=_;rw [w10,w12,w13,w18,gH]
theorem UU (a:Option Addr) (cap:Nat) (L:Cs) (w:World) (hL:SlI 2 w a L) (hn:L.length<=1000) :
 Calls Tryz.prog 65 #[.slice a L.length cap,.func (.func 37) #[] #[]] w fun e w'=>(∃ r:Int,e=.returned (.int .i64 r)/\-1<=r/\(0<=r↔L.all hOk=false))/\Below w.heap.size w w':=by
 have HL:=Lib.hid hL;clear hL;obtain ⟨A,hA⟩:∃ A,L.all hOk=A:=⟨_,rfl⟩;rw [hA];have HAA:=Lib.hid hA;clear hA
 skip
 go_enter Tryz.func65,Tryz.ntmps65;go_wp2;go_loopw [8] (fun v wr=>∃ i:Nat,v=.int .i64 (i:Int)/\i<=L.length/\(∀ j (h:j<L.length),j<i->hOk L[j]=true)/\Below w.heap.size w wr) (fun v _=>((L.length:Int)-intOf v).toNat)
 case atStart =>
  exact ⟨0,rfl,by omega,fun j h hj=>by omega,Below.refl _ _⟩
 case round =>
  obtain ⟨i,rfl,hi,hs,hb⟩:=hrel;have HB:=Lib.hid hb;clear hb
  by_cases hl:i<L.length
  . have hLw:=HL.out.below HB.out;rcases hLw with h0|⟨b,off,rfl,hR⟩
    . rw [h0] at hl;simp at hl
    . obtain ⟨x,y,hx,c0,c1⟩:=hR.at2 i hl;have hS:=Lib.hid hs;clear hs;have C:=Lib.hid (fun w=>Xk x y w)
      have hl':(i:Int)<(L.length:Int):=by omega
      have FIN:Hid (hOk L[i]=true->∀ j (h:j<L.length),j<i+1->hOk L[j]=true):=by
       intro h j hj hji
       by_cases e:j<i
       . exact hS.out j hj e
       . obtain rfl:j=i:=by omega
         exact h
      have FIN2:Hid (hOk L[i]=false->A=false):=by
       intro h;rw [<-HAA.out];cases hA:L.all hOk
       . rfl
       . rw [List.all_eq_true] at hA;have:=hA _ (List.getElem_mem hl);rw [h] at this;cases this
      rw [hx] at FIN FIN2;cases hsm:hOk [x,y]
      . rw [hsm] at C FIN2;go_wp2_with fail;refine (C.out _).mono ?_;rintro e w1 ⟨rfl,hb1⟩;have HB1:Hid (Below w.heap.size w w1):=HB.out.trans (hb1.mono HB.out.size);clear hb1 c0 c1 hR HL HB C FIN hS;go_wp2;go_ret;exact ⟨⟨_,rfl,by omega,⟨fun _=>FIN2.out trivial,fun _=>by omega⟩⟩,HB1.out⟩
      . rw [hsm] at C FIN;go_wp2_with fail;refine (C.out _).mono ?_;rintro e w1 ⟨rfl,hb1⟩;have HB1:Hid (Below w.heap.size w w1):=HB.out.trans (hb1.mono HB.out.size);clear hb1 c0 c1 hR HL HB C FIN2 hS;go_wp2;go_light;exact ⟨⟨i+1,by rw [show ((i+1:Nat):Int)=(i:Int)+1 by omega],by omega,FIN.out trivial,HB1.out⟩,by simp only [intOf];omega⟩
  . have hl':¬ (i:Int)<(L.length:Int):=by omega
    have hA:L.all hOk=true:=by
     rw [List.all_eq_true];intro x hx;obtain ⟨j,hj,rfl⟩:=List.getElem_of_mem hx;exact hs j hj (by omega)
    have HA:=Lib.hid (show A=true from by rw [<-HAA.out];exact hA)
    clear hs hl hi hA;go_wp2;go_ret;exact ⟨⟨_,rfl,by omega,⟨fun h=>by omega,fun h=>by rw [HA.out] at h;cases h⟩⟩,HB.out⟩
theorem VT (a:Option Addr) (cap:Nat) (L:Cs) (w:World) (hL:SlI 2 w a L) (hn:L.length<=1000) :
 Calls Tryz.prog 36 #[.slice a L.length cap,.func (.func 37) #[] #[]] w fun e w'=>e=.returned (.bool (!L.all hOk))/\Below w.heap.size w w':=by
 have C:=Lib.hid (UU a cap L w hL hn );clear hL;go_enter Tryz.func36,Tryz.ntmps36;go_wp2_with fail;refine C.out.mono ?_;rintro e w1 ⟨⟨r,rfl,hr0,hr⟩,hb⟩;have HB:=Lib.hid hb;clear hb
 have HR:Hid ((!L.all hOk)=decide (0<=r)):=by
  cases hA:L.all hOk
  . rw [decide_eq_true (hr.2 hA)];rfl
  . rw [decide_eq_false (fun h=>by have:=hr.1 h;rw [hA] at this;cases this)];rfl
 clear hr C;go_wp2;go_ret;exact ⟨by rw [HR.out];rfl,HB.out⟩
theorem Vw (a:Option Addr) (cap:Nat) (L:Cs) (w:World) (hL:SlI 2 w a L) (hn:L.length<=1000) :
 Calls Tryz.prog 65 #[.slice a L.length cap,.func (.func 38) #[] #[]] w fun e w'=>(∃ r:Int,e=.returned (.int .i64 r)/\-1<=r/\(0<=r↔L.all zOk=false))/\Below w.heap.size w w':=by
 have HL:=Lib.hid hL;clear hL;obtain ⟨A,hA⟩:∃ A,L.all zOk=A:=⟨_,rfl⟩;rw [hA];have HAA:=Lib.hid hA;clear hA
 skip
 go_enter Tryz.func65,Tryz.ntmps65;go_wp2;go_loopw [8] (fun v wr=>∃ i:Nat,v=.int .i64 (i:Int)/\i<=L.length/\(∀ j (h:j<L.length),j<i->zOk L[j]=true)/\Below w.heap.size w wr) (fun v _=>((L.length:Int)-intOf v).toNat)
 case atStart =>
  exact ⟨0,rfl,by omega,fun j h hj=>by omega,Below.refl _ _⟩
 case round =>
  obtain ⟨i,rfl,hi,hs,hb⟩:=hrel;have HB:=Lib.hid hb;clear hb
  by_cases hl:i<L.length
  . have hLw:=HL.out.below HB.out;rcases hLw with h0|⟨b,off,rfl,hR⟩
    . rw [h0] at hl;simp at hl
    . obtain ⟨x,y,hx,c0,c1⟩:=hR.at2 i hl;have hS:=Lib.hid hs;clear hs;have C:=Lib.hid (fun w=>XP x y w)
      have hl':(i:Int)<(L.length:Int):=by omega
      have FIN:Hid (zOk L[i]=true->∀ j (h:j<L.length),j<i+1->zOk L[j]=true):=by
       intro h j hj hji
       by_cases e:j<i
       . exact hS.out j hj e
       . obtain rfl:j=i:=by omega
         exact h
      have FIN2:Hid (zOk L[i]=false->A=false):=by
       intro h;rw [<-HAA.out];cases hA:L.all zOk
       . rfl
       . rw [List.all_eq_true] at hA;have:=hA _ (List.getElem_mem hl);rw [h] at this;cases this
      rw [hx] at FIN FIN2;cases hsm:zOk [x,y]
      . rw [hsm] at C FIN2;go_wp2_with fail;refine (C.out _).mono ?_;rintro e w1 ⟨rfl,hb1⟩;have HB1:Hid (Below w.heap.size w w1):=HB.out.trans (hb1.mono HB.out.size);clear hb1 c0 c1 hR HL HB C FIN hS;go_wp2;go_ret;exact ⟨⟨_,rfl,by omega,⟨fun _=>FIN2.out trivial,fun _=>by omega⟩⟩,HB1.out⟩
      . rw [hsm] at C FIN;go_wp2_with fail;refine (C.out _).mono ?_;rintro e w1 ⟨rfl,hb1⟩;have HB1:Hid (Below w.heap.size w w1):=HB.out.trans (hb1.mono HB.out.size);clear hb1 c0 c1 hR HL HB C FIN2 hS;go_wp2;go_light;exact ⟨⟨i+1,by rw [show ((i+1:Nat):Int)=(i:Int)+1 by omega],by omega,FIN.out trivial,HB1.out⟩,by simp only [intOf];omega⟩
  . have hl':¬ (i:Int)<(L.length:Int):=by omega
    have hA:L.all zOk=true:=by
     rw [List.all_eq_true];intro x hx;obtain ⟨j,hj,rfl⟩:=List.getElem_of_mem hx;exact hs j hj (by omega)
    have HA:=Lib.hid (show A=true from by rw [<-HAA.out];exact hA)
    clear hs hl hi hA;go_wp2;go_ret;exact ⟨⟨_,rfl,by omega,⟨fun h=>by omega,fun h=>by rw [HA.out] at h;cases h⟩⟩,HB.out⟩
theorem Vs (a:Option Addr) (cap:Nat) (L:Cs) (w:World) (hL:SlI 2 w a L) (hn:L.length<=1000) :
 Calls Tryz.prog 36 #[.slice a L.length cap,.func (.func 38) #[] #[]] w fun e w'=>e=.returned (.bool (!L.all zOk))/\Below w.heap.size w w':=by
 have C:=Lib.hid (Vw a cap L w hL hn );clear hL;go_enter Tryz.func36,Tryz.ntmps36;go_wp2_with fail;refine C.out.mono ?_;rintro e w1 ⟨⟨r,rfl,hr0,hr⟩,hb⟩;have HB:=Lib.hid hb;clear hb
 have HR:Hid ((!L.all zOk)=decide (0<=r)):=by
  cases hA:L.all zOk
  . rw [decide_eq_true (hr.2 hA)];rfl
  . rw [decide_eq_false (fun h=>by have:=hr.1 h;rw [hA] at this;cases this)];rfl
 clear hr C;go_wp2;go_ret;exact ⟨by rw [HR.out];rfl,HB.out⟩
