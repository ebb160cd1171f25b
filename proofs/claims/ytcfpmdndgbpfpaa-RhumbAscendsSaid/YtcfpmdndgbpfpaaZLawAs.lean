/- The law RhumbAscends. -/
import Derived.Test.YtcfpmdndgbpfpaaZRhW
set_option linter.unusedVariables false
set_option linter.unusedSimpArgs false
set_option maxRecDepth 100000
namespace Go.Proofs.Ytcfpmdndgbpfpaa
open Go.RowKit Alm Sx
def xK:List Nd:=[
 .arg 0,
 .arg 1,
 .app 20 0 [],
 .ite (.n 2) (.c 0) (.c 1),
 .ite (.n 3) (.c 0) (.c 1),
 .bin .lss .i64 (.n 0) (.c (-5340000)),
 .bin .gtr .i64 (.n 0) (.c 5340000),
 .ite (.n 5) (.c 1) (.n 6),
 .bin .lss .i64 (.n 1) (.c 0),
 .ite (.n 7) (.c 1) (.n 8),
 .bin .sub .i64 (.c 5340000) (.n 0),
 .bin .gtr .i64 (.n 1) (.n 10),
 .ite (.n 9) (.c 1) (.n 11),
 .ite (.n 12) (.c 0) (.c 1),
 .app 99 0 [.n 0],
 .app 99 1 [.n 0],
 .app 99 2 [.n 0],
 .bin .add .i64 (.n 0) (.n 1),
 .app 99 0 [.n 17],
 .app 99 1 [.n 17],
 .app 99 2 [.n 17],
 .bin .sub .i64 (.c 0) (.n 0),
 .app 99 0 [.n 21],
 .app 99 1 [.n 21],
 .app 99 2 [.n 21],
 .bin .eql .i64 (.n 16) (.c 0),
 .bin .eql .i64 (.n 20) (.c 0),
 .ite (.n 25) (.n 26) (.c 0),
 .bin .eql .i64 (.n 24) (.c 0),
 .ite (.n 27) (.n 28) (.c 0),
 .bin .leq .i64 (.n 14) (.n 15),
 .ite (.n 29) (.n 30) (.c 0),
 .bin .sub .i64 (.n 15) (.n 14),
 .bin .leq .i64 (.n 32) (.c 1),
 .ite (.n 31) (.n 33) (.c 0),
 .bin .sub .i64 (.n 18) (.n 14),
 .bin .geq .i64 (.n 35) (.n 1),
 .ite (.n 34) (.n 36) (.c 0),
 .bin .sub .i64 (.n 19) (.n 15),
 .bin .geq .i64 (.n 38) (.n 1),
 .ite (.n 37) (.n 39) (.c 0),
 .bin .sub .i64 (.c 0) (.n 15),
 .bin .sub .i64 (.c 0) (.n 14),
 .bin .eql .i64 (.n 22) (.n 41),
 .bin .eql .i64 (.n 23) (.n 42),
 .ite (.n 43) (.n 44) (.c 0),
 .ite (.n 40) (.n 45) (.c 0),
 .ite (.n 12) (.c 1) (.n 46),
 .ite (.n 3) (.c 0) (.n 47)]
def Eb:List Vc:=[
 ⟨[],.pre 20 []⟩,
 ⟨[(.n 13,true),(.n 4,true)],.pre 99 [.n 0]⟩,
 ⟨[(.n 13,true),(.n 4,true)],.pre 99 [.n 17]⟩,
 ⟨[(.n 13,true),(.n 4,true)],.pre 99 [.n 21]⟩]
theorem ER:whole Try.prog Dv 20 40 3 [(false,[some .i64]),(false,[some .i64])]=some (.p (.c (.bool (.n 48))),⟨xK.reverse,Eb.reverse⟩):=by kernel_rfl
theorem Fj:wfN xK.reverse=true:=by kernel_rfl
theorem DU (a b:Int) (w:World):Calls Try.prog 3 #[.int .i64 a,.int .i64 b] w fun e w'=>e=.returned (.bool true)/\Below w.heap.size w w':=by
 refine Sx.calls (X:=FL [a,b]) iH (Bw _) ER Fj (fun v hs=>?_) w
 have e0:v 0=a:=aQ hs 0 rfl;have e1:v 1=b:=aQ hs 1 rfl;have e2:v 2=(xy 20 []).getD 0 0:=aQ hs 2 rfl;have e3:v 3=if v 2≠0 then (0:Int) else (1:Int):=aQ hs 3 rfl
 have e4:v 4=if v 3≠0 then (0:Int) else (1:Int):=aQ hs 4 rfl
 have e5:v 5=b2i (decide (v 0<(-5340000:Int))):=aQ hs 5 rfl;have e6:v 6=b2i (decide (v 0>(5340000:Int))):=aQ hs 6 rfl;have e7:v 7=if v 5≠0 then (1:Int) else v 6:=aQ hs 7 rfl
 have e8:v 8=b2i (decide (v 1<(0:Int))):=aQ hs 8 rfl;have e9:v 9=if v 7≠0 then (1:Int) else v 8:=aQ hs 9 rfl
 have e10:v 10=IntKind.i64.wrap ((5340000:Int)-v 0):=aQ hs 10 rfl;have e11:v 11=b2i (decide (v 1>v 10)):=aQ hs 11 rfl;have e12:v 12=if v 9≠0 then (1:Int) else v 11:=aQ hs 12 rfl
 have e13:v 13=if v 12≠0 then (0:Int) else (1:Int):=aQ hs 13 rfl
 have e14:v 14=(iJ 99 [v 0]).getD 0 0:=aQ hs 14 rfl;have e15:v 15=(iJ 99 [v 0]).getD 1 0:=aQ hs 15 rfl;have e16:v 16=(iJ 99 [v 0]).getD 2 0:=aQ hs 16 rfl;have e17:v 17=IntKind.i64.wrap (v 0+v 1):=aQ hs 17 rfl;have e18:v 18=(iJ 99 [v 17]).getD 0 0:=aQ hs 18 rfl;have e19:v 19=(iJ 99 [v 17]).getD 1 0:=aQ hs 19 rfl;have e20:v 20=(iJ 99 [v 17]).getD 2 0:=aQ hs 20 rfl;have e21:v 21=IntKind.i64.wrap ((0:Int)-v 0):=aQ hs 21 rfl;have e22:v 22=(iJ 99 [v 21]).getD 0 0:=aQ hs 22 rfl;have e23:v 23=(iJ 99 [v 21]).getD 1 0:=aQ hs 23 rfl;have e24:v 24=(iJ 99 [v 21]).getD 2 0:=aQ hs 24 rfl;have e25:v 25=b2i (v 16==(0:Int)):=aQ hs 25 rfl;have e26:v 26=b2i (v 20==(0:Int)):=aQ hs 26 rfl;have e27:v 27=if v 25≠0 then v 26 else (0:Int):=aQ hs 27 rfl
 have e28:v 28=b2i (v 24==(0:Int)):=aQ hs 28 rfl;have e29:v 29=if v 27≠0 then v 28 else (0:Int):=aQ hs 29 rfl
 have e30:v 30=b2i (decide (v 14<=v 15)):=aQ hs 30 rfl;have e31:v 31=if v 29≠0 then v 30 else (0:Int):=aQ hs 31 rfl
 have e32:v 32=IntKind.i64.wrap (v 15-v 14):=aQ hs 32 rfl;have e33:v 33=b2i (decide (v 32<=(1:Int))):=aQ hs 33 rfl;have e34:v 34=if v 31≠0 then v 33 else (0:Int):=aQ hs 34 rfl
 have e35:v 35=IntKind.i64.wrap (v 18-v 14):=aQ hs 35 rfl;have e36:v 36=b2i (decide (v 35>=v 1)):=aQ hs 36 rfl;have e37:v 37=if v 34≠0 then v 36 else (0:Int):=aQ hs 37 rfl
 have e38:v 38=IntKind.i64.wrap (v 19-v 15):=aQ hs 38 rfl;have e39:v 39=b2i (decide (v 38>=v 1)):=aQ hs 39 rfl;have e40:v 40=if v 37≠0 then v 39 else (0:Int):=aQ hs 40 rfl
 have e41:v 41=IntKind.i64.wrap ((0:Int)-v 15):=aQ hs 41 rfl;have e42:v 42=IntKind.i64.wrap ((0:Int)-v 14):=aQ hs 42 rfl;have e43:v 43=b2i (v 22==v 41):=aQ hs 43 rfl;have e44:v 44=b2i (v 23==v 42):=aQ hs 44 rfl;have e45:v 45=if v 43≠0 then v 44 else (0:Int):=aQ hs 45 rfl
 have e46:v 46=if v 40≠0 then v 45 else (0:Int):=aQ hs 46 rfl
 have e47:v 47=if v 12≠0 then (1:Int) else v 46:=aQ hs 47 rfl
 have e48:v 48=if v 3≠0 then (0:Int) else v 47:=aQ hs 48 rfl
 have a2:v 2=1:=e2;have a3:v 3=0:=by rw [e3,a2];rfl
 have a4:v 4=1:=by rw [e4,a3];rfl
 by_cases g:(-5340000<=a/\a<=5340000)/\0<=b/\b<=5340000-a
 . have a10:v 10=5340000-a:=by rw [e10,e0,Go.IntWalk.i64_in _ (by omega)]
   have a12:v 12=0:=by
    rw [e12,e9,e7,e5,e6,e8,e11,a10,e0,e1,decide_eq_false (by omega),decide_eq_false (by omega),decide_eq_false (by omega),decide_eq_false (by omega)];rfl
   have a17:v 17=a+b:=by rw [e17,e0,e1,Go.IntWalk.i64_in _ (by omega)]
   have a21:v 21=-a:=by rw [e21,e0,Go.IntWalk.i64_in _ (by omega)];omega
   have P1:ut 99 [v 0]:=by show -5340000<=v 0/\v 0<=5340000;omega
   have P2:ut 99 [v 17]:=by show -5340000<=v 17/\v 17<=5340000;omega
   have P3:ut 99 [v 21]:=by show -5340000<=v 21/\v 21<=5340000;omega
   have a14:v 14=prL a:=by rw [<-e0];exact e14
   have a15:v 15=prH a:=by rw [<-e0];exact e15
   have a16:v 16=0:=e16;have a18:v 18=prL (a+b):=by rw [<-a17];exact e18
   have a19:v 19=prH (a+b):=by rw [<-a17];exact e19
   have a20:v 20=0:=e20;have ng:=Gc a;have a22:v 22=-prH a:=by rw [<-ng.1,<-a21];exact e22
   have a23:v 23=-prL a:=by rw [<-ng.2,<-a21];exact e23
   have a24:v 24=0:=e24;have B1:=Ga a (by omega)
   have B2:=Ga (a+b) (by omega)
   have A:=Gq a b (by omega) (by omega) (by omega)
   have a29:v 29=1:=by rw [e29,e27,e25,e26,e28,a16,a20,a24];rfl
   have a32:v 32=prH a-prL a:=by rw [e32,a15,a14,Go.IntWalk.i64_in _ (by omega)]
   have a34:v 34=1:=by rw [e34,e31,e33,e30,a29,a32,a14,a15,decide_eq_true (by omega),decide_eq_true (by omega)];rfl
   have a35:v 35=prL (a+b)-prL a:=by rw [e35,a18,a14,Go.IntWalk.i64_in _ (by omega)]
   have a38:v 38=prH (a+b)-prH a:=by rw [e38,a19,a15,Go.IntWalk.i64_in _ (by omega)]
   have a40:v 40=1:=by rw [e40,e37,e39,e36,a34,a35,a38,e1,decide_eq_true (by omega),decide_eq_true (by omega)];rfl
   have a41:v 41=-prH a:=by rw [e41,a15,Go.IntWalk.i64_in _ (by omega)];omega
   have a42:v 42=-prL a:=by rw [e42,a14,Go.IntWalk.i64_in _ (by omega)];omega
   have a46:v 46=1:=by rw [e46,e45,e43,e44,a40,a22,a23,a41,a42];simp [b2i]
   have a48:v 48=1:=by rw [e48,a3,e47,a12,a46];rfl
   refine ⟨rJ ?_,?_⟩
   . exact dh (fun _=>trivial) (dh (fun _=>P1) (dh (fun _=>P2) (dh (fun _=>P3) (rH))))
   . intro x hx0;have hx':=qZ (v:=v) (by rfl) hx0
     rw [hx'];show Value.bool (decide (v 48≠0))=_;rw [a48];rfl
 . have a12:v 12=1:=by
    rw [e12,e9,e7,e5,e6,e8,e11,e0,e1]
    by_cases c1:a < -5340000
    . simp [c1,b2i]
    . by_cases c2:a>5340000
      . simp [c1,c2,b2i]
      . by_cases c3:b<0
        . simp [c1,c2,c3,b2i]
        . have a10:v 10=5340000-a:=by rw [e10,e0,Go.IntWalk.i64_in _ (by omega)]
          have c4:b>5340000-a:=by omega
          rw [a10];simp [c1,c2,c3,c4,b2i]
   have a13:v 13=0:=by rw [e13,a12];rfl
   have a48:v 48=1:=by rw [e48,a3,e47,a12];rfl
   refine ⟨rJ ?_,?_⟩
   . exact dh (fun _=>trivial) (dh (fun hp=>absurd a13 (qg hp).1) (dh (fun hp=>absurd a13 (qg hp).1) (dh (fun hp=>absurd a13 (qg hp).1) (rH))))
   . intro x hx0;have hx':=qZ (v:=v) (by rfl) hx0
     rw [hx'];show Value.bool (decide (v 48≠0))=_;rw [a48];rfl
