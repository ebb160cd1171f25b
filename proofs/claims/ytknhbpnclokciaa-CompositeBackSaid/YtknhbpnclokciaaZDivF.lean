/- The contract of fixed.Div for a divisor over 0. -/
import Derived.Test.YtknhbpnclokciaaZSpC
import Derived.Test.YtknhbpnclokciaaZSxL
import Derived.IntWalk
set_option linter.unusedVariables false
set_option linter.unusedSimpArgs false
set_option maxRecDepth 100000
namespace Go.Proofs.Ytknhbpnclokciaa
open Go.RowKit Alm Sx
def JH:List Nd:=[
 .arg 0,
 .arg 1,
 .arg 2,
 .arg 3,
 .app 8 0 [.n 0,.n 1],
 .app 8 0 [.n 2,.n 3],
 .ite (.n 4) (.n 5) (.c 0),
 .ite (.n 6) (.c 0) (.c 1),
 .bin .leq .i64 (.n 2) (.c 0),
 .bin .geq .i64 (.n 3) (.c 0),
 .ite (.n 8) (.n 9) (.c 0),
 .ite (.n 10) (.c 0) (.c 1),
 .ite (.n 7) (.c 0) (.c 1),
 .ite (.n 12) (.n 11) (.c 0),
 .ite (.n 12) (.n 10) (.c 0),
 .ite (.n 7) (.c 1) (.n 14),
 .ite (.n 7) (.c 1) (.c 16),
 .bin .mul .i64 (.n 0) (.c 1073741824),
 .app 30 0 [.n 17,.n 2],
 .app 31 0 [.n 17,.n 2],
 .app 30 0 [.n 17,.n 3],
 .mn (.n 18) (.n 20),
 .app 31 0 [.n 17,.n 3],
 .mx (.n 19) (.n 22),
 .bin .mul .i64 (.n 1) (.c 1073741824),
 .app 30 0 [.n 24,.n 2],
 .mn (.n 21) (.n 25),
 .app 31 0 [.n 24,.n 2],
 .mx (.n 23) (.n 27),
 .app 30 0 [.n 24,.n 3],
 .mn (.n 26) (.n 29),
 .app 31 0 [.n 24,.n 3],
 .mx (.n 28) (.n 31),
 .app 8 0 [.n 30,.n 32],
 .ite (.n 33) (.c 0) (.c 1),
 .ite (.n 34) (.c 0) (.c 1),
 .ite (.n 34) (.c 5) (.c 0),
 .ite (.n 34) (.c 0) (.n 30),
 .ite (.n 34) (.c 0) (.n 32),
 .ite (.n 15) (.c 1) (.n 13),
 .ite (.n 15) (.n 16) (.n 36),
 .ite (.n 15) (.c 0) (.n 37),
 .ite (.n 15) (.c 0) (.n 38)]
def VK:List Vc:=[
 ⟨[],.pre 8 [.n 0,.n 1]⟩,
 ⟨[(.n 4,true)],.pre 8 [.n 2,.n 3]⟩,
 ⟨[(.n 13,true)],.pre 30 [.n 17,.n 2]⟩,
 ⟨[(.n 13,true)],.pre 31 [.n 17,.n 2]⟩,
 ⟨[(.n 13,true)],.pre 30 [.n 17,.n 2]⟩,
 ⟨[(.n 13,true)],.pre 31 [.n 17,.n 2]⟩,
 ⟨[(.n 13,true)],.pre 30 [.n 17,.n 3]⟩,
 ⟨[(.n 13,true)],.pre 31 [.n 17,.n 3]⟩,
 ⟨[(.n 13,true)],.pre 30 [.n 24,.n 2]⟩,
 ⟨[(.n 13,true)],.pre 31 [.n 24,.n 2]⟩,
 ⟨[(.n 13,true)],.pre 30 [.n 24,.n 3]⟩,
 ⟨[(.n 13,true)],.pre 31 [.n 24,.n 3]⟩,
 ⟨[(.n 13,true)],.pre 8 [.n 30,.n 32]⟩]
theorem Uw:whole Try.prog Kc 20 30 41 [(true,[some .i64,some .i64]),(true,[some .i64,some .i64])]=some (.tup [.agg [.int .i64 (.n 41),.int .i64 (.n 42)],.c (.int .i64 (.n 40))],⟨JH.reverse,VK.reverse⟩):=by kernel_rfl
theorem Uk:wfN JH.reverse=true:=by kernel_rfl
theorem X6 (a1 a2 b1 b2:Int) (w:World) (ha:fxV a1 a2=true) (hb:fxV b1 b2=true) (h0:0<b1):Calls Try.prog 41 #[.agg #[.int .i64 a1,.int .i64 a2],.agg #[.int .i64 b1,.int .i64 b2]] w fun e w'=>e=.returned (opV (il a1 a2 b1 b2) (iQ a1 a2 b1 b2))/\Below w.heap.size w w':=by
 refine Sx.calls (X:=cxC [a1,a2,b1,b2]) dB (Fb _) Uw Uk (fun v hs=>?_) w
 obtain ⟨ha1,ha2,ha3⟩:=(bO _ _).1 ha;obtain ⟨hb1,hb2,hb3⟩:=(bO _ _).1 hb;have e0:v 0=a1:=ae hs 0 rfl;have e1:v 1=a2:=ae hs 1 rfl;have e2:v 2=b1:=ae hs 2 rfl;have e3:v 3=b2:=ae hs 3 rfl;have e4:v 4=b2i (fxV (v 0) (v 1)):=ae hs 4 rfl;have e5:v 5=b2i (fxV (v 2) (v 3)):=ae hs 5 rfl;have e6:v 6=if v 4≠0 then v 5 else (0:Int):=ae hs 6 rfl
 have e7:v 7=if v 6≠0 then (0:Int) else (1:Int):=ae hs 7 rfl
 have e8:v 8=b2i (decide (v 2<=(0:Int))):=ae hs 8 rfl;have e9:v 9=b2i (decide (v 3>=(0:Int))):=ae hs 9 rfl;have e10:v 10=if v 8≠0 then v 9 else (0:Int):=ae hs 10 rfl
 have e11:v 11=if v 10≠0 then (0:Int) else (1:Int):=ae hs 11 rfl
 have e12:v 12=if v 7≠0 then (0:Int) else (1:Int):=ae hs 12 rfl
 have e13:v 13=if v 12≠0 then v 11 else (0:Int):=ae hs 13 rfl
 have e14:v 14=if v 12≠0 then v 10 else (0:Int):=ae hs 14 rfl
 have e15:v 15=if v 7≠0 then (1:Int) else v 14:=ae hs 15 rfl
 have e16:v 16=if v 7≠0 then (1:Int) else (16:Int):=ae hs 16 rfl
 have e17:v 17=IntKind.i64.wrap (v 0*(1073741824:Int)):=ae hs 17 rfl;have e18:v 18=(pq 30 [v 17,v 2]).getD 0 0:=ae hs 18 rfl;have e19:v 19=(pq 31 [v 17,v 2]).getD 0 0:=ae hs 19 rfl;have e20:v 20=(pq 30 [v 17,v 3]).getD 0 0:=ae hs 20 rfl;have e21:v 21=if v 20<v 18 then v 20 else v 18:=ae hs 21 rfl
 have e22:v 22=(pq 31 [v 17,v 3]).getD 0 0:=ae hs 22 rfl;have e23:v 23=if v 22>v 19 then v 22 else v 19:=ae hs 23 rfl
 have e24:v 24=IntKind.i64.wrap (v 1*(1073741824:Int)):=ae hs 24 rfl;have e25:v 25=(pq 30 [v 24,v 2]).getD 0 0:=ae hs 25 rfl;have e26:v 26=if v 25<v 21 then v 25 else v 21:=ae hs 26 rfl
 have e27:v 27=(pq 31 [v 24,v 2]).getD 0 0:=ae hs 27 rfl;have e28:v 28=if v 27>v 23 then v 27 else v 23:=ae hs 28 rfl
 have e29:v 29=(pq 30 [v 24,v 3]).getD 0 0:=ae hs 29 rfl;have e30:v 30=if v 29<v 26 then v 29 else v 26:=ae hs 30 rfl
 have e31:v 31=(pq 31 [v 24,v 3]).getD 0 0:=ae hs 31 rfl;have e32:v 32=if v 31>v 28 then v 31 else v 28:=ae hs 32 rfl
 have e33:v 33=b2i (fxV (v 30) (v 32)):=ae hs 33 rfl;have e34:v 34=if v 33≠0 then (0:Int) else (1:Int):=ae hs 34 rfl
 have e35:v 35=if v 34≠0 then (0:Int) else (1:Int):=ae hs 35 rfl
 have e36:v 36=if v 34≠0 then (5:Int) else (0:Int):=ae hs 36 rfl
 have e37:v 37=if v 34≠0 then (0:Int) else v 30:=ae hs 37 rfl
 have e38:v 38=if v 34≠0 then (0:Int) else v 32:=ae hs 38 rfl
 have e39:v 39=if v 15≠0 then (1:Int) else v 13:=ae hs 39 rfl
 have e40:v 40=if v 15≠0 then v 16 else v 36:=ae hs 40 rfl
 have e41:v 41=if v 15≠0 then (0:Int) else v 37:=ae hs 41 rfl
 have e42:v 42=if v 15≠0 then (0:Int) else v 38:=ae hs 42 rfl
 have A4:v 4=(1:Int):=e4.trans (by rw [e0,e1,ha];rfl)
 have A5:v 5=(1:Int):=e5.trans (by rw [e2,e3,hb];rfl)
 have A8:v 8=(0:Int):=e8.trans (by rw [e2];rw [show decide (b1<=0)=false from decide_eq_false (by omega)];rfl)
 have A17:v 17=a1*1073741824:=e17.trans (by rw [e0];exact Go.IntWalk.i64_in _ (by omega))
 have A24:v 24=a2*1073741824:=e24.trans (by rw [e1];exact Go.IntWalk.i64_in _ (by omega))
 have f4:v 4=(1:Int):=A4;have f5:v 5=(1:Int):=A5;have n6:v 6=if (1:Int)≠0 then (1:Int) else (0:Int):=e6.trans (by rw [f4,f5])
 have f6:v 6=(1:Int):=n6.trans (if_pos (by decide))
 have n7:v 7=if (1:Int)≠0 then (0:Int) else (1:Int):=e7.trans (by rw [f6])
 have f7:v 7=(0:Int):=n7.trans (if_pos (by decide))
 have f8:v 8=(0:Int):=A8;have n10:v 10=if (0:Int)≠0 then v 9 else (0:Int):=e10.trans (by rw [f8])
 have f10:v 10=(0:Int):=n10.trans (if_neg (by decide))
 have n11:v 11=if (0:Int)≠0 then (0:Int) else (1:Int):=e11.trans (by rw [f10])
 have f11:v 11=(1:Int):=n11.trans (if_neg (by decide))
 have n12:v 12=if (0:Int)≠0 then (0:Int) else (1:Int):=e12.trans (by rw [f7])
 have f12:v 12=(1:Int):=n12.trans (if_neg (by decide))
 have n13:v 13=if (1:Int)≠0 then (1:Int) else (0:Int):=e13.trans (by rw [f12,f11])
 have f13:v 13=(1:Int):=n13.trans (if_pos (by decide))
 have n14:v 14=if (1:Int)≠0 then (0:Int) else (0:Int):=e14.trans (by rw [f12,f10])
 have f14:v 14=(0:Int):=n14.trans (if_pos (by decide))
 have n15:v 15=if (0:Int)≠0 then (1:Int) else (0:Int):=e15.trans (by rw [f7,f14])
 have f15:v 15=(0:Int):=n15.trans (if_neg (by decide))
 have n16:v 16=if (0:Int)≠0 then (1:Int) else (16:Int):=e16.trans (by rw [f7])
 have f16:v 16=(16:Int):=n16.trans (if_neg (by decide))
 have n40:v 40=if (0:Int)≠0 then (16:Int) else v 36:=e40.trans (by rw [f15,f16])
 have f40:v 40=v 36:=n40.trans (if_neg (by decide))
 have n41:v 41=if (0:Int)≠0 then (0:Int) else v 37:=e41.trans (by rw [f15])
 have f41:v 41=v 37:=n41.trans (if_neg (by decide))
 have n42:v 42=if (0:Int)≠0 then (0:Int) else v 38:=e42.trans (by rw [f15])
 have f42:v 42=v 38:=n42.trans (if_neg (by decide))
 have P17:-4611686018427387904<=v 17/\v 17<=4611686018427387904:=by rw [A17];omega
 have P24:-4611686018427387904<=v 24/\v 24<=4611686018427387904:=by rw [A24];omega
 have P2:0<v 2/\v 2<=4611686018427387904:=by rw [e2];omega
 have P3:0<v 3/\v 3<=4611686018427387904:=by rw [e3];omega
 refine ⟨aU ?_,?_⟩
 . refine ag ?_ (ag ?_ (ag ?_ (ag ?_ (ag ?_ (ag ?_ (ag ?_ (ag ?_ (ag ?_ (ag ?_ (ag ?_ (ag ?_ (ag ?_ (aT)))))))))))))
   . exact fun _=>trivial
   . exact fun _=>trivial
   . exact fun _=>⟨P17,P2⟩
   . exact fun _=>⟨P17,P2⟩
   . exact fun _=>⟨P17,P2⟩
   . exact fun _=>⟨P17,P2⟩
   . exact fun _=>⟨P17,P3⟩
   . exact fun _=>⟨P17,P3⟩
   . exact fun _=>⟨P24,P2⟩
   . exact fun _=>⟨P24,P2⟩
   . exact fun _=>⟨P24,P3⟩
   . exact fun _=>⟨P24,P3⟩
   . exact fun _=>trivial
 . intro x hx;have hx':=aW (v:=v) (by rfl) hx
   rw [hx']
   have L30:v 30=il a1 a2 b1 b2:=by
    rw [e30,e26,e21,e18,e20,e25,e29,A17,A24,e2,e3];rfl
   have L32:v 32=iQ a1 a2 b1 b2:=by
    rw [e32,e28,e23,e19,e22,e27,e31,A17,A24,e2,e3];rfl
   show Value.tuple #[.agg #[.int .i64 (v 41),.int .i64 (v 42)],.int .i64 (v 40)]=_;unfold opV jS jU jI;have T:v 33=b2i (fxV (il a1 a2 b1 b2) (iQ a1 a2 b1 b2)):=by rw [e33,L30,L32]
   by_cases hv:fxV (il a1 a2 b1 b2) (iQ a1 a2 b1 b2)=true
   . have hv':=(bO _ _).1 hv;rw [if_pos hv',if_pos hv',if_pos hv'];rw [hv] at T;rw [f40,f41,f42,e36,e37,e38,e34,T,L30,L32];rfl
   . have hv':=fun q=>hv ((bO _ _).2 q)
     rw [if_neg hv',if_neg hv',if_neg hv'];rw [Bool.eq_false_iff.2 hv] at T;rw [f40,f41,f42,e36,e37,e38,e34,T];rfl
