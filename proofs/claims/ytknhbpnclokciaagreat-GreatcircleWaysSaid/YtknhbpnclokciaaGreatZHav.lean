/- The contracts of the haversine and its inverse, and of the reference's. -/
import Derived.Test.YtknhbpnclokciaaGreatZAco
set_option linter.unusedVariables false
set_option linter.unusedSimpArgs false
set_option maxRecDepth 100000
namespace Go.Proofs.YtknhbpnclokciaaGreat
open Go.RowKit Alm Sx
theorem ad7 (x:Int):bI .shr .i64 x 1=x/2:=Int.fdiv_eq_ediv_of_nonneg x (by decide)
def ZC (a b:Int):Int:=(1073741824-dB (a+5400000) (b+5400000))/2
def Zq (a b:Int):Int:=(1073741824-dA (a+5400000) (b+5400000)+1)/2
def aec (a b:Int):List Int:=[ZC a b,Zq a b,0]
theorem aav (a b:Int):0<=ZC a b/\ZC a b<=Zq a b/\Zq a b<=1073741824:=by
 have h:=Rk (a+5400000) (b+5400000);unfold ZC Zq;omega
theorem aaR {n f e c5 c6 c8 c9 c10 c11 c12:Int} (hf:f=bLo n) (he:e=b2i (dx (bC n))) (h5:c5=IntKind.i64.wrap (1073741824-f)) (h6:c6=IntKind.i64.wrap (Int.tdiv c5 2)) (h8:c8=IntKind.i64.wrap (c5-1)) (h9:c9=IntKind.i64.wrap (Int.tdiv c8 2)) (h10:c10=IntKind.i64.wrap (c9+1)) (h11:c11=if e≠0 then c6 else c9) (h12:c12=if e≠0 then c6 else c10) :
 c11=(1073741824-bHi n)/2/\c12=(1073741824-bLo n+1)/2:=by
 have b:=jR n;rw [Go.IntWalk.i64_in _ (by omega)] at h5
 have t5:Int.tdiv c5 2=c5/2:=Int.tdiv_eq_ediv_of_nonneg (by omega)
 rw [t5,Go.IntWalk.i64_in _ (by omega)] at h6
 rw [h11,h12,he];cases hE:dx (bC n)
 . rw [if_neg (by decide),if_neg (by decide)]
   have hb:bHi n=bLo n+1:=by
    unfold bHi bLo;rw [hE];split<;>simp<;>omega
   rw [Go.IntWalk.i64_in _ (by omega)] at h8
   have t8:Int.tdiv c8 2=c8/2:=Int.tdiv_eq_ediv_of_nonneg (by omega)
   rw [t8,Go.IntWalk.i64_in _ (by omega)] at h9
   rw [Go.IntWalk.i64_in _ (by omega)] at h10
   omega
 . rw [if_pos (by decide),if_pos (by decide)]
   have hb:bHi n=bLo n:=RJ n hE
   have ev:bLo n%2=0:=by
    have q:bC n=0∨bC n=1800000∨bC n=5400000:=by
     unfold dx at hE;simp at hE;omega
    unfold bLo;rw [hE];rcases q with q|q|q<;>rw [q]<;>(split<;>decide)
   omega
def aat:Nat->List Int->List Int
 | 70,[n]=>[bLo n,b2i (dx (bC n))]
 | 71,[a,b]=>[dA a b,dB a b]
 | 72,[a,b,n]=>[b2i (cB a b n)]
 | _,_=>[]
def adX:Nat->List Int->Prop
 | 70,[_]=>True
 | 71,[a,b]=>JX a b
 | 72,[a,b,n]=>JX a b/\-21600000<=n/\n<=21600000
 | _,_=>False
def aaD (args:List Int):Cx:=⟨aat,adX,args⟩
def adH:Sx.Spec:=⟨203,71,[(true,[some .i64,some .i64])],[(true,[some .i64,some .i64])]⟩
def adG:Sx.Spec:=⟨340,70,[(false,[some .i64])],[(false,[some .i64]),(false,[none])]⟩
def adn:Sx.Spec:=⟨303,72,[(true,[some .i64,some .i64]),(false,[some .i64])],[(false,[none])]⟩
def abA:List Sx.Spec:=[adH]
def abp:List Sx.Spec:=[adG,adn]
theorem abh (args:List Int):∀ s∈abA,aQ Tryz.prog (aaD args) s:=by
 intro s hs;simp only [abA,List.mem_cons,List.not_mem_nil,or_false] at hs;rcases hs with rfl
 refine ⟨ours _ _ _ Tryz.func203 rfl (by kernel_rfl),fun xs hp w=>?_⟩
 match xs,hp with
 | [a,b],hp=>exact qF a b w hp
theorem abu (args:List Int):∀ s∈abp,aQ Tryz.prog (aaD args) s:=by
 intro s hs;simp only [abp,List.mem_cons,List.not_mem_nil,or_false] at hs;rcases hs with rfl|rfl
 . refine ⟨ours _ _ _ Tryz.func340 rfl (by kernel_rfl),fun xs hp w=>?_⟩
   match xs,hp with
   | [n],hp =>
    refine (zt n w).mono ?_;rintro e w' ⟨he,hb⟩;refine ⟨?_,hb⟩;rw [he];exact congrArg (fun z=>Ending.returned (.tuple #[.int .i64 (bLo n),z])) (jU _).symm
 . refine ⟨ours _ _ _ Tryz.func303 rfl (by kernel_rfl),fun xs hp w=>?_⟩
   match xs,hp with
   | [a,b,n],hp =>
    refine (Rz a b n w hp.1 hp.2).mono ?_;rintro e w' ⟨he,hb⟩;exact ⟨by rw [he];exact congrArg Ending.returned (jU _).symm,hb⟩
def ZF:List Nd:=[
 .arg 0,
 .arg 1,
 .bin .geq .i64 (.n 0) (.c (-1099511627776)),
 .bin .leq .i64 (.n 0) (.n 1),
 .ite (.n 2) (.n 3) (.c 0),
 .bin .leq .i64 (.n 1) (.c 1099511627776),
 .ite (.n 4) (.n 5) (.c 0),
 .ite (.n 6) (.c 0) (.c 1),
 .bin .add .i64 (.n 0) (.c 5400000),
 .bin .add .i64 (.n 1) (.c 5400000),
 .app 71 0 [.n 8,.n 9],
 .app 71 1 [.n 8,.n 9],
 .bin .sub .i64 (.c 1073741824) (.n 11),
 .bin .shr .i64 (.n 12) (.c 1),
 .bin .sub .i64 (.c 1073741824) (.n 10),
 .bin .add .i64 (.n 14) (.c 1),
 .bin .shr .i64 (.n 15) (.c 1),
 .ite (.n 7) (.c 0) (.n 13),
 .ite (.n 7) (.c 0) (.n 16)]
def acE:List Vc:=[
 ⟨[(.n 6,true)],.pre 71 [.n 8,.n 9]⟩]
theorem acF:whole Tryz.prog abA 20 40 306 [(true,[some .i64,some .i64])]=some (.tup [.agg [.int .i64 (.n 17),.int .i64 (.n 18)],.c (.int .i64 (.n 7))],⟨ZF.reverse,acE.reverse⟩):=by kernel_rfl
theorem abV:wfN ZF.reverse=true:=by kernel_rfl
theorem ady (a b:Int) (w:World) (h:aH a b=true):Calls Tryz.prog 306 #[.agg #[.int .i64 a,.int .i64 b]] w fun e w'=>e=.returned (.tuple #[.agg #[.int .i64 (ZC a b),.int .i64 (Zq a b)],.int .i64 0])/\Below w.heap.size w w':=by
 refine Sx.calls (X:=aaD [a,b]) il (abh _) acF abV (fun v hs=>?_) w
 have e0:v 0=a:=ae hs 0 rfl;have e1:v 1=b:=ae hs 1 rfl;have e2:v 2=b2i (decide (v 0>=(-1099511627776:Int))):=ae hs 2 rfl;have e3:v 3=b2i (decide (v 0<=v 1)):=ae hs 3 rfl;have e4:v 4=if v 2≠0 then v 3 else (0:Int):=ae hs 4 rfl
 have e5:v 5=b2i (decide (v 1<=(1099511627776:Int))):=ae hs 5 rfl;have e6:v 6=if v 4≠0 then v 5 else (0:Int):=ae hs 6 rfl
 have e7:v 7=if v 6≠0 then (0:Int) else (1:Int):=ae hs 7 rfl
 have e8:v 8=IntKind.i64.wrap (v 0+(5400000:Int)):=ae hs 8 rfl;have e9:v 9=IntKind.i64.wrap (v 1+(5400000:Int)):=ae hs 9 rfl;have e10:v 10=(aat 71 [v 8,v 9]).getD 0 0:=ae hs 10 rfl;have e11:v 11=(aat 71 [v 8,v 9]).getD 1 0:=ae hs 11 rfl;have e12:v 12=IntKind.i64.wrap ((1073741824:Int)-v 11):=ae hs 12 rfl;have e13:v 13=bI .shr .i64 (v 12) ((1:Int)):=ae hs 13 rfl;have e14:v 14=IntKind.i64.wrap ((1073741824:Int)-v 10):=ae hs 14 rfl;have e15:v 15=IntKind.i64.wrap (v 14+(1:Int)):=ae hs 15 rfl;have e16:v 16=bI .shr .i64 (v 15) ((1:Int)):=ae hs 16 rfl;have e17:v 17=if v 7≠0 then (0:Int) else v 13:=ae hs 17 rfl
 have e18:v 18=if v 7≠0 then (0:Int) else v 16:=ae hs 18 rfl
 have hh:=(eF _ _).1 h;have A6:v 6=1:=by rw [e6,e4,e2,e3,e5,bb2,bb2,e0,e1,decide_eq_true (by omega)];rfl
 have w8:v 8=a+5400000:=by rw [e8,e0,Go.IntWalk.i64_in _ (by omega)]
 have w9:v 9=b+5400000:=by rw [e9,e1,Go.IntWalk.i64_in _ (by omega)]
 have E:=Rk (a+5400000) (b+5400000);have w10:v 10=dA (a+5400000) (b+5400000):=by rw [e10,w8,w9];rfl
 have w11:v 11=dB (a+5400000) (b+5400000):=by rw [e11,w8,w9];rfl
 have w12:v 12=1073741824-v 11:=by rw [e12,Go.IntWalk.i64_in _ (by omega)]
 have w14:v 14=1073741824-v 10:=by rw [e14,Go.IntWalk.i64_in _ (by omega)]
 have w15:v 15=v 14+1:=by rw [e15,Go.IntWalk.i64_in _ (by omega)]
 have w13:v 13=ZC a b:=by rw [e13,ad7,w12,w11];rfl
 have w16:v 16=Zq a b:=by rw [e16,ad7,w15,w14,w10];rfl
 have z7:v 7=0:=aL (X:=aaD [a,b]) (v:=v) (l:=ZF) (aan _) hs (k:=7) (r:=.c 0) (ps:=[(6,.c 1)]) (nz:=[]) (ah A6 aK) bB (by kernel_rfl)
 have z17:v 17=v 13:=kW (X:=aaD [a,b]) (v:=v) (l:=ZF) (aan _) hs (k:=17) (j:=13) (ps:=[(6,.c 1)]) (ah A6 aK) (by kernel_rfl)
 have z18:v 18=v 16:=kW (X:=aaD [a,b]) (v:=v) (l:=ZF) (aan _) hs (k:=18) (j:=16) (ps:=[(6,.c 1)]) (ah A6 aK) (by kernel_rfl)
 have P71:JX (v 8) (v 9):=by rw [w8,w9];exact ⟨by omega,by omega,by omega⟩
 refine ⟨dV ?_,?_⟩
 . exact aj (fun _=>P71) (dO)
 . intro x hx0;have hx':=gG (v:=v) (by rfl) hx0
   rw [hx'];show Value.tuple #[.agg #[.int .i64 (v 17),.int .i64 (v 18)],.int .i64 (v 7)]=_;rw [z7,z17,z18,w13,w16]
def aaJ:List Nd:=[
 .arg 0,
 .arg 1,
 .bin .add .i64 (.n 0) (.c 5400000),
 .app 70 0 [.n 2],
 .app 70 1 [.n 2],
 .bin .sub .i64 (.c 1073741824) (.n 3),
 .bin .quo .i64 (.n 5) (.c 2),
 .ite (.n 4) (.c 0) (.c 1),
 .bin .sub .i64 (.n 5) (.c 1),
 .bin .quo .i64 (.n 8) (.c 2),
 .bin .add .i64 (.n 9) (.c 1),
 .ite (.n 4) (.n 6) (.n 9),
 .ite (.n 4) (.n 6) (.n 10),
 .bin .add .i64 (.n 1) (.c 5400000),
 .app 70 0 [.n 13],
 .app 70 1 [.n 13],
 .bin .sub .i64 (.c 1073741824) (.n 14),
 .bin .quo .i64 (.n 16) (.c 2),
 .ite (.n 15) (.c 0) (.c 1),
 .bin .sub .i64 (.n 16) (.c 1),
 .bin .quo .i64 (.n 19) (.c 2),
 .bin .add .i64 (.n 20) (.c 1),
 .ite (.n 15) (.n 17) (.n 20),
 .ite (.n 15) (.n 17) (.n 21),
 .mn (.n 11) (.n 22),
 .mx (.n 12) (.n 23),
 .app 72 0 [.n 0,.n 1,.c 10800000],
 .ite (.n 26) (.c 0) (.c 1),
 .ite (.n 26) (.c 1073741824) (.n 25),
 .app 72 0 [.n 0,.n 1,.c 0],
 .ite (.n 29) (.c 0) (.c 1),
 .ite (.n 29) (.c 0) (.n 24)]
def acj:List Vc:=[
 ⟨[],.pre 70 [.n 2]⟩,
 ⟨[],.pre 70 [.n 13]⟩,
 ⟨[],.pre 72 [.n 0,.n 1,.c 10800000]⟩,
 ⟨[],.pre 72 [.n 0,.n 1,.c 0]⟩]
theorem acC:whole Tryz.prog abp 20 40 314 [(true,[some .i64,some .i64])]=some (.p (.agg [.int .i64 (.n 31),.int .i64 (.n 28)]),⟨aaJ.reverse,acj.reverse⟩):=by kernel_rfl
theorem acn:wfN aaJ.reverse=true:=by kernel_rfl
theorem adj (a b:Int) (w:World) (h:aH a b=true):Calls Tryz.prog 314 #[.agg #[.int .i64 a,.int .i64 b]] w fun e w'=>e=.returned (.agg #[.int .i64 (ZC a b),.int .i64 (Zq a b)])/\Below w.heap.size w w':=by
 refine Sx.calls (X:=aaD [a,b]) il (abu _) acC acn (fun v hs=>?_) w
 have e0:v 0=a:=ae hs 0 rfl;have e1:v 1=b:=ae hs 1 rfl;have e2:v 2=IntKind.i64.wrap (v 0+(5400000:Int)):=ae hs 2 rfl;have e13:v 13=IntKind.i64.wrap (v 1+(5400000:Int)):=ae hs 13 rfl;have e24:v 24=if v 22<v 11 then v 22 else v 11:=ae hs 24 rfl
 have e25:v 25=if v 23>v 12 then v 23 else v 12:=ae hs 25 rfl
 have e26:v 26=(aat 72 [v 0,v 1,(10800000:Int)]).getD 0 0:=ae hs 26 rfl;have e28:v 28=if v 26≠0 then (1073741824:Int) else v 25:=ae hs 28 rfl
 have e29:v 29=(aat 72 [v 0,v 1,(0:Int)]).getD 0 0:=ae hs 29 rfl;have e31:v 31=if v 29≠0 then (0:Int) else v 24:=ae hs 31 rfl
 have hh:=(eF _ _).1 h;have w2:v 2=a+5400000:=by rw [e2,e0,Go.IntWalk.i64_in _ (by omega)]
 have w13:v 13=b+5400000:=by rw [e13,e1,Go.IntWalk.i64_in _ (by omega)]
 have L:=aaR (n:=v 2) (f:=v 3) (e:=v 4) (c5:=v 5) (c6:=v 6) (c8:=v 8) (c9:=v 9) (c10:=v 10) (c11:=v 11) (c12:=v 12) (ae hs 3 rfl) (ae hs 4 rfl) (ae hs 5 rfl) (ae hs 6 rfl) (ae hs 8 rfl) (ae hs 9 rfl) (ae hs 10 rfl) (ae hs 11 rfl) (ae hs 12 rfl);have R:=aaR (n:=v 13) (f:=v 14) (e:=v 15) (c5:=v 16) (c6:=v 17) (c8:=v 19) (c9:=v 20) (c10:=v 21) (c11:=v 22) (c12:=v 23) (ae hs 14 rfl) (ae hs 15 rfl) (ae hs 16 rfl) (ae hs 17 rfl) (ae hs 19 rfl) (ae hs 20 rfl) (ae hs 21 rfl) (ae hs 22 rfl) (ae hs 23 rfl);rw [w2] at L;rw [w13] at R
 have m1:v 26=b2i (cB (a+5400000) (b+5400000) 16200000):=by
  rw [e26,e0,e1];show b2i (cB a b 10800000)=_;unfold cB;rw [show (16200000:Int)-(a+5400000)=10800000-a by omega,show b+5400000-(a+5400000)=b-a by omega]
 have m2:v 29=b2i (cB (a+5400000) (b+5400000) 5400000):=by
  rw [e29,e0,e1];show b2i (cB a b 0)=_;unfold cB;rw [show (5400000:Int)-(a+5400000)=0-a by omega,show b+5400000-(a+5400000)=b-a by omega]
 have w28:v 28=Zq a b:=by
  unfold Zq dA;rw [e28,m1];cases cB (a+5400000) (b+5400000) 16200000
  . rw [if_neg (by decide),if_neg (by decide)];omega
  . rw [if_pos (by decide),if_pos rfl];decide
 have w31:v 31=ZC a b:=by
  unfold ZC dB;rw [e31,m2];cases cB (a+5400000) (b+5400000) 5400000
  . rw [if_neg (by decide),if_neg (by decide)];omega
  . rw [if_pos (by decide),if_pos rfl];decide
 have P72:JX (v 0) (v 1):=by rw [e0,e1];exact ⟨by omega,by omega,by omega⟩
 have n1:-21600000<=(10800000:Int)/\(10800000:Int)<=21600000:=by decide
 have n0:-21600000<=(0:Int)/\(0:Int)<=21600000:=by decide
 refine ⟨dV ?_,?_⟩
 . exact aj (fun _=>trivial) (aj (fun _=>trivial) (aj (fun _=>⟨P72,n1⟩) (aj (fun _=>⟨P72,n0⟩) (dO))))
 . intro x hx0;have hx':=gG (v:=v) (by rfl) hx0
   rw [hx'];show Value.agg #[.int .i64 (v 31),.int .i64 (v 28)]=_;rw [w28,w31]
def aao (a b:Int):Int:=ZW (1073741824-2*max a 0)
def aaf (a b:Int):Int:=ZX (1073741824-2*min b 1073741824)
def aea (a b:Int):List Int:=[aao a b,aaf a b,0]
def abM (a b:Int):Prop:=fxV a b=true/\0<=b/\a<=1073741824
theorem aaU (x y:Int):(TV 46 [x,y]).getD 0 0=ZW y/\(TV 46 [x,y]).getD 1 0=ZX x/\(TV 46 [x,y]).getD 2 0=0:=Z7 _ _ _
def Zv:List Nd:=[
 .arg 0,
 .arg 1,
 .app 8 0 [.n 0,.n 1],
 .ite (.n 2) (.c 0) (.c 1),
 .ite (.n 3) (.c 0) (.c 1),
 .mx (.n 0) (.c 0),
 .mn (.n 1) (.c 1073741824),
 .bin .leq .i64 (.n 5) (.n 6),
 .ite (.n 7) (.c 0) (.c 1),
 .bin .mul .i64 (.c 2) (.n 6),
 .bin .sub .i64 (.c 1073741824) (.n 9),
 .bin .mul .i64 (.c 2) (.n 5),
 .bin .sub .i64 (.c 1073741824) (.n 11),
 .app 46 0 [.n 10,.n 12],
 .app 46 1 [.n 10,.n 12],
 .app 46 2 [.n 10,.n 12],
 .ite (.n 8) (.c 2) (.n 15),
 .ite (.n 8) (.c 0) (.n 13),
 .ite (.n 8) (.c 0) (.n 14),
 .ite (.n 3) (.c 1) (.n 16),
 .ite (.n 3) (.c 0) (.n 17),
 .ite (.n 3) (.c 0) (.n 18),
 .ite (.n 3) (.n 0) (.n 5),
 .ite (.n 3) (.n 1) (.n 6)]
def abU:List Vc:=[
 ⟨[],.pre 8 [.n 0,.n 1]⟩,
 ⟨[(.n 7,true),(.n 4,true)],.pre 46 [.n 10,.n 12]⟩]
theorem acx:whole Tryz.prog aaF 20 40 307 [(true,[some .i64,some .i64])]=some (.tup [.agg [.int .i64 (.n 20),.int .i64 (.n 21)],.c (.int .i64 (.n 19))],⟨Zv.reverse,abU.reverse⟩):=by kernel_rfl
theorem acy:wfN Zv.reverse=true:=by kernel_rfl
theorem adk (a b:Int) (w:World) (h:abM a b):Calls Tryz.prog 307 #[.agg #[.int .i64 a,.int .i64 b]] w fun e w'=>e=.returned (.tuple #[.agg #[.int .i64 (aao a b),.int .i64 (aaf a b)],.int .i64 0])/\Below w.heap.size w w':=by
 refine Sx.calls (X:=cxA [a,b]) il (aai _) acx acy (fun v hs=>?_) w
 have e0:v 0=a:=ae hs 0 rfl;have e1:v 1=b:=ae hs 1 rfl;have e5:v 5=if (0:Int)>v 0 then (0:Int) else v 0:=ae hs 5 rfl
 have e6:v 6=if (1073741824:Int)<v 1 then (1073741824:Int) else v 1:=ae hs 6 rfl
 have e9:v 9=IntKind.i64.wrap ((2:Int)*v 6):=ae hs 9 rfl;have e10:v 10=IntKind.i64.wrap ((1073741824:Int)-v 9):=ae hs 10 rfl;have e11:v 11=IntKind.i64.wrap ((2:Int)*v 5):=ae hs 11 rfl;have e12:v 12=IntKind.i64.wrap ((1073741824:Int)-v 11):=ae hs 12 rfl;have e13:v 13=(TV 46 [v 10,v 12]).getD 0 0:=ae hs 13 rfl;have e14:v 14=(TV 46 [v 10,v 12]).getD 1 0:=ae hs 14 rfl;have e15:v 15=(TV 46 [v 10,v 12]).getD 2 0:=ae hs 15 rfl;have e7:v 7=b2i (decide (v 5<=v 6)):=ae hs 7 rfl;have e2:v 2=b2i (fxV (v 0) (v 1)):=ae hs 2 rfl;obtain ⟨h1,h2,h3⟩:=h;have hh:=(dQ _ _).1 h1;have wp:v 5=max a 0:=by rw [e5,e0];omega
 have wq:v 6=min b 1073741824:=by rw [e6,e1];omega
 have A2:v 2=1:=by rw [e2,e0,e1,h1];rfl
 have AK:v 7=1:=by rw [e7,wp,wq,decide_eq_true (by omega)];rfl
 have w9:v 9=2*v 6:=by rw [e9,Go.IntWalk.i64_in _ (by omega)]
 have w10:v 10=1073741824-2*min b 1073741824:=by rw [e10,w9,wq,Go.IntWalk.i64_in _ (by omega)]
 have w11:v 11=2*v 5:=by rw [e11,Go.IntWalk.i64_in _ (by omega)]
 have w12:v 12=1073741824-2*max a 0:=by rw [e12,w11,wp,Go.IntWalk.i64_in _ (by omega)]
 have V0:v 13=ZW (v 12):=e13.trans (aaU _ _).1;have V1:v 14=ZX (v 10):=e14.trans (aaU _ _).2.1;have z20:v 20=v 13:=kW (X:=cxA [a,b]) (v:=v) (l:=Zv) (Q4 _) hs (k:=20) (j:=13) (ps:=[(2,.c 1),(7,.c 1)]) (ah A2 (ah AK aK)) (by kernel_rfl)
 have z21:v 21=v 14:=kW (X:=cxA [a,b]) (v:=v) (l:=Zv) (Q4 _) hs (k:=21) (j:=14) (ps:=[(2,.c 1),(7,.c 1)]) (ah A2 (ah AK aK)) (by kernel_rfl)
 have z19:v 19=0:=aL (X:=cxA [a,b]) (v:=v) (l:=Zv) (Q4 _) hs (k:=19) (r:=.c 0) (ps:=[(2,.c 1),(7,.c 1)]) (nz:=[]) (ah A2 (ah AK aK)) bB (by kernel_rfl)
 have P46:fxV (v 10) (v 12)=true/\v 10<=1073741824/\-1073741824<=v 12:=by rw [dQ,w10,w12];omega
 refine ⟨dV ?_,?_⟩
 . exact aj (fun _=>trivial) (aj (fun _=>P46) (dO))
 . intro x hx0;have hx':=gG (v:=v) (by rfl) hx0
   rw [hx'];show Value.tuple #[.agg #[.int .i64 (v 20),.int .i64 (v 21)],.int .i64 (v 19)]=_;rw [z20,z21,z19,V0,V1,w10,w12];rfl
def Zr:List Nd:=[
 .arg 0,
 .arg 1,
 .bin .leq .i64 (.n 0) (.n 1),
 .bin .geq .i64 (.n 0) (.c (-2147483648)),
 .ite (.n 2) (.n 3) (.c 0),
 .bin .leq .i64 (.n 1) (.c 2147483648),
 .ite (.n 4) (.n 5) (.c 0),
 .ite (.n 6) (.c 0) (.c 1),
 .bin .lss .i64 (.n 0) (.c 0),
 .ite (.n 8) (.c 0) (.c 1),
 .ite (.n 8) (.c 0) (.n 0),
 .bin .gtr .i64 (.n 1) (.c 1073741824),
 .ite (.n 11) (.c 0) (.c 1),
 .ite (.n 11) (.c 1073741824) (.n 1),
 .bin .gtr .i64 (.n 10) (.n 13),
 .ite (.n 14) (.c 0) (.c 1),
 .bin .mul .i64 (.c 2) (.n 13),
 .bin .sub .i64 (.c 1073741824) (.n 16),
 .bin .mul .i64 (.c 2) (.n 10),
 .bin .sub .i64 (.c 1073741824) (.n 18),
 .app 46 0 [.n 17,.n 19],
 .app 46 1 [.n 17,.n 19],
 .app 46 2 [.n 17,.n 19],
 .ite (.n 14) (.c 2) (.n 22),
 .ite (.n 14) (.c 0) (.n 20),
 .ite (.n 14) (.c 0) (.n 21),
 .ite (.n 7) (.c 1) (.n 23),
 .ite (.n 7) (.c 0) (.n 24),
 .ite (.n 7) (.c 0) (.n 25)]
def ab7:List Vc:=[
 ⟨[(.n 15,true),(.n 6,true)],.pre 46 [.n 17,.n 19]⟩]
theorem acg:whole Tryz.prog aaF 20 40 244 [(true,[some .i64,some .i64])]=some (.tup [.agg [.int .i64 (.n 27),.int .i64 (.n 28)],.c (.int .i64 (.n 26))],⟨Zr.reverse,ab7.reverse⟩):=by kernel_rfl
theorem acL:wfN Zr.reverse=true:=by kernel_rfl
theorem ads (a b:Int) (w:World) (h:abM a b):Calls Tryz.prog 244 #[.agg #[.int .i64 a,.int .i64 b]] w fun e w'=>e=.returned (.tuple #[.agg #[.int .i64 (aao a b),.int .i64 (aaf a b)],.int .i64 0])/\Below w.heap.size w w':=by
 refine Sx.calls (X:=cxA [a,b]) il (aai _) acg acL (fun v hs=>?_) w
 have e0:v 0=a:=ae hs 0 rfl;have e1:v 1=b:=ae hs 1 rfl;have e10:v 10=if v 8≠0 then (0:Int) else v 0:=ae hs 10 rfl
 have e13:v 13=if v 11≠0 then (1073741824:Int) else v 1:=ae hs 13 rfl
 have e16:v 16=IntKind.i64.wrap ((2:Int)*v 13):=ae hs 16 rfl;have e17:v 17=IntKind.i64.wrap ((1073741824:Int)-v 16):=ae hs 17 rfl;have e18:v 18=IntKind.i64.wrap ((2:Int)*v 10):=ae hs 18 rfl;have e19:v 19=IntKind.i64.wrap ((1073741824:Int)-v 18):=ae hs 19 rfl;have e20:v 20=(TV 46 [v 17,v 19]).getD 0 0:=ae hs 20 rfl;have e21:v 21=(TV 46 [v 17,v 19]).getD 1 0:=ae hs 21 rfl;have e22:v 22=(TV 46 [v 17,v 19]).getD 2 0:=ae hs 22 rfl;have e14:v 14=b2i (decide (v 10>v 13)):=ae hs 14 rfl;have e8:v 8=b2i (decide (v 0<(0:Int))):=ae hs 8 rfl;have e11:v 11=b2i (decide (v 1>(1073741824:Int))):=ae hs 11 rfl;have e2:v 2=b2i (decide (v 0<=v 1)):=ae hs 2 rfl;have e3:v 3=b2i (decide (v 0>=(-2147483648:Int))):=ae hs 3 rfl;have e4:v 4=if v 2≠0 then v 3 else (0:Int):=ae hs 4 rfl
 have e5:v 5=b2i (decide (v 1<=(2147483648:Int))):=ae hs 5 rfl;have e6:v 6=if v 4≠0 then v 5 else (0:Int):=ae hs 6 rfl
 obtain ⟨h1,h2,h3⟩:=h;have hh:=(dQ _ _).1 h1;have wp:v 10=max a 0:=by rw [e10,e8,Zk,e0];split<;>omega
 have wq:v 13=min b 1073741824:=by rw [e13,e11,Zk,e1];split<;>omega
 have A2:v 6=1:=by rw [e6,e4,e2,e3,e5,bb2,bb2,e0,e1,decide_eq_true (by omega)];rfl
 have AK:v 14=0:=by rw [e14,wp,wq,decide_eq_false (by omega)];rfl
 have w16:v 16=2*v 13:=by rw [e16,Go.IntWalk.i64_in _ (by omega)]
 have w17:v 17=1073741824-2*min b 1073741824:=by rw [e17,w16,wq,Go.IntWalk.i64_in _ (by omega)]
 have w18:v 18=2*v 10:=by rw [e18,Go.IntWalk.i64_in _ (by omega)]
 have w19:v 19=1073741824-2*max a 0:=by rw [e19,w18,wp,Go.IntWalk.i64_in _ (by omega)]
 have V0:v 20=ZW (v 19):=e20.trans (aaU _ _).1;have V1:v 21=ZX (v 17):=e21.trans (aaU _ _).2.1;have z27:v 27=v 20:=kW (X:=cxA [a,b]) (v:=v) (l:=Zr) (Q4 _) hs (k:=27) (j:=20) (ps:=[(6,.c 1),(14,.c 0)]) (ah A2 (ah AK aK)) (by kernel_rfl)
 have z28:v 28=v 21:=kW (X:=cxA [a,b]) (v:=v) (l:=Zr) (Q4 _) hs (k:=28) (j:=21) (ps:=[(6,.c 1),(14,.c 0)]) (ah A2 (ah AK aK)) (by kernel_rfl)
 have z26:v 26=0:=aL (X:=cxA [a,b]) (v:=v) (l:=Zr) (Q4 _) hs (k:=26) (r:=.c 0) (ps:=[(6,.c 1),(14,.c 0)]) (nz:=[]) (ah A2 (ah AK aK)) bB (by kernel_rfl)
 have P46:fxV (v 17) (v 19)=true/\v 17<=1073741824/\-1073741824<=v 19:=by rw [dQ,w17,w19];omega
 refine ⟨dV ?_,?_⟩
 . exact aj (fun _=>P46) (dO)
 . intro x hx0;have hx':=gG (v:=v) (by rfl) hx0
   rw [hx'];show Value.tuple #[.agg #[.int .i64 (v 27),.int .i64 (v 28)],.int .i64 (v 26)]=_;rw [z27,z28,z26,V0,V1,w17,w19];rfl
