/- The contracts of the haversine and its inverse, and of the reference's. -/
import Derived.Test.YtmldbeipmappnaaZAco
set_option linter.unusedVariables false
set_option linter.unusedSimpArgs false
set_option maxRecDepth 100000
namespace Go.Proofs.Ytmldbeipmappnaa
open Go.RowKit Alm Sx
theorem UG (x:Int):bR .shr .i64 x 1=x/2:=Int.fdiv_eq_ediv_of_nonneg x (by decide)
def sZ (a b:Int):Int:=(1073741824-dN (a+5400000) (b+5400000))/2
def qG (a b:Int):Int:=(1073741824-dJ (a+5400000) (b+5400000)+1)/2
def VX (a b:Int):List Int:=[sZ a b,qG a b,0]
theorem AC (a b:Int):0<=sZ a b/\sZ a b<=qG a b/\qG a b<=1073741824:=by
 have h:=za (a+5400000) (b+5400000);unfold sZ qG;omega
def Ih:Nat->List Int->List Int
 | 70,[n]=>[bLo n,b2i (fO (aD n))]
 | 71,[a,b]=>[dJ a b,dN a b]
 | 72,[a,b,n]=>[b2i (bI a b n)]
 | _,_=>[]
def Uu:Nat->List Int->Prop
 | 70,[_]=>True
 | 71,[a,b]=>EA a b
 | 72,[a,b,n]=>EA a b/\-21600000<=n/\n<=21600000
 | _,_=>False
def JU (args:List Int):Cx:=⟨Ih,Uu,args⟩
def Rp:Sx.Spec:=⟨155,71,[(true,[some .i64,some .i64])],[(true,[some .i64,some .i64])]⟩
def Ka:List Sx.Spec:=[Rp]
theorem Jf (args:List Int):∀ s∈Ka,aL Try.prog (JU args) s:=by
 intro s hs;simp only [Ka,List.mem_cons,List.not_mem_nil,or_false] at hs;rcases hs with rfl
 refine ⟨ours _ _ _ Try.func155 rfl (by kernel_rfl),fun xs hp w=>?_⟩
 match xs,hp with
 | [a,b],hp=>exact jP a b w hp
def mX:List Nd:=[
 .arg 0,
 .arg 1,
 .bin .geq .i64 (.n 0) (.c (-1099511627776)),
 .bin .leq .i64 (.n 0) (.n 1),
 .ite (.n 2) (.n 3) (.c 0),
 .bin .leq .i64 (.n 1) (.c 1099511627776),
 .ite (.n 4) (.n 5) (.c 0),
 .ite (.n 6) (.c 0) (.c 1),
 .bin .add .i64 (.n 0) (.c 5400000),
 .bin .add .i64 (.n 1) (.c 5400000),
 .app 71 0 [.n 8,.n 9],
 .app 71 1 [.n 8,.n 9],
 .bin .sub .i64 (.c 1073741824) (.n 11),
 .bin .shr .i64 (.n 12) (.c 1),
 .bin .sub .i64 (.c 1073741824) (.n 10),
 .bin .add .i64 (.n 14) (.c 1),
 .bin .shr .i64 (.n 15) (.c 1),
 .ite (.n 7) (.c 0) (.n 13),
 .ite (.n 7) (.c 0) (.n 16)]
def NF:List Vc:=[
 ⟨[(.n 6,true)],.pre 71 [.n 8,.n 9]⟩]
theorem NB:whole Try.prog Ka 20 40 121 [(true,[some .i64,some .i64])]=some (.tup [.agg [.int .i64 (.n 17),.int .i64 (.n 18)],.c (.int .i64 (.n 7))],⟨mX.reverse,NF.reverse⟩):=by kernel_rfl
theorem MG:wfN mX.reverse=true:=by kernel_rfl
theorem KA (a b:Int) (w:World) (h:dA a b=true):Calls Try.prog 121 #[.agg #[.int .i64 a,.int .i64 b]] w fun e w'=>e=.returned (.tuple #[.agg #[.int .i64 (sZ a b),.int .i64 (qG a b)],.int .i64 0])/\Below w.heap.size w w':=by
 refine Sx.calls (X:=JU [a,b]) fE (Jf _) NB MG (fun v hs=>?_) w
 have e0:v 0=a:=ag hs 0 rfl;have e1:v 1=b:=ag hs 1 rfl;have e2:v 2=b2i (decide (v 0>=(-1099511627776:Int))):=ag hs 2 rfl;have e3:v 3=b2i (decide (v 0<=v 1)):=ag hs 3 rfl;have e4:v 4=if v 2≠0 then v 3 else (0:Int):=ag hs 4 rfl
 have e5:v 5=b2i (decide (v 1<=(1099511627776:Int))):=ag hs 5 rfl;have e6:v 6=if v 4≠0 then v 5 else (0:Int):=ag hs 6 rfl
 have e7:v 7=if v 6≠0 then (0:Int) else (1:Int):=ag hs 7 rfl
 have e8:v 8=IntKind.i64.wrap (v 0+(5400000:Int)):=ag hs 8 rfl;have e9:v 9=IntKind.i64.wrap (v 1+(5400000:Int)):=ag hs 9 rfl;have e10:v 10=(Ih 71 [v 8,v 9]).getD 0 0:=ag hs 10 rfl;have e11:v 11=(Ih 71 [v 8,v 9]).getD 1 0:=ag hs 11 rfl;have e12:v 12=IntKind.i64.wrap ((1073741824:Int)-v 11):=ag hs 12 rfl;have e13:v 13=bR .shr .i64 (v 12) ((1:Int)):=ag hs 13 rfl;have e14:v 14=IntKind.i64.wrap ((1073741824:Int)-v 10):=ag hs 14 rfl;have e15:v 15=IntKind.i64.wrap (v 14+(1:Int)):=ag hs 15 rfl;have e16:v 16=bR .shr .i64 (v 15) ((1:Int)):=ag hs 16 rfl;have e17:v 17=if v 7≠0 then (0:Int) else v 13:=ag hs 17 rfl
 have e18:v 18=if v 7≠0 then (0:Int) else v 16:=ag hs 18 rfl
 have hh:=(cO _ _).1 h;have A6:v 6=1:=by rw [e6,e4,e2,e3,e5,bb2,bb2,e0,e1,decide_eq_true (by omega)];rfl
 have w8:v 8=a+5400000:=by rw [e8,e0,Go.IntWalk.i64_in _ (by omega)]
 have w9:v 9=b+5400000:=by rw [e9,e1,Go.IntWalk.i64_in _ (by omega)]
 have E:=za (a+5400000) (b+5400000);have w10:v 10=dJ (a+5400000) (b+5400000):=by rw [e10,w8,w9];rfl
 have w11:v 11=dN (a+5400000) (b+5400000):=by rw [e11,w8,w9];rfl
 have w12:v 12=1073741824-v 11:=by rw [e12,Go.IntWalk.i64_in _ (by omega)]
 have w14:v 14=1073741824-v 10:=by rw [e14,Go.IntWalk.i64_in _ (by omega)]
 have w15:v 15=v 14+1:=by rw [e15,Go.IntWalk.i64_in _ (by omega)]
 have w13:v 13=sZ a b:=by rw [e13,UG,w12,w11];rfl
 have w16:v 16=qG a b:=by rw [e16,UG,w15,w14,w10];rfl
 have z7:v 7=0:=aC (X:=JU [a,b]) (v:=v) (l:=mX) (yg _) hs (k:=7) (r:=.c 0) (ps:=[(6,.c 1)]) (nz:=[]) (aa A6 au) aJ (by kernel_rfl)
 have z17:v 17=v 13:=aA (X:=JU [a,b]) (v:=v) (l:=mX) (yg _) hs (k:=17) (j:=13) (ps:=[(6,.c 1)]) (aa A6 au) (by kernel_rfl)
 have z18:v 18=v 16:=aA (X:=JU [a,b]) (v:=v) (l:=mX) (yg _) hs (k:=18) (j:=16) (ps:=[(6,.c 1)]) (aa A6 au) (by kernel_rfl)
 have P71:EA (v 8) (v 9):=by rw [w8,w9];exact ⟨by omega,by omega,by omega⟩
 refine ⟨cB ?_,?_⟩
 . exact af (fun _=>P71) (cz)
 . intro x hx0;have hx':=cu (v:=v) (by rfl) hx0
   rw [hx'];show Value.tuple #[.agg #[.int .i64 (v 17),.int .i64 (v 18)],.int .i64 (v 7)]=_;rw [z7,z17,z18,w13,w16]
def yu (a b:Int):Int:=oP (1073741824-2*max a 0)
def wU (a b:Int):Int:=qH (1073741824-2*min b 1073741824)
def VH (a b:Int):List Int:=[yu a b,wU a b,0]
def KU (a b:Int):Prop:=fxV a b=true/\0<=b/\a<=1073741824
theorem D5 (x y:Int):(iE 46 [x,y]).getD 0 0=oP y/\(iE 46 [x,y]).getD 1 0=qH x/\(iE 46 [x,y]).getD 2 0=0:=qZ _ _ _
def nR:List Nd:=[
 .arg 0,
 .arg 1,
 .app 8 0 [.n 0,.n 1],
 .ite (.n 2) (.c 0) (.c 1),
 .ite (.n 3) (.c 0) (.c 1),
 .mx (.n 0) (.c 0),
 .mn (.n 1) (.c 1073741824),
 .bin .leq .i64 (.n 5) (.n 6),
 .ite (.n 7) (.c 0) (.c 1),
 .bin .mul .i64 (.c 2) (.n 6),
 .bin .sub .i64 (.c 1073741824) (.n 9),
 .bin .mul .i64 (.c 2) (.n 5),
 .bin .sub .i64 (.c 1073741824) (.n 11),
 .app 46 0 [.n 10,.n 12],
 .app 46 1 [.n 10,.n 12],
 .app 46 2 [.n 10,.n 12],
 .ite (.n 8) (.c 2) (.n 15),
 .ite (.n 8) (.c 0) (.n 13),
 .ite (.n 8) (.c 0) (.n 14),
 .ite (.n 3) (.c 1) (.n 16),
 .ite (.n 3) (.c 0) (.n 17),
 .ite (.n 3) (.c 0) (.n 18),
 .ite (.n 3) (.n 0) (.n 5),
 .ite (.n 3) (.n 1) (.n 6)]
def NL:List Vc:=[
 ⟨[],.pre 8 [.n 0,.n 1]⟩,
 ⟨[(.n 7,true),(.n 4,true)],.pre 46 [.n 10,.n 12]⟩]
theorem K8:whole Try.prog FO 20 40 122 [(true,[some .i64,some .i64])]=some (.tup [.agg [.int .i64 (.n 20),.int .i64 (.n 21)],.c (.int .i64 (.n 19))],⟨nR.reverse,NL.reverse⟩):=by kernel_rfl
theorem M5:wfN nR.reverse=true:=by kernel_rfl
theorem IE (a b:Int) (w:World) (h:KU a b):Calls Try.prog 122 #[.agg #[.int .i64 a,.int .i64 b]] w fun e w'=>e=.returned (.tuple #[.agg #[.int .i64 (yu a b),.int .i64 (wU a b)],.int .i64 0])/\Below w.heap.size w w':=by
 refine Sx.calls (X:=cxA [a,b]) fE (C9 _) K8 M5 (fun v hs=>?_) w
 have e0:v 0=a:=ag hs 0 rfl;have e1:v 1=b:=ag hs 1 rfl;have e5:v 5=if (0:Int)>v 0 then (0:Int) else v 0:=ag hs 5 rfl
 have e6:v 6=if (1073741824:Int)<v 1 then (1073741824:Int) else v 1:=ag hs 6 rfl
 have e9:v 9=IntKind.i64.wrap ((2:Int)*v 6):=ag hs 9 rfl;have e10:v 10=IntKind.i64.wrap ((1073741824:Int)-v 9):=ag hs 10 rfl;have e11:v 11=IntKind.i64.wrap ((2:Int)*v 5):=ag hs 11 rfl;have e12:v 12=IntKind.i64.wrap ((1073741824:Int)-v 11):=ag hs 12 rfl;have e13:v 13=(iE 46 [v 10,v 12]).getD 0 0:=ag hs 13 rfl;have e14:v 14=(iE 46 [v 10,v 12]).getD 1 0:=ag hs 14 rfl;have e15:v 15=(iE 46 [v 10,v 12]).getD 2 0:=ag hs 15 rfl;have e7:v 7=b2i (decide (v 5<=v 6)):=ag hs 7 rfl;have e2:v 2=b2i (fxV (v 0) (v 1)):=ag hs 2 rfl;obtain ⟨h1,h2,h3⟩:=h;have hh:=(ek _ _).1 h1;have wp:v 5=max a 0:=by rw [e5,e0];omega
 have wq:v 6=min b 1073741824:=by rw [e6,e1];omega
 have A2:v 2=1:=by rw [e2,e0,e1,h1];rfl
 have AK:v 7=1:=by rw [e7,wp,wq,decide_eq_true (by omega)];rfl
 have w9:v 9=2*v 6:=by rw [e9,Go.IntWalk.i64_in _ (by omega)]
 have w10:v 10=1073741824-2*min b 1073741824:=by rw [e10,w9,wq,Go.IntWalk.i64_in _ (by omega)]
 have w11:v 11=2*v 5:=by rw [e11,Go.IntWalk.i64_in _ (by omega)]
 have w12:v 12=1073741824-2*max a 0:=by rw [e12,w11,wp,Go.IntWalk.i64_in _ (by omega)]
 have V0:v 13=oP (v 12):=e13.trans (D5 _ _).1;have V1:v 14=qH (v 10):=e14.trans (D5 _ _).2.1;have z20:v 20=v 13:=aA (X:=cxA [a,b]) (v:=v) (l:=nR) (xe _) hs (k:=20) (j:=13) (ps:=[(2,.c 1),(7,.c 1)]) (aa A2 (aa AK au)) (by kernel_rfl)
 have z21:v 21=v 14:=aA (X:=cxA [a,b]) (v:=v) (l:=nR) (xe _) hs (k:=21) (j:=14) (ps:=[(2,.c 1),(7,.c 1)]) (aa A2 (aa AK au)) (by kernel_rfl)
 have z19:v 19=0:=aC (X:=cxA [a,b]) (v:=v) (l:=nR) (xe _) hs (k:=19) (r:=.c 0) (ps:=[(2,.c 1),(7,.c 1)]) (nz:=[]) (aa A2 (aa AK au)) aJ (by kernel_rfl)
 have P46:fxV (v 10) (v 12)=true/\v 10<=1073741824/\-1073741824<=v 12:=by rw [ek,w10,w12];omega
 refine ⟨cB ?_,?_⟩
 . exact af (fun _=>trivial) (af (fun _=>P46) (cz))
 . intro x hx0;have hx':=cu (v:=v) (by rfl) hx0
   rw [hx'];show Value.tuple #[.agg #[.int .i64 (v 20),.int .i64 (v 21)],.int .i64 (v 19)]=_;rw [z20,z21,z19,V0,V1,w10,w12];rfl
