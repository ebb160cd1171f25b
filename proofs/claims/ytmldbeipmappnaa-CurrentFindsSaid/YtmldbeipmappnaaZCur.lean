/- The contracts of current.parts, current.compose and of the reference's Parts and Compose. -/
import Derived.Test.YtmldbeipmappnaaZFit
import Derived.Test.YtmldbeipmappnaaZSpE
import Derived.Test.YtmldbeipmappnaaZAwake45
set_option linter.unusedVariables false
set_option linter.unusedSimpArgs false
set_option maxRecDepth 100000
namespace Alm
def mnV (a b:Int):Int:=if b<a then b else a
def mxV (a b:Int):Int:=if b>a then b else a
def bM (a b:Int):Int:=max (max 0 a) (-b)
def bG (a b:Int):Int:=max b (-a)
def rtU (n:Int):Int:=if rtV n*rtV n<n then rtV n+1 else rtV n
end Alm
namespace Go.Proofs.Ytmldbeipmappnaa
open Go.RowKit Alm Sx
theorem Rv (q:Prop) [Decidable q] (x y:Int):(if b2i (decide q)≠0 then x else y)=if q then x else y:=by
 by_cases h:q<;>simp [b2i,h]
theorem cB {X:Cx} {v:Nat->Int} {ext:Ext} (he:gJ X ext) {l:List Nd} (hs:aA X v l.reverse) {ps:List (Nat × Rf)} (hp:∀ q∈ps,v q.1=q.2.val v) {k j:Nat} (h:Rf.eq ((norm ext ps [] l).rep (.n k)) ((norm ext ps [] l).rep (.n j))=true):v k=v j:=by
 have a:=jD (jy he hs hp az) (.n k);have b:=jD (jy he hs hp az) (.n j);rw [Rf.eq_eq h] at a;exact a.symm.trans b
def paV (a b l h:Int):List Int :=
 [mnV (dM ((aC 6 [a,b]).getD 0 0) ((aC 6 [a,b]).getD 1 0) l) (dM ((aC 6 [a,b]).getD 0 0) ((aC 6 [a,b]).getD 1 0) h),
  mxV (dI ((aC 6 [a,b]).getD 0 0) ((aC 6 [a,b]).getD 1 0) l) (dI ((aC 6 [a,b]).getD 0 0) ((aC 6 [a,b]).getD 1 0) h),
  mnV (dM ((aC 5 [a,b]).getD 0 0) ((aC 5 [a,b]).getD 1 0) l) (dM ((aC 5 [a,b]).getD 0 0) ((aC 5 [a,b]).getD 1 0) h),
  mxV (dI ((aC 5 [a,b]).getD 0 0) ((aC 5 [a,b]).getD 1 0) l) (dI ((aC 5 [a,b]).getD 0 0) ((aC 5 [a,b]).getD 1 0) h),0]
def coV (a b c d:Int):List Int :=
 [aV (4096*c) (4096*d) (4096*a) (4096*b),bI (4096*c) (4096*d) (4096*a) (4096*b),
  rtV (bM a b*bM a b+bM c d*bM c d),rtU (bG a b*bG a b+bG c d*bG c d),0]
def ac5 (l:List Int):Value:=.tuple #[.agg #[.int .i64 (l.getD 0 0),.int .i64 (l.getD 1 0)],.agg #[.int .i64 (l.getD 2 0),.int .i64 (l.getD 3 0)],.int .i64 (l.getD 4 0)]
theorem aec {n:Int} (h0:0<=n) (h1:n<=400000):jP n=true:=by unfold jP;exact decide_eq_true (by omega)
theorem uI {m:Int} (h0:0<=m) (h1:m<=400000):0<=m*m/\m*m<=160000000000:=by
 have:=Int.mul_le_mul h1 h1 h0 (by omega)
 have:=Int.mul_nonneg h0 h0;omega
theorem kJ {a b:Int} (h:-400000<=a/\a<=b/\b<=400000):0<=bM a b/\bM a b<=400000:=by unfold bM;omega
theorem kG {a b:Int} (h:-400000<=a/\a<=b/\b<=400000):0<=bG a b/\bG a b<=400000:=by unfold bG;omega
theorem adL {a b:Int} (h:-400000<=a/\a<=b/\b<=400000):fxV (4096*a) (4096*b)=true:=by rw [cZ];omega
theorem aeG {m:Int} (h0:0<=m) (h1:m<2097152):0<=m*m/\m*m<=4398046511104:=by
 have:=Int.mul_le_mul (show m<=2097152 by omega) (show m<=2097152 by omega) h0 (by omega)
 have:=Int.mul_nonneg h0 h0;omega
theorem Jf (n:Int) (h0:0<=n) (h1:n<4398046511104):0<=rtV n/\rtV n<2097152:=by
 obtain ⟨p,q,_⟩:=su n h0 (by omega)
 refine ⟨p,?_⟩
 by_cases g:rtV n<2097152
 . exact g
 . have:=Int.mul_le_mul (show 2097152<=rtV n by omega) (show 2097152<=rtV n by omega) (by omega) p
   omega
def oq:List Nd:=[
 .arg 0,
 .arg 1,
 .arg 2,
 .arg 3,
 .app 6 0 [.n 0,.n 1],
 .app 6 1 [.n 0,.n 1],
 .app 6 2 [.n 0,.n 1],
 .bin .neq .i64 (.n 6) (.c 0),
 .ite (.n 7) (.c 0) (.c 1),
 .app 5 0 [.n 0,.n 1],
 .app 5 1 [.n 0,.n 1],
 .app 5 2 [.n 0,.n 1],
 .bin .neq .i64 (.n 11) (.c 0),
 .ite (.n 12) (.c 0) (.c 1),
 .app 9 0 [.n 4,.n 5,.n 2],
 .app 9 1 [.n 4,.n 5,.n 2],
 .app 9 2 [.n 4,.n 5,.n 2],
 .bin .neq .i64 (.n 16) (.c 0),
 .ite (.n 17) (.c 0) (.c 1),
 .app 9 0 [.n 4,.n 5,.n 3],
 .app 9 1 [.n 4,.n 5,.n 3],
 .app 9 2 [.n 4,.n 5,.n 3],
 .mn (.n 14) (.n 19),
 .mx (.n 15) (.n 20),
 .ite (.n 17) (.n 16) (.n 21),
 .ite (.n 17) (.c 0) (.n 22),
 .ite (.n 17) (.c 0) (.n 23),
 .bin .neq .i64 (.n 24) (.c 0),
 .ite (.n 27) (.c 0) (.c 1),
 .app 9 0 [.n 9,.n 10,.n 2],
 .app 9 1 [.n 9,.n 10,.n 2],
 .app 9 2 [.n 9,.n 10,.n 2],
 .bin .neq .i64 (.n 31) (.c 0),
 .ite (.n 32) (.c 0) (.c 1),
 .app 9 0 [.n 9,.n 10,.n 3],
 .app 9 1 [.n 9,.n 10,.n 3],
 .app 9 2 [.n 9,.n 10,.n 3],
 .mn (.n 29) (.n 34),
 .mx (.n 30) (.n 35),
 .ite (.n 32) (.n 31) (.n 36),
 .ite (.n 32) (.c 0) (.n 37),
 .ite (.n 32) (.c 0) (.n 38),
 .ite (.n 27) (.n 24) (.n 39),
 .ite (.n 27) (.c 0) (.n 40),
 .ite (.n 27) (.c 0) (.n 41),
 .ite (.n 12) (.n 11) (.n 42),
 .ite (.n 12) (.c 0) (.n 43),
 .ite (.n 12) (.c 0) (.n 44),
 .ite (.n 12) (.c 0) (.n 25),
 .ite (.n 12) (.c 0) (.n 26),
 .ite (.n 7) (.n 6) (.n 45),
 .ite (.n 7) (.c 0) (.n 46),
 .ite (.n 7) (.c 0) (.n 47),
 .ite (.n 7) (.c 0) (.n 48),
 .ite (.n 7) (.c 0) (.n 49)]
def WL:List Vc:=[
 ⟨[],.pre 6 [.n 0,.n 1]⟩,
 ⟨[(.n 8,true)],.pre 5 [.n 0,.n 1]⟩,
 ⟨[(.n 13,true),(.n 8,true)],.pre 9 [.n 4,.n 5,.n 2]⟩,
 ⟨[(.n 18,true),(.n 13,true),(.n 8,true)],.pre 9 [.n 4,.n 5,.n 3]⟩,
 ⟨[(.n 28,true),(.n 13,true),(.n 8,true)],.pre 9 [.n 9,.n 10,.n 2]⟩,
 ⟨[(.n 33,true),(.n 28,true),(.n 13,true),(.n 8,true)],.pre 9 [.n 9,.n 10,.n 3]⟩]
theorem Yg:whole Try.prog vP 20 40 147 [(true,[some .i64,some .i64]),(true,[some .i64,some .i64])]=some (.tup [.agg [.int .i64 (.n 53),.int .i64 (.n 54)],.agg [.int .i64 (.n 51),.int .i64 (.n 52)],.c (.int .i64 (.n 50))],⟨oq.reverse,WL.reverse⟩):=by kernel_rfl
theorem UM:wfN oq.reverse=true:=by kernel_rfl
def oF:List Nd:=[
 .arg 0,
 .arg 1,
 .arg 2,
 .arg 3,
 .bin .mul .i64 (.c 4096) (.n 0),
 .bin .mul .i64 (.c 4096) (.n 1),
 .bin .mul .i64 (.c 4096) (.n 2),
 .bin .mul .i64 (.c 4096) (.n 3),
 .app 7 0 [.n 6,.n 7,.n 4,.n 5],
 .app 7 1 [.n 6,.n 7,.n 4,.n 5],
 .app 7 2 [.n 6,.n 7,.n 4,.n 5],
 .bin .neq .i64 (.n 10) (.c 0),
 .ite (.n 11) (.c 0) (.c 1),
 .bin .sub .i64 (.c 0) (.n 1),
 .mx (.c 0) (.n 0),
 .mx (.n 14) (.n 13),
 .bin .mul .i64 (.n 15) (.n 15),
 .bin .sub .i64 (.c 0) (.n 3),
 .mx (.c 0) (.n 2),
 .mx (.n 18) (.n 17),
 .bin .mul .i64 (.n 19) (.n 19),
 .bin .add .i64 (.n 16) (.n 20),
 .app 10 0 [.n 21],
 .bin .sub .i64 (.c 0) (.n 0),
 .mx (.n 1) (.n 23),
 .bin .mul .i64 (.n 24) (.n 24),
 .bin .sub .i64 (.c 0) (.n 2),
 .mx (.n 3) (.n 26),
 .bin .mul .i64 (.n 27) (.n 27),
 .bin .add .i64 (.n 25) (.n 28),
 .app 10 0 [.n 29],
 .bin .mul .i64 (.n 30) (.n 30),
 .bin .lss .i64 (.n 31) (.n 29),
 .bin .add .i64 (.n 30) (.c 1),
 .ite (.n 32) (.c 0) (.c 1),
 .ite (.n 32) (.n 33) (.n 30),
 .ite (.n 11) (.n 10) (.c 0),
 .ite (.n 11) (.c 0) (.n 22),
 .ite (.n 11) (.c 0) (.n 35),
 .ite (.n 11) (.c 0) (.n 8),
 .ite (.n 11) (.c 0) (.n 9)]
def Xb:List Vc:=[
 ⟨[],.pre 7 [.n 6,.n 7,.n 4,.n 5]⟩,
 ⟨[(.n 12,true)],.pre 10 [.n 21]⟩,
 ⟨[(.n 12,true)],.pre 10 [.n 29]⟩]
theorem XM:whole Try.prog vP 20 40 151 [(true,[some .i64,some .i64]),(true,[some .i64,some .i64])]=some (.tup [.agg [.int .i64 (.n 39),.int .i64 (.n 40)],.agg [.int .i64 (.n 37),.int .i64 (.n 38)],.c (.int .i64 (.n 36))],⟨oF.reverse,Xb.reverse⟩):=by kernel_rfl
theorem Xt:wfN oF.reverse=true:=by kernel_rfl
theorem Dv (a b l h:Int) (w:World) (ha:cu a b=true) (h0:0<=l) (h1:l<=h) (h2:h<=400000) :
 Calls Try.prog 147 #[.agg #[.int .i64 a,.int .i64 b],.agg #[.int .i64 l,.int .i64 h]] w fun e w'=>e=.returned (ac5 (paV a b l h))/\Below w.heap.size w w':=by
 refine Sx.calls (X:=cxE [a,b,l,h]) dX (oN _) Yg UM (fun v hs=>?_) w
 have e0:v 0=a:=ae hs 0 rfl;have e1:v 1=b:=ae hs 1 rfl;have e2:v 2=l:=ae hs 2 rfl;have e3:v 3=h:=ae hs 3 rfl;have e4:v 4=(jE 6 [v 0,v 1]).getD 0 0:=ae hs 4 rfl;have e5:v 5=(jE 6 [v 0,v 1]).getD 1 0:=ae hs 5 rfl;have e9:v 9=(jE 5 [v 0,v 1]).getD 0 0:=ae hs 9 rfl;have e10:v 10=(jE 5 [v 0,v 1]).getD 1 0:=ae hs 10 rfl;have e14:v 14=(jE 9 [v 4,v 5,v 2]).getD 0 0:=ae hs 14 rfl;have e15:v 15=(jE 9 [v 4,v 5,v 2]).getD 1 0:=ae hs 15 rfl;have e19:v 19=(jE 9 [v 4,v 5,v 3]).getD 0 0:=ae hs 19 rfl;have e20:v 20=(jE 9 [v 4,v 5,v 3]).getD 1 0:=ae hs 20 rfl;have e22:v 22=if v 19<v 14 then v 19 else v 14:=ae hs 22 rfl
 have e23:v 23=if v 20>v 15 then v 20 else v 15:=ae hs 23 rfl
 have e29:v 29=(jE 9 [v 9,v 10,v 2]).getD 0 0:=ae hs 29 rfl;have e30:v 30=(jE 9 [v 9,v 10,v 2]).getD 1 0:=ae hs 30 rfl;have e34:v 34=(jE 9 [v 9,v 10,v 3]).getD 0 0:=ae hs 34 rfl;have e35:v 35=(jE 9 [v 9,v 10,v 3]).getD 1 0:=ae hs 35 rfl;have e37:v 37=if v 34<v 29 then v 34 else v 29:=ae hs 37 rfl
 have e38:v 38=if v 35>v 30 then v 35 else v 30:=ae hs 38 rfl
 have z50:v 50=0:=ak (X:=cxE [a,b,l,h]) (v:=v) (l:=oq) (iA _) hs (k:=50) (r:=.c 0) (ps:=[]) (nz:=[]) aj az (by kernel_rfl)
 have z53:v 53=v 22:=cB (X:=cxE [a,b,l,h]) (v:=v) (l:=oq) (iA _) hs (k:=53) (j:=22) (ps:=[]) aj (by kernel_rfl)
 have z54:v 54=v 23:=cB (X:=cxE [a,b,l,h]) (v:=v) (l:=oq) (iA _) hs (k:=54) (j:=23) (ps:=[]) aj (by kernel_rfl)
 have z51:v 51=v 37:=cB (X:=cxE [a,b,l,h]) (v:=v) (l:=oq) (iA _) hs (k:=51) (j:=37) (ps:=[]) aj (by kernel_rfl)
 have z52:v 52=v 38:=cB (X:=cxE [a,b,l,h]) (v:=v) (l:=oq) (iA _) hs (k:=52) (j:=38) (ps:=[]) aj (by kernel_rfl)
 have A1:lv 6 [v 0,v 1]:=(show cu (v 0) (v 1)=true by rw [e0,e1];exact ha)
 have A2:lv 5 [v 0,v 1]:=(show cu (v 0) (v 1)=true by rw [e0,e1];exact ha)
 have B2:jP (v 2)=true:=by rw [e2];exact aec h0 (by omega)
 have B3:jP (v 3)=true:=by rw [e3];exact aec (by omega) h2
 have F6:fxV (v 4) (v 5)=true:=by rw [e4,e5];exact Kw _ _
 have F5:fxV (v 9) (v 10)=true:=by rw [e9,e10];exact Lc _ _
 refine ⟨bO ?_,?_⟩
 . exact ag (fun _=>A1) (ag (fun _=>A2) (ag (fun _=>⟨F6,B2⟩) (ag (fun _=>⟨F6,B3⟩) (ag (fun _=>⟨F5,B2⟩) (ag (fun _=>⟨F5,B3⟩) bN)))))
 . intro x hx0;have hx':=dL (v:=v) (by rfl) hx0
   rw [hx'];show Value.tuple #[.agg #[.int .i64 (v 53),.int .i64 (v 54)],.agg #[.int .i64 (v 51),.int .i64 (v 52)],.int .i64 (v 50)]=_;have q14:v 14=dM (v 4) (v 5) (v 2):=e14;have q15:v 15=dI (v 4) (v 5) (v 2):=e15;have q19:v 19=dM (v 4) (v 5) (v 3):=e19;have q20:v 20=dI (v 4) (v 5) (v 3):=e20;have q29:v 29=dM (v 9) (v 10) (v 2):=e29;have q30:v 30=dI (v 9) (v 10) (v 2):=e30;have q34:v 34=dM (v 9) (v 10) (v 3):=e34;have q35:v 35=dI (v 9) (v 10) (v 3):=e35;have c4:v 4=(aC 6 [a,b]).getD 0 0:=by rw [e4,e0,e1];rfl
   have c5:v 5=(aC 6 [a,b]).getD 1 0:=by rw [e5,e0,e1];rfl
   have c9:v 9=(aC 5 [a,b]).getD 0 0:=by rw [e9,e0,e1];rfl
   have c10:v 10=(aC 5 [a,b]).getD 1 0:=by rw [e10,e0,e1];rfl
   rw [z53,z54,z51,z52,z50,e22,e23,e37,e38,q14,q15,q19,q20,q29,q30,q34,q35,c4,c5,c9,c10,e2,e3];rfl
theorem xP (a b l h:Int) (w:World) (h1:-400000<=a/\a<=b/\b<=400000) (h2:-400000<=l/\l<=h/\h<=400000) :
 Calls Try.prog 151 #[.agg #[.int .i64 a,.int .i64 b],.agg #[.int .i64 l,.int .i64 h]] w fun e w'=>e=.returned (ac5 (coV a b l h))/\Below w.heap.size w w':=by
 refine Sx.calls (X:=cxE [a,b,l,h]) dX (oN _) XM Xt (fun v hs=>?_) w
 have e0:v 0=a:=ae hs 0 rfl;have e1:v 1=b:=ae hs 1 rfl;have e2:v 2=l:=ae hs 2 rfl;have e3:v 3=h:=ae hs 3 rfl;have e4:v 4=IntKind.i64.wrap ((4096:Int)*v 0):=ae hs 4 rfl;have e5:v 5=IntKind.i64.wrap ((4096:Int)*v 1):=ae hs 5 rfl;have e6:v 6=IntKind.i64.wrap ((4096:Int)*v 2):=ae hs 6 rfl;have e7:v 7=IntKind.i64.wrap ((4096:Int)*v 3):=ae hs 7 rfl;have e8:v 8=(jE 7 [v 6,v 7,v 4,v 5]).getD 0 0:=ae hs 8 rfl;have e9:v 9=(jE 7 [v 6,v 7,v 4,v 5]).getD 1 0:=ae hs 9 rfl;have e13:v 13=IntKind.i64.wrap ((0:Int)-v 1):=ae hs 13 rfl;have e14:v 14=if v 0>(0:Int) then v 0 else (0:Int):=ae hs 14 rfl
 have e15:v 15=if v 13>v 14 then v 13 else v 14:=ae hs 15 rfl
 have e16:v 16=IntKind.i64.wrap (v 15*v 15):=ae hs 16 rfl;have e17:v 17=IntKind.i64.wrap ((0:Int)-v 3):=ae hs 17 rfl;have e18:v 18=if v 2>(0:Int) then v 2 else (0:Int):=ae hs 18 rfl
 have e19:v 19=if v 17>v 18 then v 17 else v 18:=ae hs 19 rfl
 have e20:v 20=IntKind.i64.wrap (v 19*v 19):=ae hs 20 rfl;have e21:v 21=IntKind.i64.wrap (v 16+v 20):=ae hs 21 rfl;have e22:v 22=(jE 10 [v 21]).getD 0 0:=ae hs 22 rfl;have e23:v 23=IntKind.i64.wrap ((0:Int)-v 0):=ae hs 23 rfl;have e24:v 24=if v 23>v 1 then v 23 else v 1:=ae hs 24 rfl
 have e25:v 25=IntKind.i64.wrap (v 24*v 24):=ae hs 25 rfl;have e26:v 26=IntKind.i64.wrap ((0:Int)-v 2):=ae hs 26 rfl;have e27:v 27=if v 26>v 3 then v 26 else v 3:=ae hs 27 rfl
 have e28:v 28=IntKind.i64.wrap (v 27*v 27):=ae hs 28 rfl;have e29:v 29=IntKind.i64.wrap (v 25+v 28):=ae hs 29 rfl;have e30:v 30=(jE 10 [v 29]).getD 0 0:=ae hs 30 rfl;have e31:v 31=IntKind.i64.wrap (v 30*v 30):=ae hs 31 rfl;have e32:v 32=b2i (decide (v 31<v 29)):=ae hs 32 rfl;have e33:v 33=IntKind.i64.wrap (v 30+(1:Int)):=ae hs 33 rfl;have e35:v 35=if v 32≠0 then v 33 else v 30:=ae hs 35 rfl
 have z36:v 36=0:=ak (X:=cxE [a,b,l,h]) (v:=v) (l:=oF) (iA _) hs (k:=36) (r:=.c 0) (ps:=[]) (nz:=[]) aj az (by kernel_rfl)
 have z39:v 39=v 8:=cB (X:=cxE [a,b,l,h]) (v:=v) (l:=oF) (iA _) hs (k:=39) (j:=8) (ps:=[]) aj (by kernel_rfl)
 have z40:v 40=v 9:=cB (X:=cxE [a,b,l,h]) (v:=v) (l:=oF) (iA _) hs (k:=40) (j:=9) (ps:=[]) aj (by kernel_rfl)
 have z37:v 37=v 22:=cB (X:=cxE [a,b,l,h]) (v:=v) (l:=oF) (iA _) hs (k:=37) (j:=22) (ps:=[]) aj (by kernel_rfl)
 have z38:v 38=v 35:=cB (X:=cxE [a,b,l,h]) (v:=v) (l:=oF) (iA _) hs (k:=38) (j:=35) (ps:=[]) aj (by kernel_rfl)
 have L1:=kJ h1;have L2:=kJ h2;have M1:=kG h1;have M2:=kG h2;have s1:=uI L1.1 L1.2;have s2:=uI L2.1 L2.2;have s3:=uI M1.1 M1.2;have s4:=uI M2.1 M2.2;have r4:v 4=4096*a:=by rw [e4,e0,IntWalk.i64_in _ (by omega)]
 have r5:v 5=4096*b:=by rw [e5,e1,IntWalk.i64_in _ (by omega)]
 have r6:v 6=4096*l:=by rw [e6,e2,IntWalk.i64_in _ (by omega)]
 have r7:v 7=4096*h:=by rw [e7,e3,IntWalk.i64_in _ (by omega)]
 have r15:v 15=bM a b:=by rw [e15,e13,e14,e0,e1,IntWalk.i64_in _ (by omega)];unfold bM;repeat' split<;>omega
 have r19:v 19=bM l h:=by rw [e19,e17,e18,e2,e3,IntWalk.i64_in _ (by omega)];unfold bM;repeat' split<;>omega
 have r24:v 24=bG a b:=by rw [e24,e23,e0,e1,IntWalk.i64_in _ (by omega)];unfold bG;repeat' split<;>omega
 have r27:v 27=bG l h:=by rw [e27,e26,e2,e3,IntWalk.i64_in _ (by omega)];unfold bG;repeat' split<;>omega
 have r21:v 21=bM a b*bM a b+bM l h*bM l h:=by
  rw [e21,e16,e20,r15,r19,IntWalk.i64_in (bM a b*bM a b) (by omega),IntWalk.i64_in (bM l h*bM l h) (by omega),IntWalk.i64_in _ (by omega)]
 have r29:v 29=bG a b*bG a b+bG l h*bG l h:=by
  rw [e29,e25,e28,r24,r27,IntWalk.i64_in (bG a b*bG a b) (by omega),IntWalk.i64_in (bG l h*bG l h) (by omega),IntWalk.i64_in _ (by omega)]
 have A7:lv 7 [v 6,v 7,v 4,v 5]:=(show fxV (v 6) (v 7)=true/\fxV (v 4) (v 5)=true by rw [r4,r5,r6,r7];exact ⟨adL h2,adL h1⟩)
 have A21:lv 10 [v 21]:=(show 0<=v 21/\v 21<4398046511104 by rw [r21];omega)
 have A29:lv 10 [v 29]:=(show 0<=v 29/\v 29<4398046511104 by rw [r29];omega)
 have q8:v 8=aV (v 6) (v 7) (v 4) (v 5):=e8;have q9:v 9=bI (v 6) (v 7) (v 4) (v 5):=e9;have q22:v 22=rtV (v 21):=e22;have q30:v 30=rtV (v 29):=e30;have rt:=Jf (v 29) A29.1 A29.2;have r31:v 31=rtV (v 29)*rtV (v 29):=by rw [e31,q30,IntWalk.i64_in _ (by have:=aeG rt.1 rt.2;omega)]
 have r35:v 35=rtU (v 29):=by
  rw [e35,e32,e33,Rv,r31,q30,IntWalk.i64_in _ (by omega)];rfl
 refine ⟨bO ?_,?_⟩
 . exact ag (fun _=>A7) (ag (fun _=>A21) (ag (fun _=>A29) bN))
 . intro x hx0;have hx':=dL (v:=v) (by rfl) hx0
   rw [hx'];show Value.tuple #[.agg #[.int .i64 (v 39),.int .i64 (v 40)],.agg #[.int .i64 (v 37),.int .i64 (v 38)],.int .i64 (v 36)]=_;rw [z39,z40,z37,z38,z36,q8,q9,q22,r35,r21,r29,r4,r5,r6,r7];rfl
def Ah:Nat->List Int->List Int
 | 37,[a,b,l,h]=>paV a b l h
 | 38,[a,b,l,h]=>coV a b l h
 | f,xs=>jE f xs
def uG:Nat->List Int->Prop
 | 37,[a,b,l,h]=>cu a b=true/\0<=l/\l<=h/\h<=400000
 | 38,[a,b,l,h]=>(-400000<=a/\a<=b/\b<=400000)/\(-400000<=l/\l<=h/\h<=400000)
 | f,xs=>lv f xs
def cxC (args:List Int):Cx:=⟨Ah,uG,args⟩
theorem Ct {f:Nat} (h:f≠37/\f≠38) (xs:List Int):Ah f xs=jE f xs:=by
 unfold Ah;split
 . exact absurd rfl h.1
 . exact absurd rfl h.2
 . rfl
theorem Ci {f:Nat} (h:f≠37/\f≠38) (xs:List Int):uG f xs=lv f xs:=by
 unfold uG;split
 . exact absurd rfl h.1
 . exact absurd rfl h.2
 . rfl
theorem M9 (args:List Int):om (cxC args):=⟨fun f xs h=>(Ct (by omega) xs).trans (vO (by omega) xs),fun f xs h hp=>by
 show uG f xs;rw [Ci (by omega),xG (by omega)];exact hp⟩
theorem Un {args:List Int} {s:Sx.Spec} (h:s.id≠37/\s.id≠38) (H:aH Try.prog (cxE args) s):aH Try.prog (cxC args) s:=by
 obtain ⟨a,b⟩:=H;refine ⟨a,fun xs hp w=>?_⟩
 have hp':lv s.id xs:=by
  have:uG s.id xs:=hp
  rwa [Ci h] at this
 have:=b xs hp' w;rw [show (cxC args).sem s.id xs=(cxE args).sem s.id xs from Ct h xs]
 exact this
theorem Ms {xs:List Int} (hp:uG 37 xs):∃ a b l h,xs=[a,b,l,h]/\cu a b=true/\0<=l/\l<=h/\h<=400000:=by
 match xs,hp with
 | [a,b,l,h],hp=>exact ⟨a,b,l,h,rfl,hp⟩
theorem Pf {xs:List Int} (hp:uG 38 xs):∃ a b l h,xs=[a,b,l,h]/\(-400000<=a/\a<=b/\b<=400000)/\(-400000<=l/\l<=h/\h<=400000):=by
 match xs,hp with
 | [a,b,l,h],hp=>exact ⟨a,b,l,h,rfl,hp⟩
def OD:Sx.Spec:=⟨147,37,[(true,[some .i64,some .i64]),(true,[some .i64,some .i64])],[(true,[some .i64,some .i64]),(true,[some .i64,some .i64]),(false,[some .i64])]⟩
def abw:Sx.Spec:=OD
def DW:Sx.Spec:=⟨151,38,[(true,[some .i64,some .i64]),(true,[some .i64,some .i64])],[(true,[some .i64,some .i64]),(true,[some .i64,some .i64]),(false,[some .i64])]⟩
def NS:Sx.Spec:=DW
def spC:List Sx.Spec:=vP++[xW,OD,abw,DW,NS]
theorem Ps:∀ s∈vP,s.id≠37/\s.id≠38:=by
 intro s hs;simp only [vP,kF,kL,lZ,lU,spE,List.mem_append,List.mem_cons,List.not_mem_nil,or_false] at hs;rcases hs with (((h|h)|h)|h)|h
 . rcases h with rfl|rfl|rfl|rfl|rfl|rfl|rfl|rfl|rfl<;>decide
 . rcases h with rfl|rfl|rfl|rfl<;>decide
 . rcases h with rfl|rfl<;>decide
 . rcases h with rfl|rfl|rfl<;>decide
 . rcases h with rfl|rfl|rfl|rfl|rfl|rfl|rfl<;>decide
theorem ZQ (args:List Int):∀ s∈spC,aH Try.prog (cxC args) s:=by
 intro s hs;rcases List.mem_append.1 hs with h|h
 . exact Un (Ps s h) (oN args s h)
 . simp only [List.mem_cons,List.not_mem_nil,or_false] at h;rcases h with rfl|rfl|rfl|rfl|rfl
   . exact Un (by decide) (Cm args)
   . refine ⟨ours _ _ _ Try.func147 rfl (by kernel_rfl),fun xs hp w=>?_⟩
     obtain ⟨a,b,l,h,rfl,h1,h2,h3,h4⟩:=Ms hp;exact Dv a b l h w h1 h2 h3 h4
   . refine ⟨ours _ _ _ Try.func147 rfl (by kernel_rfl),fun xs hp w=>?_⟩
     obtain ⟨a,b,l,h,rfl,h1,h2,h3,h4⟩:=Ms hp;exact Dv a b l h w h1 h2 h3 h4
   . refine ⟨ours _ _ _ Try.func151 rfl (by kernel_rfl),fun xs hp w=>?_⟩
     obtain ⟨a,b,l,h,rfl,h1,h2⟩:=Pf hp;exact xP a b l h w h1 h2
   . refine ⟨ours _ _ _ Try.func151 rfl (by kernel_rfl),fun xs hp w=>?_⟩
     obtain ⟨a,b,l,h,rfl,h1,h2⟩:=Pf hp;exact xP a b l h w h1 h2
def OG (t:Tab):Nd->Option Rf
 | .app 37 4 [_,_,_,_]=>some (.c 0)
 | .app 38 4 [_,_,_,_]=>some (.c 0)
 | x=>vE t x
theorem gF (args:List Int):gJ (cxC args) OG:=by
 intro v t x r ht h;unfold OG at h;split at h
 . cases h;rfl
 . cases h;rfl
 . exact iU (M9 args) v t x r ht h
theorem Hr (x n m:Int) (hx:-1073741824<=x/\x<=1073741824) (hn:0<=n/\n<=m):-m<=qFl x n 1073741824/\qFl x n 1073741824<=qCe x n 1073741824/\qCe x n 1073741824<=m:=by
 have:=MO x n 1073741824;have h1:=Int.mul_le_mul_of_nonneg_right hx.1 hn.1;have h2:=Int.mul_le_mul_of_nonneg_right hx.2 hn.1;unfold qFl qCe;omega
theorem Ap {p q n m:Int} (hp:-1073741824<=p/\p<=q/\q<=1073741824) (hn:0<=n/\n<=m):-m<=dM p q n/\dM p q n<=dI p q n/\dI p q n<=m:=by
 have h1:=Hr p n m ⟨hp.1,by omega⟩ hn
 have h2:=Hr q n m ⟨by omega,hp.2.2⟩ hn
 unfold dM dI;omega
theorem xX {a b l h:Int} (h0:0<=l) (h1:l<=h):(-h<=(paV a b l h).getD 0 0/\(paV a b l h).getD 0 0<=(paV a b l h).getD 1 0/\(paV a b l h).getD 1 0<=h)/\(-h<=(paV a b l h).getD 2 0/\(paV a b l h).getD 2 0<=(paV a b l h).getD 3 0/\(paV a b l h).getD 3 0<=h):=by
 have c:=oQ (a+5400000) (b+5400000);have s:=oQ a b;have c1:=Ap c (n:=l) (m:=h) ⟨h0,h1⟩;have c2:=Ap c (n:=h) (m:=h) ⟨by omega,by omega⟩
 have s1:=Ap s (n:=l) (m:=h) ⟨h0,h1⟩;have s2:=Ap s (n:=h) (m:=h) ⟨by omega,by omega⟩
 show (-h<=mnV (dM (bU (a+5400000) (b+5400000)) (bW (a+5400000) (b+5400000)) l) (dM (bU (a+5400000) (b+5400000)) (bW (a+5400000) (b+5400000)) h)/\mnV (dM (bU (a+5400000) (b+5400000)) (bW (a+5400000) (b+5400000)) l) (dM (bU (a+5400000) (b+5400000)) (bW (a+5400000) (b+5400000)) h)<=mxV (dI (bU (a+5400000) (b+5400000)) (bW (a+5400000) (b+5400000)) l) (dI (bU (a+5400000) (b+5400000)) (bW (a+5400000) (b+5400000)) h)/\mxV (dI (bU (a+5400000) (b+5400000)) (bW (a+5400000) (b+5400000)) l) (dI (bU (a+5400000) (b+5400000)) (bW (a+5400000) (b+5400000)) h)<=h)/\(-h<=mnV (dM (bU a b) (bW a b) l) (dM (bU a b) (bW a b) h)/\mnV (dM (bU a b) (bW a b) l) (dM (bU a b) (bW a b) h)<=mxV (dI (bU a b) (bW a b) l) (dI (bU a b) (bW a b) h)/\mxV (dI (bU a b) (bW a b) l) (dI (bU a b) (bW a b) h)<=h);unfold mnV mxV
 constructor<;>(repeat' split)<;>omega
