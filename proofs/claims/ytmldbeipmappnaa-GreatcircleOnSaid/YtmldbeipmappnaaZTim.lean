/- The contracts of multiples of arcs, of points as places, of arcs of all directions. -/
import Derived.Test.YtmldbeipmappnaaZGv
set_option linter.unusedVariables false
set_option linter.unusedSimpArgs false
set_option maxRecDepth 100000
namespace Alm
open Go Sx Go.RowKit
theorem Pv {x m:Int} (hx:-1000000000000<=x/\x<=1000000000000) (hm:1<=m/\m<=1000):-1000000000000<=x/m/\x/m<=1000000000000:=by
 have h1:(-1000000000000:Int)<=x/m:=(Int.le_ediv_iff_mul_le (by omega)).2 (by omega)
 have h2:x/m<1000000000001:=(Int.ediv_lt_iff_lt_mul (by omega)).2 (by omega)
 omega
theorem yH {x m q r c u z:Int} (hx:-1000000000000<=x/\x<=1000000000000) (hm:1<=m/\m<=1000) (eq:q=IntKind.i64.wrap (Int.tdiv x m)) (er:r=Int.tmod x m) (ec:c=b2i (decide (r<0))) (eu:u=IntKind.i64.wrap (q-1)) (ez:z=if c≠0 then u else q):z=x/m:=by
 have b:=Pv hx hm;rw [Int.tdiv_eq_ediv] at eq;rw [Int.tmod_eq_emod] at er;have m1:=Int.emod_nonneg x (show m≠0 by omega)
 have m2:=Int.emod_lt_of_pos x (show 0<m by omega)
 have sm:Int.sign m=1:=Int.sign_eq_one_of_pos (by omega)
 have na:((Int.natAbs m:Nat):Int)=m:=Int.natAbs_of_nonneg (by omega)
 rw [ez,ec]
 by_cases P:0<=x∨m ∣ x
 . rw [if_pos P,Int.add_zero,Go.IntWalk.i64_in _ (by omega)] at eq
   rw [if_pos P] at er;rw [decide_eq_false (by omega),eq];rfl
 . rw [if_neg P,sm,Go.IntWalk.i64_in _ (by omega)] at eq
   rw [if_neg P] at er;rw [Go.IntWalk.i64_in _ (by omega)] at eu
   rw [decide_eq_true (by omega),eu,eq]
   show x/m+1-1=_;omega
def tmL (l i m:Int):Int:=l*i/m
def tmH (h i m:Int):Int:=-(-(h*i)/m)
theorem JO {l h i m:Int} (h1:0<=l/\l<=h/\h<=10800000) (h2:0<=i/\i<=m) (h3:1<=m/\m<=1000):0<=l*i/\l*i<=h*i/\h*i<=10800000*m:=by
 have a:=Int.mul_nonneg h1.1 h2.1;have b:=Int.mul_le_mul_of_nonneg_right h1.2.1 h2.1;have c:=Int.mul_le_mul_of_nonneg_right h1.2.2 h2.1;exact ⟨a,b,by omega⟩
theorem Oy {l h i m:Int} (h1:0<=l/\l<=h/\h<=10800000) (h2:0<=i/\i<=m) (h3:1<=m/\m<=1000):0<=tmL l i m/\tmL l i m<=tmH h i m/\tmH h i m<=10800000:=by
 have M:=JO h1 h2 h3;unfold tmL tmH;generalize l*i=X at *
 generalize h*i=Y at *
 have a:0<=X/m:=Int.ediv_nonneg (by omega) (by omega)
 have d:(-Y)/m<=-(X/m):=Int.ediv_le_of_le_mul (by omega) (by have:=Int.ediv_mul_le X (show m≠0 by omega);rw [Int.neg_mul];omega)
 have e:(-10800000:Int)<=(-Y)/m:=(Int.le_ediv_iff_mul_le (by omega)).2 (by omega)
 omega
end Alm
namespace Go.Proofs.Ytmldbeipmappnaa
open Go.RowKit Alm Sx
theorem GU {a b x27 x28 x29 x30 x31 x32 x33 x34 x35:Int} (h:dA a b=true) (e27:x27=b2i (decide (a<=b))) (e28:x28=b2i (decide (a>=(-1099511627776:Int)))) (e29:x29=b2i (decide (a<=(1099511627776:Int)))) (e30:x30=if x28≠0 then x29 else (0:Int)) (e31:x31=if x27≠0 then x30 else (0:Int)) (e32:x32=b2i (decide (b>=(-1099511627776:Int)))) (e33:x33=b2i (decide (b<=(1099511627776:Int)))) (e34:x34=if x32≠0 then x33 else (0:Int)) (e35:x35=if x31≠0 then x34 else (0:Int)):x35=1:=by
 rw [e35,e31,e27,e30,e28,e29,e34,e32,e33,kr,h];rfl
def iO:List Nd:=[
 .arg 0,
 .arg 1,
 .arg 2,
 .arg 3,
 .bin .leq .i64 (.n 0) (.n 1),
 .bin .geq .i64 (.n 0) (.c (-1099511627776)),
 .bin .leq .i64 (.n 0) (.c 1099511627776),
 .ite (.n 5) (.n 6) (.c 0),
 .ite (.n 4) (.n 7) (.c 0),
 .bin .geq .i64 (.n 1) (.c (-1099511627776)),
 .bin .leq .i64 (.n 1) (.c 1099511627776),
 .ite (.n 9) (.n 10) (.c 0),
 .ite (.n 8) (.n 11) (.c 0),
 .ite (.n 12) (.c 0) (.c 1),
 .bin .lss .i64 (.n 2) (.c (-1048576)),
 .bin .gtr .i64 (.n 2) (.c 1048576),
 .ite (.n 14) (.c 1) (.n 15),
 .bin .lss .i64 (.n 3) (.c 1),
 .ite (.n 16) (.c 1) (.n 17),
 .bin .gtr .i64 (.n 3) (.c 1048576),
 .ite (.n 18) (.c 1) (.n 19),
 .ite (.n 20) (.c 0) (.c 1),
 .ite (.n 12) (.n 21) (.c 0),
 .ite (.n 12) (.n 20) (.c 0),
 .ite (.n 13) (.c 1) (.n 23),
 .ite (.n 13) (.c 1) (.c 2),
 .bin .mul .i64 (.n 0) (.n 2),
 .bin .mul .i64 (.n 1) (.n 2),
 .mn (.n 26) (.n 27),
 .bin .quo .i64 (.n 28) (.n 3),
 .bin .rem .i64 (.n 28) (.n 3),
 .bin .lss .i64 (.n 30) (.c 0),
 .bin .sub .i64 (.n 29) (.c 1),
 .ite (.n 31) (.c 0) (.c 1),
 .ite (.n 31) (.n 32) (.n 29),
 .mx (.n 26) (.n 27),
 .bin .sub .i64 (.c 0) (.n 35),
 .bin .quo .i64 (.n 36) (.n 3),
 .bin .rem .i64 (.n 36) (.n 3),
 .bin .lss .i64 (.n 38) (.c 0),
 .bin .sub .i64 (.n 37) (.c 1),
 .ite (.n 39) (.c 0) (.c 1),
 .ite (.n 39) (.n 40) (.n 37),
 .bin .sub .i64 (.c 0) (.n 42),
 .bin .geq .i64 (.n 34) (.c (-1099511627776)),
 .bin .leq .i64 (.n 34) (.c 1099511627776),
 .ite (.n 44) (.n 45) (.c 0),
 .ite (.n 46) (.c 0) (.c 1),
 .bin .geq .i64 (.n 43) (.c (-1099511627776)),
 .bin .leq .i64 (.n 43) (.c 1099511627776),
 .ite (.n 48) (.n 49) (.c 0),
 .ite (.n 50) (.c 0) (.c 1),
 .ite (.n 47) (.c 1) (.n 51),
 .ite (.n 52) (.c 0) (.c 1),
 .ite (.n 52) (.c 5) (.c 0),
 .ite (.n 52) (.c 0) (.n 34),
 .ite (.n 52) (.c 0) (.n 43),
 .ite (.n 24) (.c 1) (.n 22),
 .ite (.n 24) (.n 25) (.n 54),
 .ite (.n 24) (.c 0) (.n 55),
 .ite (.n 24) (.c 0) (.n 56)]
def E5:List Vc:=[
 ⟨[(.n 22,true)],.ne0 (.n 3)⟩,
 ⟨[(.n 22,true)],.ne0 (.n 3)⟩,
 ⟨[(.n 22,true)],.ne0 (.n 3)⟩,
 ⟨[(.n 22,true)],.ne0 (.n 3)⟩]
theorem Gf:whole Try.prog spM 20 40 85 [(true,[some .i64,some .i64]),(false,[some .i64]),(false,[some .i64])]=some (.tup [.agg [.int .i64 (.n 59),.int .i64 (.n 60)],.c (.int .i64 (.n 58))],⟨iO.reverse,E5.reverse⟩):=by kernel_rfl
theorem Gw:wfN iO.reverse=true:=by kernel_rfl
theorem Qg (a b i m:Int) (w:World) (h1:0<=a/\a<=b/\b<=10800000) (h2:0<=i/\i<=m) (h3:1<=m/\m<=1000):Calls Try.prog 85 #[.agg #[.int .i64 a,.int .i64 b],.int .i64 i,.int .i64 m] w fun e w'=>e=.returned (.tuple #[.agg #[.int .i64 (tmL a i m),.int .i64 (tmH b i m)],.int .i64 0])/\Below w.heap.size w w':=by
 refine Sx.calls (X:=cxM [a,b,i,m]) fE (lD _) Gf Gw (fun v hs=>?_) w
 have e0:v 0=a:=ag hs 0 rfl;have e1:v 1=b:=ag hs 1 rfl;have e2:v 2=i:=ag hs 2 rfl;have e3:v 3=m:=ag hs 3 rfl;have M:=JO h1 h2 h3;have B:=Oy h1 h2 h3;have w26:v 26=a*i:=by rw [show v 26=IntKind.i64.wrap (v 0*v 2) from ag hs 26 rfl,e0,e2,Go.IntWalk.i64_in _ (by omega)]
 have w27:v 27=b*i:=by rw [show v 27=IntKind.i64.wrap (v 1*v 2) from ag hs 27 rfl,e1,e2,Go.IntWalk.i64_in _ (by omega)]
 have w28:v 28=a*i:=by rw [show v 28=if v 27<v 26 then v 27 else v 26 from ag hs 28 rfl,w26,w27];split<;>omega
 have w35:v 35=b*i:=by rw [show v 35=if v 27>v 26 then v 27 else v 26 from ag hs 35 rfl,w26,w27];split<;>omega
 have w36:v 36=-(b*i):=by rw [show v 36=IntKind.i64.wrap ((0:Int)-v 35) from ag hs 36 rfl,w35,Go.IntWalk.i64_in _ (by omega)];omega
 have w34:v 34=tmL a i m:=by
  have:=yH (x:=v 28) (m:=v 3) (q:=v 29) (r:=v 30) (c:=v 31) (u:=v 32) (z:=v 34) (by omega) (by omega) (ag hs 29 rfl) (ag hs 30 rfl) (ag hs 31 rfl) (ag hs 32 rfl) (ag hs 34 rfl)
  rw [this,w28,e3];rfl
 have w42:v 42=-(b*i)/m:=by
  have:=yH (x:=v 36) (m:=v 3) (q:=v 37) (r:=v 38) (c:=v 39) (u:=v 40) (z:=v 42) (by omega) (by omega) (ag hs 37 rfl) (ag hs 38 rfl) (ag hs 39 rfl) (ag hs 40 rfl) (ag hs 42 rfl)
  rw [this,w36,e3]
 have B':-(b*i)/m=-tmH b i m:=by unfold tmH;omega
 have w43:v 43=tmH b i m:=by rw [show v 43=IntKind.i64.wrap ((0:Int)-v 42) from ag hs 43 rfl,w42,B',Go.IntWalk.i64_in _ (by omega)];omega
 have k12:v 12=1:=GU (a:=v 0) (b:=v 1) (x27:=v 4) (x28:=v 5) (x29:=v 6) (x30:=v 7) (x31:=v 8) (x32:=v 9) (x33:=v 10) (x34:=v 11) (x35:=v 12) ((cO _ _).2 (by omega)) (ag hs 4 rfl) (ag hs 5 rfl) (ag hs 6 rfl) (ag hs 7 rfl) (ag hs 8 rfl) (ag hs 9 rfl) (ag hs 10 rfl) (ag hs 11 rfl) (ag hs 12 rfl)
 have k14:v 14=0:=by rw [show v 14=b2i (decide (v 2<(-1048576:Int))) from ag hs 14 rfl,e2,decide_eq_false (by omega)];rfl
 have k15:v 15=0:=by rw [show v 15=b2i (decide (v 2>(1048576:Int))) from ag hs 15 rfl,e2,decide_eq_false (by omega)];rfl
 have k17:v 17=0:=by rw [show v 17=b2i (decide (v 3<(1:Int))) from ag hs 17 rfl,e3,decide_eq_false (by omega)];rfl
 have k19:v 19=0:=by rw [show v 19=b2i (decide (v 3>(1048576:Int))) from ag hs 19 rfl,e3,decide_eq_false (by omega)];rfl
 have k44:v 44=1:=by rw [show v 44=b2i (decide (v 34>=(-1099511627776:Int))) from ag hs 44 rfl,w34,decide_eq_true (by omega)];rfl
 have k45:v 45=1:=by rw [show v 45=b2i (decide (v 34<=(1099511627776:Int))) from ag hs 45 rfl,w34,decide_eq_true (by omega)];rfl
 have k48:v 48=1:=by rw [show v 48=b2i (decide (v 43>=(-1099511627776:Int))) from ag hs 48 rfl,w43,decide_eq_true (by omega)];rfl
 have k49:v 49=1:=by rw [show v 49=b2i (decide (v 43<=(1099511627776:Int))) from ag hs 49 rfl,w43,decide_eq_true (by omega)];rfl
 have z58:v 58=0:=aC (X:=cxM [a,b,i,m]) (v:=v) (l:=iO) (bv _) hs (k:=58) (r:=.c 0) (ps:=[(12,.c 1),(14,.c 0),(15,.c 0),(17,.c 0),(19,.c 0),(44,.c 1),(45,.c 1),(48,.c 1),(49,.c 1)]) (nz:=[]) (aa k12 (aa k14 (aa k15 (aa k17 (aa k19 (aa k44 (aa k45 (aa k48 (aa k49 au))))))))) aJ (by kernel_rfl)
 have z59:v 59=v 34:=aA (X:=cxM [a,b,i,m]) (v:=v) (l:=iO) (bv _) hs (k:=59) (j:=34) (ps:=[(12,.c 1),(14,.c 0),(15,.c 0),(17,.c 0),(19,.c 0),(44,.c 1),(45,.c 1),(48,.c 1),(49,.c 1)]) (aa k12 (aa k14 (aa k15 (aa k17 (aa k19 (aa k44 (aa k45 (aa k48 (aa k49 au))))))))) (by kernel_rfl)
 have z60:v 60=v 43:=aA (X:=cxM [a,b,i,m]) (v:=v) (l:=iO) (bv _) hs (k:=60) (j:=43) (ps:=[(12,.c 1),(14,.c 0),(15,.c 0),(17,.c 0),(19,.c 0),(44,.c 1),(45,.c 1),(48,.c 1),(49,.c 1)]) (aa k12 (aa k14 (aa k15 (aa k17 (aa k19 (aa k44 (aa k45 (aa k48 (aa k49 au))))))))) (by kernel_rfl)
 refine ⟨cB ?_,?_⟩
 . exact af (fun _=>(show v 3≠0 by rw [e3];omega)) (af (fun _=>(show v 3≠0 by rw [e3];omega)) (af (fun _=>(show v 3≠0 by rw [e3];omega)) (af (fun _=>(show v 3≠0 by rw [e3];omega)) (cz))))
 . intro x hx0;have hx':=cu (v:=v) (by rfl) hx0
   rw [hx'];show Value.tuple #[.agg #[.int .i64 (v 59),.int .i64 (v 60)],.int .i64 (v 58)]=_;rw [z58,z59,z60,w34,w43]
def Ej:List Nd:=[
 .arg 0,
 .arg 1,
 .bin .geq .i64 (.n 0) (.c (-5400000)),
 .bin .leq .i64 (.n 0) (.c 5400000),
 .ite (.n 2) (.n 3) (.c 0),
 .bin .geq .i64 (.n 1) (.c (-10800000)),
 .ite (.n 4) (.n 5) (.c 0),
 .bin .lss .i64 (.n 1) (.c 10800000),
 .ite (.n 6) (.n 7) (.c 0),
 .ite (.n 8) (.c 0) (.c 1),
 .ite (.n 9) (.c 0) (.n 0),
 .ite (.n 9) (.c 0) (.n 1)]
def MP:List Vc:=[
 ]
theorem M8:whole Try.prog spM 20 40 84 [(true,[some .i64,some .i64])]=some (.tup [.agg [.int .i64 (.n 10),.int .i64 (.n 10),.int .i64 (.n 11),.int .i64 (.n 11)],.c (.int .i64 (.n 9))],⟨Ej.reverse,MP.reverse⟩):=by kernel_rfl
theorem LJ:wfN Ej.reverse=true:=by kernel_rfl
theorem PH (a b:Int) (w:World) (h1:PtV a b):Calls Try.prog 84 #[.agg #[.int .i64 a,.int .i64 b]] w fun e w'=>e=.returned (.tuple #[.agg #[.int .i64 a,.int .i64 a,.int .i64 b,.int .i64 b],.int .i64 0])/\Below w.heap.size w w':=by
 refine Sx.calls (X:=cxM [a,b]) fE (lD _) M8 LJ (fun v hs=>?_) w
 have e0:v 0=a:=ag hs 0 rfl;have e1:v 1=b:=ag hs 1 rfl;have B1:v 8=b2i (decide (PtV (v 0) (v 1))):=ptB (x1:=v 2) (x2:=v 3) (x3:=v 5) (x4:=v 7) (y5:=0) (y7:=0) (y9:=0) (z6:=v 4) (z8:=v 6) (ag hs 2 rfl) (ag hs 3 rfl) (ag hs 5 rfl) (ag hs 7 rfl) (ag hs 4 rfl) (ag hs 6 rfl) (ag hs 8 rfl);have k8:v 8=1:=by rw [B1,e0,e1,decide_eq_true h1];rfl
 have z9:v 9=0:=by rw [show v 9=if v 8≠0 then (0:Int) else (1:Int) from ag hs 9 rfl,if_pos (by omega)]
 have z10:v 10=v 0:=by rw [show v 10=if v 9≠0 then (0:Int) else v 0 from ag hs 10 rfl,if_neg (by omega)]
 have z11:v 11=v 1:=by rw [show v 11=if v 9≠0 then (0:Int) else v 1 from ag hs 11 rfl,if_neg (by omega)]
 refine ⟨cB ?_,?_⟩
 . exact cz
 . intro x hx0;have hx':=cu (v:=v) (by rfl) hx0
   rw [hx'];show Value.tuple #[.agg #[.int .i64 (v 10),.int .i64 (v 10),.int .i64 (v 11),.int .i64 (v 11)],.int .i64 (v 9)]=_;rw [z9,z10,z11,e0,e1]
def rG:List Nd:=[
 .arg 0,
 .arg 1,
 .bin .eql .i64 (.n 0) (.c 0),
 .bin .eql .i64 (.n 1) (.c 21600000),
 .ite (.n 2) (.n 3) (.c 0)]
def Bz:List Vc:=[
 ]
theorem AZ:whole Try.prog spM 20 40 83 [(true,[some .i64,some .i64])]=some (.p (.c (.bool (.n 4))),⟨rG.reverse,Bz.reverse⟩):=by kernel_rfl
theorem Cj:wfN rG.reverse=true:=by kernel_rfl
theorem MW (a b:Int) (w:World):Calls Try.prog 83 #[.agg #[.int .i64 a,.int .i64 b]] w fun e w'=>e=.returned (.bool (decide (a=0/\b=21600000)))/\Below w.heap.size w w':=by
 refine Sx.calls (X:=cxM [a,b]) fE (lD _) AZ Cj (fun v hs=>?_) w
 have e0:v 0=a:=ag hs 0 rfl;have e1:v 1=b:=ag hs 1 rfl
 have w4:v 4=b2i (decide (a=0/\b=21600000)):=by
  rw [show v 4=if v 2≠0 then v 3 else (0:Int) from ag hs 4 rfl,show v 2=b2i (v 0==(0:Int)) from ag hs 2 rfl,show v 3=b2i (v 1==(21600000:Int)) from ag hs 3 rfl,show (v 0==(0:Int))=decide (v 0=0) from rfl,show (v 1==(21600000:Int))=decide (v 1=21600000) from rfl,bb2,e0,e1]
 refine ⟨cB ?_,?_⟩
 . exact cz
 . intro x hx0;have hx':=cu (v:=v) (by rfl) hx0
   rw [hx'];show Value.bool (decide (v 4≠0))=_;rw [w4];by_cases q:a=0/\b=21600000<;>simp [q,b2i]
