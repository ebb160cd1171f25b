/- The contracts of multiples of arcs, of points as places, of arcs of all directions. -/
import Derived.Test.YtknhbpnclokciaaGreatZGv
set_option linter.unusedVariables false
set_option linter.unusedSimpArgs false
set_option maxRecDepth 100000
namespace Alm
open Go Sx Go.RowKit
theorem abK {x m:Int} (hx:-1000000000000<=x/\x<=1000000000000) (hm:1<=m/\m<=1000):-1000000000000<=x/m/\x/m<=1000000000000:=by
 have h1:(-1000000000000:Int)<=x/m:=(Int.le_ediv_iff_mul_le (by omega)).2 (by omega)
 have h2:x/m<1000000000001:=(Int.ediv_lt_iff_lt_mul (by omega)).2 (by omega)
 omega
theorem ZT {x m q r c u z:Int} (hx:-1000000000000<=x/\x<=1000000000000) (hm:1<=m/\m<=1000) (eq:q=IntKind.i64.wrap (Int.tdiv x m)) (er:r=Int.tmod x m) (ec:c=b2i (decide (r<0))) (eu:u=IntKind.i64.wrap (q-1)) (ez:z=if c≠0 then u else q):z=x/m:=by
 have b:=abK hx hm;rw [Int.tdiv_eq_ediv] at eq;rw [Int.tmod_eq_emod] at er;have m1:=Int.emod_nonneg x (show m≠0 by omega)
 have m2:=Int.emod_lt_of_pos x (show 0<m by omega)
 have sm:Int.sign m=1:=Int.sign_eq_one_of_pos (by omega)
 have na:((Int.natAbs m:Nat):Int)=m:=Int.natAbs_of_nonneg (by omega)
 rw [ez,ec]
 by_cases P:0<=x∨m ∣ x
 . rw [if_pos P,Int.add_zero,Go.IntWalk.i64_in _ (by omega)] at eq
   rw [if_pos P] at er;rw [decide_eq_false (by omega),eq];rfl
 . rw [if_neg P,sm,Go.IntWalk.i64_in _ (by omega)] at eq
   rw [if_neg P] at er;rw [Go.IntWalk.i64_in _ (by omega)] at eu
   rw [decide_eq_true (by omega),eu,eq]
   show x/m+1-1=_;omega
theorem aby {x m q r c u z:Int} (hx:0<=x/\x<=1000000000000) (hm:1<=m/\m<=1000) (eq:q=IntKind.i64.wrap (Int.tdiv x m)) (er:r=Int.tmod x m) (ec:c=b2i (decide (r>0))) (eu:u=IntKind.i64.wrap (q+1)) (ez:z=if c≠0 then u else q):z=-(-x/m):=by
 have b:=abK (x:=x) (by omega) hm
 rw [Int.tdiv_eq_ediv_of_nonneg (by omega),Go.IntWalk.i64_in _ (by omega)] at eq
 rw [Int.tmod_eq_emod_of_nonneg (by omega)] at er
 have m1:=Int.emod_nonneg x (show m≠0 by omega)
 have sm:Int.sign m=1:=Int.sign_eq_one_of_pos (by omega)
 rw [Go.IntWalk.i64_in _ (by omega)] at eu
 rw [Int.neg_ediv,sm,ez,ec,eu,eq,er]
 by_cases P:m ∣ x
 . rw [if_pos P,decide_eq_false (by have:=Int.emod_eq_zero_of_dvd P;omega)]
   show x/m=_;omega
 . rw [if_neg P,decide_eq_true (by have:x%m≠0:=fun h=>P (Int.dvd_of_emod_eq_zero h);omega)]
   show x/m+1=_;omega
def tmL (l i m:Int):Int:=l*i/m
def tmH (h i m:Int):Int:=-(-(h*i)/m)
theorem aay {l h i m:Int} (h1:0<=l/\l<=h/\h<=10800000) (h2:0<=i/\i<=m) (h3:1<=m/\m<=1000):0<=l*i/\l*i<=h*i/\h*i<=10800000*m:=by
 have a:=Int.mul_nonneg h1.1 h2.1;have b:=Int.mul_le_mul_of_nonneg_right h1.2.1 h2.1;have c:=Int.mul_le_mul_of_nonneg_right h1.2.2 h2.1;exact ⟨a,b,by omega⟩
theorem abq {l h i m:Int} (h1:0<=l/\l<=h/\h<=10800000) (h2:0<=i/\i<=m) (h3:1<=m/\m<=1000):0<=tmL l i m/\tmL l i m<=tmH h i m/\tmH h i m<=10800000:=by
 have M:=aay h1 h2 h3;unfold tmL tmH;generalize l*i=X at *
 generalize h*i=Y at *
 have a:0<=X/m:=Int.ediv_nonneg (by omega) (by omega)
 have d:(-Y)/m<=-(X/m):=Int.ediv_le_of_le_mul (by omega) (by have:=Int.ediv_mul_le X (show m≠0 by omega);rw [Int.neg_mul];omega)
 have e:(-10800000:Int)<=(-Y)/m:=(Int.le_ediv_iff_mul_le (by omega)).2 (by omega)
 omega
end Alm
namespace Go.Proofs.YtknhbpnclokciaaGreat
open Go.RowKit Alm Sx
theorem aa9 {a b x27 x28 x29 x30 x31 x32 x33 x34 x35:Int} (h:aH a b=true) (e27:x27=b2i (decide (a<=b))) (e28:x28=b2i (decide (a>=(-1099511627776:Int)))) (e29:x29=b2i (decide (a<=(1099511627776:Int)))) (e30:x30=if x28≠0 then x29 else (0:Int)) (e31:x31=if x27≠0 then x30 else (0:Int)) (e32:x32=b2i (decide (b>=(-1099511627776:Int)))) (e33:x33=b2i (decide (b<=(1099511627776:Int)))) (e34:x34=if x32≠0 then x33 else (0:Int)) (e35:x35=if x31≠0 then x34 else (0:Int)):x35=1:=by
 rw [e35,e31,e27,e30,e28,e29,e34,e32,e33,Lm,h];rfl
def Zg:List Nd:=[
 .arg 0,
 .arg 1,
 .arg 2,
 .arg 3,
 .bin .leq .i64 (.n 0) (.n 1),
 .bin .geq .i64 (.n 0) (.c (-1099511627776)),
 .bin .leq .i64 (.n 0) (.c 1099511627776),
 .ite (.n 5) (.n 6) (.c 0),
 .ite (.n 4) (.n 7) (.c 0),
 .bin .geq .i64 (.n 1) (.c (-1099511627776)),
 .bin .leq .i64 (.n 1) (.c 1099511627776),
 .ite (.n 9) (.n 10) (.c 0),
 .ite (.n 8) (.n 11) (.c 0),
 .ite (.n 12) (.c 0) (.c 1),
 .bin .lss .i64 (.n 2) (.c (-1048576)),
 .bin .gtr .i64 (.n 2) (.c 1048576),
 .ite (.n 14) (.c 1) (.n 15),
 .bin .lss .i64 (.n 3) (.c 1),
 .ite (.n 16) (.c 1) (.n 17),
 .bin .gtr .i64 (.n 3) (.c 1048576),
 .ite (.n 18) (.c 1) (.n 19),
 .ite (.n 20) (.c 0) (.c 1),
 .ite (.n 12) (.n 21) (.c 0),
 .ite (.n 12) (.n 20) (.c 0),
 .ite (.n 13) (.c 1) (.n 23),
 .ite (.n 13) (.c 1) (.c 2),
 .bin .mul .i64 (.n 0) (.n 2),
 .bin .mul .i64 (.n 1) (.n 2),
 .mn (.n 26) (.n 27),
 .bin .quo .i64 (.n 28) (.n 3),
 .bin .rem .i64 (.n 28) (.n 3),
 .bin .lss .i64 (.n 30) (.c 0),
 .bin .sub .i64 (.n 29) (.c 1),
 .ite (.n 31) (.c 0) (.c 1),
 .ite (.n 31) (.n 32) (.n 29),
 .mx (.n 26) (.n 27),
 .bin .sub .i64 (.c 0) (.n 35),
 .bin .quo .i64 (.n 36) (.n 3),
 .bin .rem .i64 (.n 36) (.n 3),
 .bin .lss .i64 (.n 38) (.c 0),
 .bin .sub .i64 (.n 37) (.c 1),
 .ite (.n 39) (.c 0) (.c 1),
 .ite (.n 39) (.n 40) (.n 37),
 .bin .sub .i64 (.c 0) (.n 42),
 .bin .geq .i64 (.n 34) (.c (-1099511627776)),
 .bin .leq .i64 (.n 34) (.c 1099511627776),
 .ite (.n 44) (.n 45) (.c 0),
 .ite (.n 46) (.c 0) (.c 1),
 .bin .geq .i64 (.n 43) (.c (-1099511627776)),
 .bin .leq .i64 (.n 43) (.c 1099511627776),
 .ite (.n 48) (.n 49) (.c 0),
 .ite (.n 50) (.c 0) (.c 1),
 .ite (.n 47) (.c 1) (.n 51),
 .ite (.n 52) (.c 0) (.c 1),
 .ite (.n 52) (.c 5) (.c 0),
 .ite (.n 52) (.c 0) (.n 34),
 .ite (.n 52) (.c 0) (.n 43),
 .ite (.n 24) (.c 1) (.n 22),
 .ite (.n 24) (.n 25) (.n 54),
 .ite (.n 24) (.c 0) (.n 55),
 .ite (.n 24) (.c 0) (.n 56)]
def aa6:List Vc:=[
 ⟨[(.n 22,true)],.ne0 (.n 3)⟩,
 ⟨[(.n 22,true)],.ne0 (.n 3)⟩,
 ⟨[(.n 22,true)],.ne0 (.n 3)⟩,
 ⟨[(.n 22,true)],.ne0 (.n 3)⟩]
theorem aa5:whole Tryz.prog spM 20 40 123 [(true,[some .i64,some .i64]),(false,[some .i64]),(false,[some .i64])]=some (.tup [.agg [.int .i64 (.n 59),.int .i64 (.n 60)],.c (.int .i64 (.n 58))],⟨Zg.reverse,aa6.reverse⟩):=by kernel_rfl
theorem aa7:wfN Zg.reverse=true:=by kernel_rfl
theorem adh (a b i m:Int) (w:World) (h1:0<=a/\a<=b/\b<=10800000) (h2:0<=i/\i<=m) (h3:1<=m/\m<=1000):Calls Tryz.prog 123 #[.agg #[.int .i64 a,.int .i64 b],.int .i64 i,.int .i64 m] w fun e w'=>e=.returned (.tuple #[.agg #[.int .i64 (tmL a i m),.int .i64 (tmH b i m)],.int .i64 0])/\Below w.heap.size w w':=by
 refine Sx.calls (X:=cxM [a,b,i,m]) il (PO _) aa5 aa7 (fun v hs=>?_) w
 have e0:v 0=a:=ae hs 0 rfl;have e1:v 1=b:=ae hs 1 rfl;have e2:v 2=i:=ae hs 2 rfl;have e3:v 3=m:=ae hs 3 rfl;have M:=aay h1 h2 h3;have B:=abq h1 h2 h3;have w26:v 26=a*i:=by rw [show v 26=IntKind.i64.wrap (v 0*v 2) from ae hs 26 rfl,e0,e2,Go.IntWalk.i64_in _ (by omega)]
 have w27:v 27=b*i:=by rw [show v 27=IntKind.i64.wrap (v 1*v 2) from ae hs 27 rfl,e1,e2,Go.IntWalk.i64_in _ (by omega)]
 have w28:v 28=a*i:=by rw [show v 28=if v 27<v 26 then v 27 else v 26 from ae hs 28 rfl,w26,w27];split<;>omega
 have w35:v 35=b*i:=by rw [show v 35=if v 27>v 26 then v 27 else v 26 from ae hs 35 rfl,w26,w27];split<;>omega
 have w36:v 36=-(b*i):=by rw [show v 36=IntKind.i64.wrap ((0:Int)-v 35) from ae hs 36 rfl,w35,Go.IntWalk.i64_in _ (by omega)];omega
 have w34:v 34=tmL a i m:=by
  have:=ZT (x:=v 28) (m:=v 3) (q:=v 29) (r:=v 30) (c:=v 31) (u:=v 32) (z:=v 34) (by omega) (by omega) (ae hs 29 rfl) (ae hs 30 rfl) (ae hs 31 rfl) (ae hs 32 rfl) (ae hs 34 rfl)
  rw [this,w28,e3];rfl
 have w42:v 42=-(b*i)/m:=by
  have:=ZT (x:=v 36) (m:=v 3) (q:=v 37) (r:=v 38) (c:=v 39) (u:=v 40) (z:=v 42) (by omega) (by omega) (ae hs 37 rfl) (ae hs 38 rfl) (ae hs 39 rfl) (ae hs 40 rfl) (ae hs 42 rfl)
  rw [this,w36,e3]
 have B':-(b*i)/m=-tmH b i m:=by unfold tmH;omega
 have w43:v 43=tmH b i m:=by rw [show v 43=IntKind.i64.wrap ((0:Int)-v 42) from ae hs 43 rfl,w42,B',Go.IntWalk.i64_in _ (by omega)];omega
 have k12:v 12=1:=aa9 (a:=v 0) (b:=v 1) (x27:=v 4) (x28:=v 5) (x29:=v 6) (x30:=v 7) (x31:=v 8) (x32:=v 9) (x33:=v 10) (x34:=v 11) (x35:=v 12) ((eF _ _).2 (by omega)) (ae hs 4 rfl) (ae hs 5 rfl) (ae hs 6 rfl) (ae hs 7 rfl) (ae hs 8 rfl) (ae hs 9 rfl) (ae hs 10 rfl) (ae hs 11 rfl) (ae hs 12 rfl)
 have k14:v 14=0:=by rw [show v 14=b2i (decide (v 2<(-1048576:Int))) from ae hs 14 rfl,e2,decide_eq_false (by omega)];rfl
 have k15:v 15=0:=by rw [show v 15=b2i (decide (v 2>(1048576:Int))) from ae hs 15 rfl,e2,decide_eq_false (by omega)];rfl
 have k17:v 17=0:=by rw [show v 17=b2i (decide (v 3<(1:Int))) from ae hs 17 rfl,e3,decide_eq_false (by omega)];rfl
 have k19:v 19=0:=by rw [show v 19=b2i (decide (v 3>(1048576:Int))) from ae hs 19 rfl,e3,decide_eq_false (by omega)];rfl
 have k44:v 44=1:=by rw [show v 44=b2i (decide (v 34>=(-1099511627776:Int))) from ae hs 44 rfl,w34,decide_eq_true (by omega)];rfl
 have k45:v 45=1:=by rw [show v 45=b2i (decide (v 34<=(1099511627776:Int))) from ae hs 45 rfl,w34,decide_eq_true (by omega)];rfl
 have k48:v 48=1:=by rw [show v 48=b2i (decide (v 43>=(-1099511627776:Int))) from ae hs 48 rfl,w43,decide_eq_true (by omega)];rfl
 have k49:v 49=1:=by rw [show v 49=b2i (decide (v 43<=(1099511627776:Int))) from ae hs 49 rfl,w43,decide_eq_true (by omega)];rfl
 have z58:v 58=0:=aL (X:=cxM [a,b,i,m]) (v:=v) (l:=Zg) (eB _) hs (k:=58) (r:=.c 0) (ps:=[(12,.c 1),(14,.c 0),(15,.c 0),(17,.c 0),(19,.c 0),(44,.c 1),(45,.c 1),(48,.c 1),(49,.c 1)]) (nz:=[]) (ah k12 (ah k14 (ah k15 (ah k17 (ah k19 (ah k44 (ah k45 (ah k48 (ah k49 aK))))))))) bB (by kernel_rfl)
 have z59:v 59=v 34:=kW (X:=cxM [a,b,i,m]) (v:=v) (l:=Zg) (eB _) hs (k:=59) (j:=34) (ps:=[(12,.c 1),(14,.c 0),(15,.c 0),(17,.c 0),(19,.c 0),(44,.c 1),(45,.c 1),(48,.c 1),(49,.c 1)]) (ah k12 (ah k14 (ah k15 (ah k17 (ah k19 (ah k44 (ah k45 (ah k48 (ah k49 aK))))))))) (by kernel_rfl)
 have z60:v 60=v 43:=kW (X:=cxM [a,b,i,m]) (v:=v) (l:=Zg) (eB _) hs (k:=60) (j:=43) (ps:=[(12,.c 1),(14,.c 0),(15,.c 0),(17,.c 0),(19,.c 0),(44,.c 1),(45,.c 1),(48,.c 1),(49,.c 1)]) (ah k12 (ah k14 (ah k15 (ah k17 (ah k19 (ah k44 (ah k45 (ah k48 (ah k49 aK))))))))) (by kernel_rfl)
 refine ⟨dV ?_,?_⟩
 . exact aj (fun _=>(show v 3≠0 by rw [e3];omega)) (aj (fun _=>(show v 3≠0 by rw [e3];omega)) (aj (fun _=>(show v 3≠0 by rw [e3];omega)) (aj (fun _=>(show v 3≠0 by rw [e3];omega)) (dO))))
 . intro x hx0;have hx':=gG (v:=v) (by rfl) hx0
   rw [hx'];show Value.tuple #[.agg #[.int .i64 (v 59),.int .i64 (v 60)],.int .i64 (v 58)]=_;rw [z58,z59,z60,w34,w43]
def kR5 (f:Nat):Bool:=f==85
def adR (args:List Int):Cx:=(cxM args).plus kR5 (fun _ _=>[]) (fun _ _=>False)
def acT:Sx.Spec:=⟨133,85,[(true,[some .i64,some .i64]),(false,[some .i64]),(false,[some .i64])],[(true,[some .i64,some .i64])]⟩
theorem abZ (args:List Int):∀ s∈[acT],aQ Tryz.prog (adR args) s:=by
 intro s hs;simp only [List.mem_cons,List.not_mem_nil,or_false] at hs;subst hs;exact iM rfl (ours _ _ _ Tryz.func133 rfl (by kernel_rfl)) fun xs hp w=>hp.elim
def ZZ:List Nd:=[
 .arg 0,
 .arg 1,
 .arg 2,
 .arg 3,
 .bin .lss .i64 (.n 2) (.c 0),
 .bin .sub .i64 (.c 0) (.n 1),
 .bin .sub .i64 (.c 0) (.n 0),
 .bin .sub .i64 (.c 0) (.n 2),
 .app 85 0 [.n 5,.n 6,.n 7,.n 3],
 .app 85 1 [.n 5,.n 6,.n 7,.n 3],
 .ite (.n 4) (.c 0) (.c 1),
 .bin .mul .i64 (.n 0) (.n 2),
 .bin .quo .i64 (.n 11) (.n 3),
 .bin .rem .i64 (.n 11) (.n 3),
 .bin .lss .i64 (.n 13) (.c 0),
 .bin .sub .i64 (.n 12) (.c 1),
 .ite (.n 14) (.c 0) (.c 1),
 .ite (.n 14) (.n 15) (.n 12),
 .bin .mul .i64 (.n 1) (.n 2),
 .bin .quo .i64 (.n 18) (.n 3),
 .bin .rem .i64 (.n 18) (.n 3),
 .bin .gtr .i64 (.n 20) (.c 0),
 .bin .add .i64 (.n 19) (.c 1),
 .ite (.n 21) (.c 0) (.c 1),
 .ite (.n 21) (.n 22) (.n 19),
 .ite (.n 4) (.n 8) (.n 17),
 .ite (.n 4) (.n 9) (.n 24)]
def abe:List Vc:=[
 ⟨[(.n 4,true)],.pre 85 [.n 5,.n 6,.n 7,.n 3]⟩,
 ⟨[(.n 10,true)],.ne0 (.n 3)⟩,
 ⟨[(.n 10,true)],.ne0 (.n 3)⟩,
 ⟨[(.n 10,true)],.ne0 (.n 3)⟩,
 ⟨[(.n 10,true)],.ne0 (.n 3)⟩]
theorem aa1:whole Tryz.prog [acT] 20 40 133 [(true,[some .i64,some .i64]),(false,[some .i64]),(false,[some .i64])]=some (.p (.agg [.int .i64 (.n 25),.int .i64 (.n 26)]),⟨ZZ.reverse,abe.reverse⟩):=by kernel_rfl
theorem aa8:wfN ZZ.reverse=true:=by kernel_rfl
theorem adJ (a b i m:Int) (w:World) (h1:0<=a/\a<=b/\b<=10800000) (h2:0<=i/\i<=m) (h3:1<=m/\m<=1000):Calls Tryz.prog 133 #[.agg #[.int .i64 a,.int .i64 b],.int .i64 i,.int .i64 m] w fun e w'=>e=.returned (.agg #[.int .i64 (tmL a i m),.int .i64 (tmH b i m)])/\Below w.heap.size w w':=by
 refine Sx.calls (X:=adR [a,b,i,m]) il (abZ _) aa1 aa8 (fun v hs=>?_) w
 have e0:v 0=a:=ae hs 0 rfl;have e1:v 1=b:=ae hs 1 rfl;have e2:v 2=i:=ae hs 2 rfl;have e3:v 3=m:=ae hs 3 rfl;have M:=aay h1 h2 h3;have w11:v 11=a*i:=by rw [show v 11=IntKind.i64.wrap (v 0*v 2) from ae hs 11 rfl,e0,e2,Go.IntWalk.i64_in _ (by omega)]
 have w18:v 18=b*i:=by rw [show v 18=IntKind.i64.wrap (v 1*v 2) from ae hs 18 rfl,e1,e2,Go.IntWalk.i64_in _ (by omega)]
 have k4:v 4=0:=by rw [show v 4=b2i (decide (v 2<(0:Int))) from ae hs 4 rfl,e2,decide_eq_false (by omega)];rfl
 have w17:v 17=tmL a i m:=by
  have:=ZT (x:=v 11) (m:=v 3) (q:=v 12) (r:=v 13) (c:=v 14) (u:=v 15) (z:=v 17) (by omega) (by omega) (ae hs 12 rfl) (ae hs 13 rfl) (ae hs 14 rfl) (ae hs 15 rfl) (ae hs 17 rfl)
  rw [this,w11,e3];rfl
 have w24:v 24=tmH b i m:=by
  have:=aby (x:=v 18) (m:=v 3) (q:=v 19) (r:=v 20) (c:=v 21) (u:=v 22) (z:=v 24) (by omega) (by omega) (ae hs 19 rfl) (ae hs 20 rfl) (ae hs 21 rfl) (ae hs 22 rfl) (ae hs 24 rfl)
  rw [this,w18,e3];rfl
 have z25:v 25=v 17:=by rw [show v 25=if v 4≠0 then v 8 else v 17 from ae hs 25 rfl,if_neg (by omega)]
 have z26:v 26=v 24:=by rw [show v 26=if v 4≠0 then v 9 else v 24 from ae hs 26 rfl,if_neg (by omega)]
 refine ⟨dV ?_,?_⟩
 . exact aj (fun hp=>absurd k4 (ax hp).1) (aj (fun _=>(show v 3≠0 by rw [e3];omega)) (aj (fun _=>(show v 3≠0 by rw [e3];omega)) (aj (fun _=>(show v 3≠0 by rw [e3];omega)) (aj (fun _=>(show v 3≠0 by rw [e3];omega)) (dO)))))
 . intro x hx0;have hx':=gG (v:=v) (by rfl) hx0
   rw [hx'];show Value.agg #[.int .i64 (v 25),.int .i64 (v 26)]=_;rw [z25,z26,w17,w24]
def aaX:List Nd:=[
 .arg 0,
 .arg 1,
 .bin .geq .i64 (.n 0) (.c (-5400000)),
 .bin .leq .i64 (.n 0) (.c 5400000),
 .ite (.n 2) (.n 3) (.c 0),
 .bin .geq .i64 (.n 1) (.c (-10800000)),
 .ite (.n 4) (.n 5) (.c 0),
 .bin .lss .i64 (.n 1) (.c 10800000),
 .ite (.n 6) (.n 7) (.c 0),
 .ite (.n 8) (.c 0) (.c 1),
 .ite (.n 9) (.c 0) (.n 0),
 .ite (.n 9) (.c 0) (.n 1)]
def acH:List Vc:=[
 ]
theorem abT:whole Tryz.prog spM 20 40 122 [(true,[some .i64,some .i64])]=some (.tup [.agg [.int .i64 (.n 10),.int .i64 (.n 10),.int .i64 (.n 11),.int .i64 (.n 11)],.c (.int .i64 (.n 9))],⟨aaX.reverse,acH.reverse⟩):=by kernel_rfl
theorem ach:wfN aaX.reverse=true:=by kernel_rfl
theorem ada (a b:Int) (w:World) (h1:PtV a b):Calls Tryz.prog 122 #[.agg #[.int .i64 a,.int .i64 b]] w fun e w'=>e=.returned (.tuple #[.agg #[.int .i64 a,.int .i64 a,.int .i64 b,.int .i64 b],.int .i64 0])/\Below w.heap.size w w':=by
 refine Sx.calls (X:=cxM [a,b]) il (PO _) abT ach (fun v hs=>?_) w
 have e0:v 0=a:=ae hs 0 rfl;have e1:v 1=b:=ae hs 1 rfl;have B1:v 8=b2i (decide (PtV (v 0) (v 1))):=ptB (x1:=v 2) (x2:=v 3) (x3:=v 5) (x4:=v 7) (y5:=0) (y7:=0) (y9:=0) (z6:=v 4) (z8:=v 6) (ae hs 2 rfl) (ae hs 3 rfl) (ae hs 5 rfl) (ae hs 7 rfl) (ae hs 4 rfl) (ae hs 6 rfl) (ae hs 8 rfl);have k8:v 8=1:=by rw [B1,e0,e1,decide_eq_true h1];rfl
 have z9:v 9=0:=by rw [show v 9=if v 8≠0 then (0:Int) else (1:Int) from ae hs 9 rfl,if_pos (by omega)]
 have z10:v 10=v 0:=by rw [show v 10=if v 9≠0 then (0:Int) else v 0 from ae hs 10 rfl,if_neg (by omega)]
 have z11:v 11=v 1:=by rw [show v 11=if v 9≠0 then (0:Int) else v 1 from ae hs 11 rfl,if_neg (by omega)]
 refine ⟨dV ?_,?_⟩
 . exact dO
 . intro x hx0;have hx':=gG (v:=v) (by rfl) hx0
   rw [hx'];show Value.tuple #[.agg #[.int .i64 (v 10),.int .i64 (v 10),.int .i64 (v 11),.int .i64 (v 11)],.int .i64 (v 9)]=_;rw [z9,z10,z11,e0,e1]
def ZY:List Nd:=[
 .arg 0,
 .arg 1]
def aba:List Vc:=[
 ]
theorem aa3:whole Tryz.prog spM 20 40 132 [(true,[some .i64,some .i64])]=some (.p (.agg [.int .i64 (.n 0),.int .i64 (.n 0),.int .i64 (.n 1),.int .i64 (.n 1)]),⟨ZY.reverse,aba.reverse⟩):=by kernel_rfl
theorem aa4:wfN ZY.reverse=true:=by kernel_rfl
theorem abj (a b:Int) (w:World):Calls Tryz.prog 132 #[.agg #[.int .i64 a,.int .i64 b]] w fun e w'=>e=.returned (.agg #[.int .i64 a,.int .i64 a,.int .i64 b,.int .i64 b])/\Below w.heap.size w w':=by
 refine Sx.calls (X:=cxM [a,b]) il (PO _) aa3 aa4 (fun v hs=>?_) w
 have e0:v 0=a:=ae hs 0 rfl;have e1:v 1=b:=ae hs 1 rfl;refine ⟨dV ?_,?_⟩
 . exact dO
 . intro x hx0;have hx':=gG (v:=v) (by rfl) hx0
   rw [hx'];show Value.agg #[.int .i64 (v 0),.int .i64 (v 0),.int .i64 (v 1),.int .i64 (v 1)]=_;rw [e0,e1]
def ZR:List Nd:=[
 .arg 0,
 .arg 1,
 .bin .eql .i64 (.n 0) (.c 0),
 .bin .eql .i64 (.n 1) (.c 21600000),
 .ite (.n 2) (.n 3) (.c 0)]
def aaw:List Vc:=[
 ]
theorem aaB:whole Tryz.prog spM 20 40 121 [(true,[some .i64,some .i64])]=some (.p (.c (.bool (.n 4))),⟨ZR.reverse,aaw.reverse⟩):=by kernel_rfl
theorem aaz:wfN ZR.reverse=true:=by kernel_rfl
theorem aa0 (a b:Int) (w:World):Calls Tryz.prog 121 #[.agg #[.int .i64 a,.int .i64 b]] w fun e w'=>e=.returned (.bool (decide (a=0/\b=21600000)))/\Below w.heap.size w w':=by
 refine Sx.calls (X:=cxM [a,b]) il (PO _) aaB aaz (fun v hs=>?_) w
 have e0:v 0=a:=ae hs 0 rfl;have e1:v 1=b:=ae hs 1 rfl
 have w4:v 4=b2i (decide (a=0/\b=21600000)):=by
  rw [show v 4=if v 2≠0 then v 3 else (0:Int) from ae hs 4 rfl,show v 2=b2i (v 0==(0:Int)) from ae hs 2 rfl,show v 3=b2i (v 1==(21600000:Int)) from ae hs 3 rfl,show (v 0==(0:Int))=decide (v 0=0) from rfl,show (v 1==(21600000:Int))=decide (v 1=21600000) from rfl,bb2,e0,e1]
 refine ⟨dV ?_,?_⟩
 . exact dO
 . intro x hx0;have hx':=gG (v:=v) (by rfl) hx0
   rw [hx'];show Value.bool (decide (v 4≠0))=_;rw [w4];by_cases q:a=0/\b=21600000<;>simp [q,b2i]
def aaG:List Nd:=[
 .arg 0,
 .arg 1,
 .bin .sub .i64 (.n 1) (.n 0),
 .bin .geq .i64 (.n 2) (.c 21600000)]
def ab6:List Vc:=[
 ]
theorem acI:whole Tryz.prog spM 20 40 38 [(true,[some .i64,some .i64])]=some (.p (.c (.bool (.n 3))),⟨aaG.reverse,ab6.reverse⟩):=by kernel_rfl
theorem abX:wfN aaG.reverse=true:=by kernel_rfl
theorem abo (a b:Int) (w:World) (h:-1000000000<=a/\a<=b/\b<=1000000000):Calls Tryz.prog 38 #[.agg #[.int .i64 a,.int .i64 b]] w fun e w'=>e=.returned (.bool (decide (b-a>=21600000)))/\Below w.heap.size w w':=by
 refine Sx.calls (X:=cxM [a,b]) il (PO _) acI abX (fun v hs=>?_) w
 have e0:v 0=a:=ae hs 0 rfl;have e1:v 1=b:=ae hs 1 rfl
 have w3:v 3=b2i (decide (b-a>=21600000)):=by
  rw [show v 3=b2i (decide (v 2>=(21600000:Int))) from ae hs 3 rfl,show v 2=IntKind.i64.wrap (v 1-v 0) from ae hs 2 rfl,e0,e1,Go.IntWalk.i64_in _ (by omega)]
 refine ⟨dV ?_,?_⟩
 . exact dO
 . intro x hx0;have hx':=gG (v:=v) (by rfl) hx0
   rw [hx'];show Value.bool (decide (v 3≠0))=_;rw [w3];by_cases q:b-a>=21600000<;>simp [q,b2i]
def abG:List Nd:=[
 .arg 0,
 .arg 1,
 .bin .geq .i64 (.n 0) (.c (-5400000)),
 .bin .leq .i64 (.n 0) (.c 5400000),
 .ite (.n 2) (.n 3) (.c 0),
 .bin .geq .i64 (.n 1) (.c (-10800000)),
 .ite (.n 4) (.n 5) (.c 0),
 .bin .lss .i64 (.n 1) (.c 10800000),
 .ite (.n 6) (.n 7) (.c 0)]
def adK:List Vc:=[
 ]
theorem adq:whole Tryz.prog spM 20 40 62 [(true,[some .i64,some .i64])]=some (.p (.c (.bool (.n 8))),⟨abG.reverse,adK.reverse⟩):=by kernel_rfl
theorem adp:wfN abG.reverse=true:=by kernel_rfl
theorem adZ (a b:Int) (w:World):Calls Tryz.prog 62 #[.agg #[.int .i64 a,.int .i64 b]] w fun e w'=>e=.returned (.bool (decide (PtV a b)))/\Below w.heap.size w w':=by
 refine Sx.calls (X:=cxM [a,b]) il (PO _) adq adp (fun v hs=>?_) w
 have e0:v 0=a:=ae hs 0 rfl;have e1:v 1=b:=ae hs 1 rfl;have B1:v 8=b2i (decide (PtV (v 0) (v 1))):=ptB (x1:=v 2) (x2:=v 3) (x3:=v 5) (x4:=v 7) (y5:=0) (y7:=0) (y9:=0) (z6:=v 4) (z8:=v 6) (ae hs 2 rfl) (ae hs 3 rfl) (ae hs 5 rfl) (ae hs 7 rfl) (ae hs 4 rfl) (ae hs 6 rfl) (ae hs 8 rfl);rw [e0,e1] at B1;refine ⟨dV ?_,?_⟩
 . exact dO
 . intro x hx0;have hx':=gG (v:=v) (by rfl) hx0
   rw [hx'];show Value.bool (decide (v 8≠0))=_;rw [B1];by_cases q:PtV a b<;>simp [q,b2i]
