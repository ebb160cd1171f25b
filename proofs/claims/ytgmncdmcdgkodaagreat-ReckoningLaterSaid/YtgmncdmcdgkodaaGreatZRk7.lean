/- Reckoning: the sum of arcs with its errors, the number near a direction, valid places. -/
import Derived.Test.YtgmncdmcdgkodaaGreatZSpN
import Derived.Test.YtgmncdmcdgkodaaGreatZRk1
set_option linter.unusedVariables false
set_option linter.unusedSimpArgs false
set_option maxRecDepth 100000
namespace Go.Proofs.YtgmncdmcdgkodaaGreat
open Go.RowKit Alm Sx
theorem sJ (args:List Int):∀ s∈([]:List Sx.Spec),bD Tryz.prog (cxE args) s:=fun s hs=>by cases hs
theorem tN {X:Cx} {v:Nat->Int} {ext:Ext} (he:jb X ext) {l:List Nd} (hs:cK X v l.reverse) {ps:List (Nat × Rf)} (hp:∀ q∈ps,v q.1=q.2.val v) {k j:Nat} (h:Rf.eq ((norm ext ps [] l).rep (.n k)) ((norm ext ps [] l).rep (.n j))=true):v k=v j:=by
 have a:=gJ (iU he hs hp aQ) (.n k);have b:=gJ (iU he hs hp aQ) (.n j);rw [Rf.eq_eq h] at a;exact a.symm.trans b
theorem bb7 {p q:Prop} [Decidable p] [Decidable q]:(if b2i (decide p)≠0 then b2i (decide q) else 0)=b2i (decide (p/\q)):=by
 by_cases h1:p<;>by_cases h2:q<;>simp [b2i,h1,h2]
theorem bo7 {p q:Prop} [Decidable p] [Decidable q]:(if b2i (decide p)≠0 then 1 else b2i (decide q))=b2i (decide (p∨q)):=by
 by_cases h1:p<;>by_cases h2:q<;>simp [b2i,h1,h2]
theorem pU {a b x27 x28 x29 x30 x31 x32 x33 x34 x35:Int} (e27:x27=b2i (decide (a<=b))) (e28:x28=b2i (decide (a>=(-1099511627776:Int)))) (e29:x29=b2i (decide (a<=(1099511627776:Int)))) (e30:x30=if x28≠0 then x29 else (0:Int)) (e31:x31=if x27≠0 then x30 else (0:Int)) (e32:x32=b2i (decide (b>=(-1099511627776:Int)))) (e33:x33=b2i (decide (b<=(1099511627776:Int)))) (e34:x34=if x32≠0 then x33 else (0:Int)) (e35:x35=if x31≠0 then x34 else (0:Int)):x35=b2i (aC a b):=by
 rw [e35,e31,e30,e34,e27,e28,e29,e32,e33,bb7,bb7,bb7,bb7]
 have:decide ((a<=b/\a>=-1099511627776/\a<=1099511627776)/\b>=-1099511627776/\b<=1099511627776)=aC a b:=by
  rw [Bool.eq_iff_iff,decide_eq_true_iff,aG]
  constructor<;>(intro h;omega)
 rw [this]
theorem qH {a x28 x29 x30:Int} (e28:x28=b2i (decide (a>=(-1099511627776:Int)))) (e29:x29=b2i (decide (a<=(1099511627776:Int)))) (e30:x30=if x28≠0 then x29 else (0:Int)):x30=b2i (ay a):=by
 rw [e30,e28,e29,bb7];have:decide (a>=-1099511627776/\a<=1099511627776)=ay a:=rfl;rw [this]
def adV (a b c d:Int):List Int:=if aC a b=true then (if aC c d=true then (if ay (a+c)=true then (if ay (b+d)=true then [a+c,b+d,0] else [0,0,5]) else [0,0,5]) else [0,0,1]) else [0,0,1]
def sgS (n:Int):Int:=if n%21600000>=10800000 then n%21600000-21600000 else n%21600000
def plB (a b c d:Int):Bool:=decide (((a<=b/\a>=-5400000)/\b<=5400000)/\((c=-10800000/\d=10800000)∨((((c>=-10800000/\c<10800000)/\c<=d)/\IntKind.i64.wrap (d-c)<21600000))))
def aW:List Nd:=[
 .arg 0,
 .arg 1,
 .arg 2,
 .arg 3,
 .bin .leq .i64 (.n 0) (.n 1),
 .bin .geq .i64 (.n 0) (.c (-1099511627776)),
 .bin .leq .i64 (.n 0) (.c 1099511627776),
 .ite (.n 5) (.n 6) (.c 0),
 .ite (.n 4) (.n 7) (.c 0),
 .bin .geq .i64 (.n 1) (.c (-1099511627776)),
 .bin .leq .i64 (.n 1) (.c 1099511627776),
 .ite (.n 9) (.n 10) (.c 0),
 .ite (.n 8) (.n 11) (.c 0),
 .ite (.n 12) (.c 0) (.c 1),
 .bin .leq .i64 (.n 2) (.n 3),
 .bin .geq .i64 (.n 2) (.c (-1099511627776)),
 .bin .leq .i64 (.n 2) (.c 1099511627776),
 .ite (.n 15) (.n 16) (.c 0),
 .ite (.n 14) (.n 17) (.c 0),
 .bin .geq .i64 (.n 3) (.c (-1099511627776)),
 .bin .leq .i64 (.n 3) (.c 1099511627776),
 .ite (.n 19) (.n 20) (.c 0),
 .ite (.n 18) (.n 21) (.c 0),
 .ite (.n 22) (.c 0) (.c 1),
 .ite (.n 13) (.c 1) (.n 23),
 .ite (.n 24) (.c 0) (.c 1),
 .bin .add .i64 (.n 0) (.n 2),
 .bin .add .i64 (.n 1) (.n 3),
 .bin .geq .i64 (.n 26) (.c (-1099511627776)),
 .bin .leq .i64 (.n 26) (.c 1099511627776),
 .ite (.n 28) (.n 29) (.c 0),
 .ite (.n 30) (.c 0) (.c 1),
 .bin .geq .i64 (.n 27) (.c (-1099511627776)),
 .bin .leq .i64 (.n 27) (.c 1099511627776),
 .ite (.n 32) (.n 33) (.c 0),
 .ite (.n 34) (.c 0) (.c 1),
 .ite (.n 31) (.c 1) (.n 35),
 .ite (.n 36) (.c 0) (.c 1),
 .ite (.n 36) (.c 5) (.c 0),
 .ite (.n 36) (.c 0) (.n 26),
 .ite (.n 36) (.c 0) (.n 27),
 .ite (.n 24) (.c 1) (.n 38),
 .ite (.n 24) (.c 0) (.n 39),
 .ite (.n 24) (.c 0) (.n 40)]
def Ea:List Vc:=[
 ]
theorem Cy:whole Tryz.prog ([]:List Sx.Spec) 20 40 14 [(true,[some .i64,some .i64]),(true,[some .i64,some .i64])]=some (.tup [.agg [.int .i64 (.n 42),.int .i64 (.n 43)],.c (.int .i64 (.n 41))],⟨aW.reverse,Ea.reverse⟩):=by kernel_rfl
theorem Dk:wfN aW.reverse=true:=by kernel_rfl
theorem Eb {ar:List Int} {v:Nat->Int} (hs:cK (cxE ar) v aW.reverse) (P12:v 12=0):v 41=1/\v 42=0/\v 43=0 :=
 ⟨aK (X:=cxE ar) (v:=v) (l:=aW) (bM _) hs (k:=41) (r:=.c 1) (ps:=[(12,.c 0)]) (nz:=[]) (af P12 aU) aQ (by kernel_rfl),aK (X:=cxE ar) (v:=v) (l:=aW) (bM _) hs (k:=42) (r:=.c 0) (ps:=[(12,.c 0)]) (nz:=[]) (af P12 aU) aQ (by kernel_rfl),aK (X:=cxE ar) (v:=v) (l:=aW) (bM _) hs (k:=43) (r:=.c 0) (ps:=[(12,.c 0)]) (nz:=[]) (af P12 aU) aQ (by kernel_rfl)⟩
theorem Cz {ar:List Int} {v:Nat->Int} (hs:cK (cxE ar) v aW.reverse) (P12:v 12=1) (P22:v 22=0):v 41=1/\v 42=0/\v 43=0 :=
 ⟨aK (X:=cxE ar) (v:=v) (l:=aW) (bM _) hs (k:=41) (r:=.c 1) (ps:=[(12,.c 1),(22,.c 0)]) (nz:=[]) (af P12 (af P22 aU)) aQ (by kernel_rfl),aK (X:=cxE ar) (v:=v) (l:=aW) (bM _) hs (k:=42) (r:=.c 0) (ps:=[(12,.c 1),(22,.c 0)]) (nz:=[]) (af P12 (af P22 aU)) aQ (by kernel_rfl),aK (X:=cxE ar) (v:=v) (l:=aW) (bM _) hs (k:=43) (r:=.c 0) (ps:=[(12,.c 1),(22,.c 0)]) (nz:=[]) (af P12 (af P22 aU)) aQ (by kernel_rfl)⟩
theorem Dw {ar:List Int} {v:Nat->Int} (hs:cK (cxE ar) v aW.reverse) (P12:v 12=1) (P22:v 22=1) (P30:v 30=0):v 41=5/\v 42=0/\v 43=0 :=
 ⟨aK (X:=cxE ar) (v:=v) (l:=aW) (bM _) hs (k:=41) (r:=.c 5) (ps:=[(12,.c 1),(22,.c 1),(30,.c 0)]) (nz:=[]) (af P12 (af P22 (af P30 aU))) aQ (by kernel_rfl),aK (X:=cxE ar) (v:=v) (l:=aW) (bM _) hs (k:=42) (r:=.c 0) (ps:=[(12,.c 1),(22,.c 1),(30,.c 0)]) (nz:=[]) (af P12 (af P22 (af P30 aU))) aQ (by kernel_rfl),aK (X:=cxE ar) (v:=v) (l:=aW) (bM _) hs (k:=43) (r:=.c 0) (ps:=[(12,.c 1),(22,.c 1),(30,.c 0)]) (nz:=[]) (af P12 (af P22 (af P30 aU))) aQ (by kernel_rfl)⟩
theorem EH {ar:List Int} {v:Nat->Int} (hs:cK (cxE ar) v aW.reverse) (P12:v 12=1) (P22:v 22=1) (P30:v 30=1) (P34:v 34=0):v 41=5/\v 42=0/\v 43=0 :=
 ⟨aK (X:=cxE ar) (v:=v) (l:=aW) (bM _) hs (k:=41) (r:=.c 5) (ps:=[(12,.c 1),(22,.c 1),(30,.c 1),(34,.c 0)]) (nz:=[]) (af P12 (af P22 (af P30 (af P34 aU)))) aQ (by kernel_rfl),aK (X:=cxE ar) (v:=v) (l:=aW) (bM _) hs (k:=42) (r:=.c 0) (ps:=[(12,.c 1),(22,.c 1),(30,.c 1),(34,.c 0)]) (nz:=[]) (af P12 (af P22 (af P30 (af P34 aU)))) aQ (by kernel_rfl),aK (X:=cxE ar) (v:=v) (l:=aW) (bM _) hs (k:=43) (r:=.c 0) (ps:=[(12,.c 1),(22,.c 1),(30,.c 1),(34,.c 0)]) (nz:=[]) (af P12 (af P22 (af P30 (af P34 aU)))) aQ (by kernel_rfl)⟩
theorem Dp {ar:List Int} {v:Nat->Int} (hs:cK (cxE ar) v aW.reverse) (P12:v 12=1) (P22:v 22=1) (P30:v 30=1) (P34:v 34=1):v 41=0/\v 42=v 26/\v 43=v 27 :=
 ⟨aK (X:=cxE ar) (v:=v) (l:=aW) (bM _) hs (k:=41) (r:=.c 0) (ps:=[(12,.c 1),(22,.c 1),(30,.c 1),(34,.c 1)]) (nz:=[]) (af P12 (af P22 (af P30 (af P34 aU)))) aQ (by kernel_rfl),tN (X:=cxE ar) (v:=v) (l:=aW) (bM _) hs (k:=42) (j:=26) (ps:=[(12,.c 1),(22,.c 1),(30,.c 1),(34,.c 1)]) (af P12 (af P22 (af P30 (af P34 aU)))) (by kernel_rfl),tN (X:=cxE ar) (v:=v) (l:=aW) (bM _) hs (k:=43) (j:=27) (ps:=[(12,.c 1),(22,.c 1),(30,.c 1),(34,.c 1)]) (af P12 (af P22 (af P30 (af P34 aU)))) (by kernel_rfl)⟩
theorem Fw (a b c d:Int) (w:World):Calls Tryz.prog 14 #[.agg #[.int .i64 a,.int .i64 b],.agg #[.int .i64 c,.int .i64 d]] w fun e w'=>e=.returned (.tuple #[.agg #[.int .i64 ((adV a b c d).getD 0 0),.int .i64 ((adV a b c d).getD 1 0)],.int .i64 ((adV a b c d).getD 2 0)])/\Below w.heap.size w w':=by
 refine Sx.calls (X:=cxE [a,b,c,d]) gp (sJ _) Cy Dk (fun v hs=>?_) w
 have A12:v 12=b2i (aC (v 0) (v 1)):=pU (ak hs 4 rfl) (ak hs 5 rfl) (ak hs 6 rfl) (ak hs 7 rfl) (ak hs 8 rfl) (ak hs 9 rfl) (ak hs 10 rfl) (ak hs 11 rfl) (ak hs 12 rfl);have A22:v 22=b2i (aC (v 2) (v 3)):=pU (ak hs 14 rfl) (ak hs 15 rfl) (ak hs 16 rfl) (ak hs 17 rfl) (ak hs 18 rfl) (ak hs 19 rfl) (ak hs 20 rfl) (ak hs 21 rfl) (ak hs 22 rfl);have A30:v 30=b2i (ay (v 26)):=qH (ak hs 28 rfl) (ak hs 29 rfl) (ak hs 30 rfl);have A34:v 34=b2i (ay (v 27)):=qH (ak hs 32 rfl) (ak hs 33 rfl) (ak hs 34 rfl);have e26:v 26=IntKind.i64.wrap (v 0+v 2):=ak hs 26 rfl;have e27:v 27=IntKind.i64.wrap (v 1+v 3):=ak hs 27 rfl;refine ⟨kG ?_,?_⟩
 . exact jD
 . intro x hx0;have hx':=fF (v:=v) (by rfl) hx0
   rw [hx'];show Value.tuple #[.agg #[.int .i64 (v 42),.int .i64 (v 43)],.int .i64 (v 41)]=_
   have R:v 42=(adV (v 0) (v 1) (v 2) (v 3)).getD 0 0/\v 43=(adV (v 0) (v 1) (v 2) (v 3)).getD 1 0/\v 41=(adV (v 0) (v 1) (v 2) (v 3)).getD 2 0:=by
    unfold adV;cases h1:aC (v 0) (v 1)
    . rw [h1] at A12;obtain ⟨r2,r0,r1⟩:=Eb hs A12;rw [if_neg (by decide)];exact ⟨r0,r1,r2⟩
    . rw [h1] at A12;rw [if_pos rfl];cases h2:aC (v 2) (v 3)
      . rw [h2] at A22;obtain ⟨r2,r0,r1⟩:=Cz hs A12 A22;rw [if_neg (by decide)];exact ⟨r0,r1,r2⟩
      . rw [h2] at A22;have y1:=(aG _ _).1 h1;have y2:=(aG _ _).1 h2;rw [Go.IntWalk.i64_in _ (by omega)] at e26 e27
        rw [if_pos rfl];rw [<-e26,<-e27];cases h3:ay (v 26)
        . rw [h3] at A30;obtain ⟨r2,r0,r1⟩:=Dw hs A12 A22 A30;rw [if_neg (by decide)];exact ⟨r0,r1,r2⟩
        . rw [h3] at A30;rw [if_pos rfl];cases h4:ay (v 27)
          . rw [h4] at A34;obtain ⟨r2,r0,r1⟩:=EH hs A12 A22 A30 A34;rw [if_neg (by decide)];exact ⟨r0,r1,r2⟩
          . rw [h4] at A34;obtain ⟨r2,r0,r1⟩:=Dp hs A12 A22 A30 A34;rw [if_pos rfl];exact ⟨r0,r1,r2⟩
   have a0:v 0=a:=ak hs 0 rfl;have a1:v 1=b:=ak hs 1 rfl;have a2:v 2=c:=ak hs 2 rfl;have a3:v 3=d:=ak hs 3 rfl;rw [a0,a1,a2,a3] at R;rw [R.1,R.2.1,R.2.2]
def yj:List Nd:=[
 .arg 0,
 .bin .rem .i64 (.n 0) (.c 21600000),
 .bin .lss .i64 (.n 1) (.c 0),
 .bin .add .i64 (.n 1) (.c 21600000),
 .ite (.n 2) (.c 0) (.c 1),
 .ite (.n 2) (.n 3) (.n 1),
 .bin .geq .i64 (.n 5) (.c 10800000),
 .bin .sub .i64 (.n 5) (.c 21600000),
 .ite (.n 6) (.c 0) (.c 1),
 .ite (.n 6) (.n 7) (.n 5)]
def D7:List Vc:=[
 ]
theorem EF:whole Tryz.prog ([]:List Sx.Spec) 20 40 36 [(false,[some .i64])]=some (.p (.c (.int .i64 (.n 9))),⟨yj.reverse,D7.reverse⟩):=by kernel_rfl
theorem Di:wfN yj.reverse=true:=by kernel_rfl
theorem Ib (a:Int) (w:World) (h:-4000000000000<=a/\a<=4000000000000):Calls Tryz.prog 36 #[.int .i64 a] w fun e w'=>e=.returned (.int .i64 (sgS a))/\Below w.heap.size w w':=by
 refine Sx.calls (X:=cxE [a]) gp (sJ _) EF Di (fun v hs=>?_) w
 have e0:v 0=a:=ak hs 0 rfl;have e1:v 1=Int.tmod (v 0) 21600000:=ak hs 1 rfl;have e2:v 2=b2i (decide (v 1<(0:Int))):=ak hs 2 rfl;have e3:v 3=IntKind.i64.wrap (v 1+21600000):=ak hs 3 rfl;have e5:v 5=if v 2≠0 then v 3 else v 1:=ak hs 5 rfl
 have e6:v 6=b2i (decide (v 5>=(10800000:Int))):=ak hs 6 rfl;have e7:v 7=IntKind.i64.wrap (v 5-21600000):=ak hs 7 rfl;have e9:v 9=if v 6≠0 then v 7 else v 5:=ak hs 9 rfl
 have dc:∀ {p:Prop} [Decidable p] {x y:Int},(if b2i (decide p)≠0 then x else y)=if p then x else y:=by
  intro p _ x y;by_cases h:p<;>simp [b2i,h]
 rw [e0] at e1;have t:=Int.tmod_eq_emod (a:=a) (b:=21600000);have m1:=Int.emod_nonneg a (show (21600000:Int)≠0 by omega)
 have m2:=Int.emod_lt_of_pos a (show (0:Int)<21600000 by omega)
 have q5:v 5=a%21600000:=by
  rw [e5,e2,dc];have b:-21600000<v 1/\v 1<21600000:=by rw [e1,t];split<;>omega
  rw [e3,Go.IntWalk.i64_in _ (by omega),e1,t]
  split<;>split<;>omega
 have q9:v 9=sgS a:=by
  rw [e9,e6,dc,e7,q5,Go.IntWalk.i64_in _ (by omega)]
  rfl
 refine ⟨kG ?_,?_⟩
 . exact jD
 . intro x hx0;have hx':=fF (v:=v) (by rfl) hx0
   rw [hx'];show Value.int .i64 (v 9)=_;rw [q9]
def yE:List Nd:=[
 .arg 0,
 .arg 1,
 .arg 2,
 .arg 3,
 .bin .leq .i64 (.n 0) (.n 1),
 .bin .geq .i64 (.n 0) (.c (-5400000)),
 .ite (.n 4) (.n 5) (.c 0),
 .bin .leq .i64 (.n 1) (.c 5400000),
 .ite (.n 6) (.n 7) (.c 0),
 .bin .eql .i64 (.n 2) (.c (-10800000)),
 .bin .eql .i64 (.n 3) (.c 10800000),
 .ite (.n 9) (.n 10) (.c 0),
 .bin .geq .i64 (.n 2) (.c (-10800000)),
 .bin .lss .i64 (.n 2) (.c 10800000),
 .ite (.n 12) (.n 13) (.c 0),
 .bin .leq .i64 (.n 2) (.n 3),
 .ite (.n 14) (.n 15) (.c 0),
 .bin .sub .i64 (.n 3) (.n 2),
 .bin .lss .i64 (.n 17) (.c 21600000),
 .ite (.n 16) (.n 18) (.c 0),
 .ite (.n 11) (.c 1) (.n 19),
 .ite (.n 8) (.n 20) (.c 0)]
def Dz:List Vc:=[
 ]
theorem Ee:whole Tryz.prog ([]:List Sx.Spec) 20 40 33 [(true,[some .i64,some .i64,some .i64,some .i64])]=some (.p (.c (.bool (.n 21))),⟨yE.reverse,Dz.reverse⟩):=by kernel_rfl
theorem D8:wfN yE.reverse=true:=by kernel_rfl
theorem Ch (a b c d:Int) (w:World):Calls Tryz.prog 33 #[.agg #[.int .i64 a,.int .i64 b,.int .i64 c,.int .i64 d]] w fun e w'=>e=.returned (.bool (plB a b c d))/\Below w.heap.size w w':=by
 refine Sx.calls (X:=cxE [a,b,c,d]) gp (sJ _) Ee D8 (fun v hs=>?_) w
 have e0:v 0=a:=ak hs 0 rfl;have e1:v 1=b:=ak hs 1 rfl;have e2:v 2=c:=ak hs 2 rfl;have e3:v 3=d:=ak hs 3 rfl;have e4:v 4=b2i (decide (v 0<=v 1)):=ak hs 4 rfl;have e5:v 5=b2i (decide (v 0>=(-5400000:Int))):=ak hs 5 rfl;have e6:v 6=if v 4≠0 then v 5 else (0:Int):=ak hs 6 rfl
 have e7:v 7=b2i (decide (v 1<=(5400000:Int))):=ak hs 7 rfl;have e8:v 8=if v 6≠0 then v 7 else (0:Int):=ak hs 8 rfl
 have e9:v 9=b2i (v 2==(-10800000:Int)):=ak hs 9 rfl;have e10:v 10=b2i (v 3==(10800000:Int)):=ak hs 10 rfl;have e11:v 11=if v 9≠0 then v 10 else (0:Int):=ak hs 11 rfl
 have e12:v 12=b2i (decide (v 2>=(-10800000:Int))):=ak hs 12 rfl;have e13:v 13=b2i (decide (v 2<(10800000:Int))):=ak hs 13 rfl;have e14:v 14=if v 12≠0 then v 13 else (0:Int):=ak hs 14 rfl
 have e15:v 15=b2i (decide (v 2<=v 3)):=ak hs 15 rfl;have e16:v 16=if v 14≠0 then v 15 else (0:Int):=ak hs 16 rfl
 have e17:v 17=IntKind.i64.wrap (v 3-v 2):=ak hs 17 rfl;have e18:v 18=b2i (decide (v 17<(21600000:Int))):=ak hs 18 rfl;have e19:v 19=if v 16≠0 then v 18 else (0:Int):=ak hs 19 rfl
 have e20:v 20=if v 11≠0 then (1:Int) else v 19:=ak hs 20 rfl
 have e21:v 21=if v 8≠0 then v 20 else (0:Int):=ak hs 21 rfl
 have q9:v 9=b2i (decide (v 2=-10800000)):=by rw [e9];congr 1
 have q10:v 10=b2i (decide (v 3=10800000)):=by rw [e10];congr 1
 have q:v 21=b2i (plB (v 0) (v 1) (v 2) (v 3)):=by
  rw [e21,e8,e6,e4,e5,e7,e20,e11,q9,q10,e19,e16,e14,e12,e13,e15,e18,e17,bb7,bb7,bb7,bb7,bb7,bb7,bo7,bb7];rfl
 rw [e0,e1,e2,e3] at q;refine ⟨kG ?_,?_⟩
 . exact jD
 . intro x hx0;have hx':=fF (v:=v) (by rfl) hx0
   rw [hx'];show Value.bool (decide (v 21≠0))=_;rw [q,fP]
