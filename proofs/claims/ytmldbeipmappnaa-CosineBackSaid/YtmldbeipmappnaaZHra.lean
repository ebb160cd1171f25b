/- The contract of cosine.HourAngle for arcs of latitudes. -/
import Derived.Test.YtmldbeipmappnaaZCbT
import Derived.Test.YtmldbeipmappnaaZCosXP
set_option linter.unusedVariables false
set_option linter.unusedSimpArgs false
set_option maxRecDepth 100000
set_option maxHeartbeats 8000000
namespace Alm
theorem Rb {a b c d:Int} (h1:0<=a) (h2:a<=b) (h3:0<=c) (h4:c<=d):0<=min (min (min (a*c) (a*d)) (b*c)) (b*d):=by
 have m1:=Int.mul_nonneg h1 h3;have m2:=Int.mul_nonneg h1 (show 0<=d by omega)
 have m3:=Int.mul_nonneg (show 0<=b by omega) h3
 have m4:=Int.mul_nonneg (show 0<=b by omega) (show 0<=d by omega)
 generalize a*c=x1 at *
 generalize a*d=x2 at *
 generalize b*c=x3 at *
 generalize b*d=x4 at *
 omega
end Alm
namespace Go.Proofs.Ytmldbeipmappnaa
open Go.RowKit Alm Sx
theorem lc (n:Int) (h:0<=n/\n<=10800000):0<=bLo n:=by
 have b:=gQ n;have s:=AL _ b.1 b.2;unfold bLo bv;rw [if_neg (by unfold av;simp;omega)]
 exact s.1
theorem lg (lo hi:Int) (h:-5400000<=lo/\lo<=hi/\hi<=5400000):0<=bU (lo+5400000) (hi+5400000):=by
 have a:=lc (lo+5400000) (by omega)
 have b:=lc (hi+5400000) (by omega)
 unfold bU;rw [if_neg (by unfold bV av;simp;omega)]
 omega
theorem afs {p q:IV} (hp:U p) (hq:U q) (h1:0<=p.1) (h2:0<=q.1):0<=(uM p q).1:=by
 rw [(U_M hp hq).1];show 0<=iH p.1 p.2 q.1 q.2;unfold iH mn4;have:=Rb h1 hp.2.1 h2 hq.2.1;omega
theorem afd (x n d:Int) (hd:0<d):qFl x n d<=qCe x n d:=by
 unfold qFl qCe;have:=Int.mul_ediv_add_emod (x*n) d;have:=Int.mul_ediv_add_emod (-(x*n)) d;have:=Int.emod_nonneg (x*n) (show d≠0 by omega)
 have:=Int.emod_nonneg (-(x*n)) (show d≠0 by omega)
 refine Int.not_lt.1 fun hh=>?_
 have m:=Int.mul_le_mul_of_nonneg_left (show -(-(x*n)/d)+1<=x*n/d by omega) (show 0<=d by omega)
 have e:d*(-(-(x*n)/d)+1)=-(d*(-(x*n)/d))+d:=by grind
 omega
theorem MV (a b c d n:Int):(qoV a b c d n).getD 0 0<=(qoV a b c d n).getD 1 0/\((qoV a b c d n).getD 2 0=0∨(qoV a b c d n).getD 2 0=5∨(qoV a b c d n).getD 2 0=16):=by
 unfold qoV;split
 . exact ⟨Int.le_refl _,.inr (.inr rfl)⟩
 . split
   . refine ⟨?_,.inl rfl⟩;have:=afd a n c (by omega)
     show qoL a b c d n<=qoH a b c d n;unfold qoL qoH;omega
   . exact ⟨Int.le_refl _,.inr (.inl rfl)⟩
def haQ (a0 a1 a2 a3 a4 a5:Int):Int:=qoL (haN a0 a1 a2 a3 a4 a5).1 (haN a0 a1 a2 a3 a4 a5).2 (haD a0 a1 a2 a3).1 (haD a0 a1 a2 a3).2 1073741824
def haR (a0 a1 a2 a3 a4 a5:Int):Int:=qoH (haN a0 a1 a2 a3 a4 a5).1 (haN a0 a1 a2 a3 a4 a5).2 (haD a0 a1 a2 a3).1 (haD a0 a1 a2 a3).2 1073741824
def haV (a0 a1 a2 a3 a4 a5:Int):List Int:=if (haD a0 a1 a2 a3).1<=0 then [0,0,21] else if ¬ (jP (haQ a0 a1 a2 a3 a4 a5)=true/\jP (haR a0 a1 a2 a3 a4 a5)=true) then [0,0,24] else if haQ a0 a1 a2 a3 a4 a5>1073741824∨haR a0 a1 a2 a3 a4 a5 < -1073741824 then [0,0,12] else [jJ (min (haR a0 a1 a2 a3 a4 a5) 1073741824),jc (max (haQ a0 a1 a2 a3 a4 a5) (-1073741824)),0]
theorem ry {a0 a1 a2 a3 a4 a5:Int} (h:(haD a0 a1 a2 a3).1<=0):haV a0 a1 a2 a3 a4 a5=[0,0,21]:=if_pos h
theorem uH {a0 a1 a2 a3 a4 a5:Int} (h:¬ (haD a0 a1 a2 a3).1<=0) (h2:¬ (jP (haQ a0 a1 a2 a3 a4 a5)=true/\jP (haR a0 a1 a2 a3 a4 a5)=true)):haV a0 a1 a2 a3 a4 a5=[0,0,24]:=(if_neg h).trans (if_pos h2)
theorem rz {a0 a1 a2 a3 a4 a5:Int} (h:¬ (haD a0 a1 a2 a3).1<=0) (h2:jP (haQ a0 a1 a2 a3 a4 a5)=true/\jP (haR a0 a1 a2 a3 a4 a5)=true) (h3:haQ a0 a1 a2 a3 a4 a5>1073741824∨haR a0 a1 a2 a3 a4 a5 < -1073741824):haV a0 a1 a2 a3 a4 a5=[0,0,12]:=(if_neg h).trans ((if_neg (fun k=>k h2)).trans (if_pos h3))
theorem afl {a0 a1 a2 a3 a4 a5:Int} (h:¬ (haD a0 a1 a2 a3).1<=0) (h2:jP (haQ a0 a1 a2 a3 a4 a5)=true/\jP (haR a0 a1 a2 a3 a4 a5)=true) (h3:¬ (haQ a0 a1 a2 a3 a4 a5>1073741824∨haR a0 a1 a2 a3 a4 a5 < -1073741824)):haV a0 a1 a2 a3 a4 a5=[jJ (min (haR a0 a1 a2 a3 a4 a5) 1073741824),jc (max (haQ a0 a1 a2 a3 a4 a5) (-1073741824)),0]:=(if_neg h).trans ((if_neg (fun k=>k h2)).trans (if_neg h3))
theorem kT {a b:Int} {p:IV} (h1:a=p.1) (h2:b=p.2):((a,b):IV)=p:=Prod.ext h1 h2
def ahN:List Sx.Spec:=ahO
theorem af0 (args:List Int):∀ s∈ahN,aH Try.prog (cxF args) s:=afM args
def ax:List Nd:=[
 .arg 0,
 .arg 1,
 .arg 2,
 .arg 3,
 .arg 4,
 .arg 5,
 .bin .leq .i64 (.n 0) (.n 1),
 .bin .geq .i64 (.n 0) (.c (-1099511627776)),
 .bin .leq .i64 (.n 0) (.c 1099511627776),
 .ite (.n 7) (.n 8) (.c 0),
 .ite (.n 6) (.n 9) (.c 0),
 .bin .geq .i64 (.n 1) (.c (-1099511627776)),
 .bin .leq .i64 (.n 1) (.c 1099511627776),
 .ite (.n 11) (.n 12) (.c 0),
 .ite (.n 10) (.n 13) (.c 0),
 .bin .geq .i64 (.n 0) (.c (-5400000)),
 .ite (.n 14) (.n 15) (.c 0),
 .bin .leq .i64 (.n 1) (.c 5400000),
 .ite (.n 16) (.n 17) (.c 0),
 .ite (.n 18) (.c 0) (.c 1),
 .bin .leq .i64 (.n 2) (.n 3),
 .bin .geq .i64 (.n 2) (.c (-1099511627776)),
 .bin .leq .i64 (.n 2) (.c 1099511627776),
 .ite (.n 21) (.n 22) (.c 0),
 .ite (.n 20) (.n 23) (.c 0),
 .bin .geq .i64 (.n 3) (.c (-1099511627776)),
 .bin .leq .i64 (.n 3) (.c 1099511627776),
 .ite (.n 25) (.n 26) (.c 0),
 .ite (.n 24) (.n 27) (.c 0),
 .bin .geq .i64 (.n 2) (.c (-5400000)),
 .ite (.n 28) (.n 29) (.c 0),
 .bin .leq .i64 (.n 3) (.c 5400000),
 .ite (.n 30) (.n 31) (.c 0),
 .ite (.n 32) (.c 0) (.c 1),
 .ite (.n 19) (.c 1) (.n 33),
 .bin .leq .i64 (.n 4) (.n 5),
 .bin .geq .i64 (.n 4) (.c (-1099511627776)),
 .bin .leq .i64 (.n 4) (.c 1099511627776),
 .ite (.n 36) (.n 37) (.c 0),
 .ite (.n 35) (.n 38) (.c 0),
 .bin .geq .i64 (.n 5) (.c (-1099511627776)),
 .bin .leq .i64 (.n 5) (.c 1099511627776),
 .ite (.n 40) (.n 41) (.c 0),
 .ite (.n 39) (.n 42) (.c 0),
 .bin .geq .i64 (.n 4) (.c (-5400000)),
 .ite (.n 43) (.n 44) (.c 0),
 .bin .leq .i64 (.n 5) (.c 5400000),
 .ite (.n 45) (.n 46) (.c 0),
 .ite (.n 47) (.c 0) (.c 1),
 .ite (.n 34) (.c 1) (.n 48),
 .ite (.n 49) (.c 0) (.c 1),
 .app 5 0 [.n 4,.n 5],
 .app 5 1 [.n 4,.n 5],
 .app 5 2 [.n 4,.n 5],
 .app 5 0 [.n 0,.n 1],
 .app 5 1 [.n 0,.n 1],
 .app 5 2 [.n 0,.n 1],
 .bin .eql .i64 (.n 53) (.c 0),
 .ite (.n 57) (.c 0) (.c 1),
 .ite (.n 57) (.n 56) (.n 53),
 .app 5 0 [.n 2,.n 3],
 .app 5 1 [.n 2,.n 3],
 .app 5 2 [.n 2,.n 3],
 .bin .eql .i64 (.n 59) (.c 0),
 .ite (.n 63) (.c 0) (.c 1),
 .ite (.n 63) (.n 62) (.n 59),
 .app 0 0 [.n 54,.n 55,.n 60,.n 61],
 .app 0 1 [.n 54,.n 55,.n 60,.n 61],
 .app 0 2 [.n 54,.n 55,.n 60,.n 61],
 .bin .eql .i64 (.n 65) (.c 0),
 .ite (.n 69) (.c 0) (.c 1),
 .ite (.n 69) (.n 68) (.n 65),
 .app 2 0 [.n 51,.n 52,.n 66,.n 67],
 .app 2 1 [.n 51,.n 52,.n 66,.n 67],
 .app 2 2 [.n 51,.n 52,.n 66,.n 67],
 .bin .eql .i64 (.n 71) (.c 0),
 .ite (.n 75) (.c 0) (.c 1),
 .ite (.n 75) (.n 74) (.n 71),
 .app 6 0 [.n 0,.n 1],
 .app 6 1 [.n 0,.n 1],
 .app 6 2 [.n 0,.n 1],
 .bin .eql .i64 (.n 77) (.c 0),
 .ite (.n 81) (.c 0) (.c 1),
 .ite (.n 81) (.n 80) (.n 77),
 .app 6 0 [.n 2,.n 3],
 .app 6 1 [.n 2,.n 3],
 .app 6 2 [.n 2,.n 3],
 .bin .eql .i64 (.n 83) (.c 0),
 .ite (.n 87) (.c 0) (.c 1),
 .ite (.n 87) (.n 86) (.n 83),
 .app 0 0 [.n 78,.n 79,.n 84,.n 85],
 .app 0 1 [.n 78,.n 79,.n 84,.n 85],
 .app 0 2 [.n 78,.n 79,.n 84,.n 85],
 .bin .eql .i64 (.n 89) (.c 0),
 .ite (.n 93) (.c 0) (.c 1),
 .ite (.n 93) (.n 92) (.n 89),
 .bin .neq .i64 (.n 95) (.c 0),
 .ite (.n 96) (.c 0) (.c 1),
 .app 12 0 [.n 72,.n 73,.n 90,.n 91,.c 1073741824],
 .app 12 1 [.n 72,.n 73,.n 90,.n 91,.c 1073741824],
 .app 12 2 [.n 72,.n 73,.n 90,.n 91,.c 1073741824],
 .bin .eql .i64 (.n 100) (.c 16),
 .bin .eql .i64 (.n 100) (.c 5),
 .bin .neq .i64 (.n 100) (.c 0),
 .bin .gtr .i64 (.n 98) (.c 1073741824),
 .bin .lss .i64 (.n 99) (.c (-1073741824)),
 .ite (.n 104) (.c 1) (.n 105),
 .ite (.n 106) (.c 0) (.c 1),
 .ite (.n 103) (.c 0) (.c 1),
 .ite (.n 108) (.n 107) (.c 0),
 .ite (.n 108) (.n 106) (.c 0),
 .ite (.n 103) (.c 1) (.n 110),
 .ite (.n 103) (.n 100) (.c 12),
 .ite (.n 102) (.c 0) (.c 1),
 .ite (.n 113) (.n 109) (.c 0),
 .ite (.n 113) (.n 111) (.c 0),
 .ite (.n 102) (.c 1) (.n 115),
 .ite (.n 102) (.c 24) (.n 112),
 .ite (.n 101) (.c 0) (.c 1),
 .ite (.n 118) (.n 114) (.c 0),
 .ite (.n 118) (.n 116) (.c 0),
 .ite (.n 101) (.c 1) (.n 120),
 .ite (.n 101) (.c 21) (.n 117),
 .mx (.n 98) (.c (-1073741824)),
 .mn (.n 99) (.c 1073741824),
 .app 46 0 [.n 123,.n 124],
 .app 46 1 [.n 123,.n 124],
 .app 46 2 [.n 123,.n 124],
 .ite (.n 121) (.c 1) (.n 119),
 .ite (.n 121) (.n 122) (.n 127),
 .ite (.n 121) (.c 0) (.n 125),
 .ite (.n 121) (.c 0) (.n 126),
 .ite (.n 97) (.n 128) (.c 0),
 .ite (.n 96) (.c 1) (.n 132),
 .ite (.n 96) (.n 95) (.n 129),
 .ite (.n 96) (.c 0) (.n 130),
 .ite (.n 96) (.c 0) (.n 131),
 .ite (.n 50) (.n 133) (.c 0),
 .ite (.n 49) (.c 1) (.n 137),
 .ite (.n 49) (.c 1) (.n 134),
 .ite (.n 49) (.c 0) (.n 135),
 .ite (.n 49) (.c 0) (.n 136)]
def CW:List Vc:=[
 ⟨[(.n 50,true)],.pre 5 [.n 4,.n 5]⟩,
 ⟨[(.n 50,true)],.pre 5 [.n 0,.n 1]⟩,
 ⟨[(.n 50,true)],.pre 5 [.n 2,.n 3]⟩,
 ⟨[(.n 50,true)],.pre 0 [.n 54,.n 55,.n 60,.n 61]⟩,
 ⟨[(.n 50,true)],.pre 2 [.n 51,.n 52,.n 66,.n 67]⟩,
 ⟨[(.n 50,true)],.pre 6 [.n 0,.n 1]⟩,
 ⟨[(.n 50,true)],.pre 6 [.n 2,.n 3]⟩,
 ⟨[(.n 50,true)],.pre 0 [.n 78,.n 79,.n 84,.n 85]⟩,
 ⟨[(.n 97,true),(.n 50,true)],.pre 12 [.n 72,.n 73,.n 90,.n 91,.c 1073741824]⟩,
 ⟨[(.n 119,true),(.n 97,true),(.n 50,true)],.pre 46 [.n 123,.n 124]⟩]
theorem agA:whole Try.prog ahN 20 40 30 [(true,[some .i64,some .i64]),(true,[some .i64,some .i64]),(true,[some .i64,some .i64])]=some (.tup [.agg [.int .i64 (.n 140),.int .i64 (.n 141)],.c (.int .i64 (.n 139))],⟨ax.reverse,CW.reverse⟩):=by kernel_rfl
theorem ahv:wfN ax.reverse=true:=by kernel_rfl
theorem ahY {ar:List Int} {v:Nat->Int} (hs:aA (cxF ar) v ax.reverse):v 6=b2i (decide (v 0<=v 1)):=ae hs 6 rfl
theorem ahR {ar:List Int} {v:Nat->Int} (hs:aA (cxF ar) v ax.reverse):v 7=b2i (decide (v 0>=-1099511627776)):=ae hs 7 rfl
theorem ahM {ar:List Int} {v:Nat->Int} (hs:aA (cxF ar) v ax.reverse):v 8=b2i (decide (v 0<=1099511627776)):=ae hs 8 rfl
theorem ahG {ar:List Int} {v:Nat->Int} (hs:aA (cxF ar) v ax.reverse):v 11=b2i (decide (v 1>=-1099511627776)):=ae hs 11 rfl
theorem agG {ar:List Int} {v:Nat->Int} (hs:aA (cxF ar) v ax.reverse):v 12=b2i (decide (v 1<=1099511627776)):=ae hs 12 rfl
theorem ahe {ar:List Int} {v:Nat->Int} (hs:aA (cxF ar) v ax.reverse):v 15=b2i (decide (v 0>=-5400000)):=ae hs 15 rfl
theorem ag4 {ar:List Int} {v:Nat->Int} (hs:aA (cxF ar) v ax.reverse):v 17=b2i (decide (v 1<=5400000)):=ae hs 17 rfl
theorem agI {ar:List Int} {v:Nat->Int} (hs:aA (cxF ar) v ax.reverse):v 20=b2i (decide (v 2<=v 3)):=ae hs 20 rfl
theorem ahH {ar:List Int} {v:Nat->Int} (hs:aA (cxF ar) v ax.reverse):v 21=b2i (decide (v 2>=-1099511627776)):=ae hs 21 rfl
theorem ag8 {ar:List Int} {v:Nat->Int} (hs:aA (cxF ar) v ax.reverse):v 22=b2i (decide (v 2<=1099511627776)):=ae hs 22 rfl
theorem ahc {ar:List Int} {v:Nat->Int} (hs:aA (cxF ar) v ax.reverse):v 25=b2i (decide (v 3>=-1099511627776)):=ae hs 25 rfl
theorem agN {ar:List Int} {v:Nat->Int} (hs:aA (cxF ar) v ax.reverse):v 26=b2i (decide (v 3<=1099511627776)):=ae hs 26 rfl
theorem agj {ar:List Int} {v:Nat->Int} (hs:aA (cxF ar) v ax.reverse):v 29=b2i (decide (v 2>=-5400000)):=ae hs 29 rfl
theorem agD {ar:List Int} {v:Nat->Int} (hs:aA (cxF ar) v ax.reverse):v 31=b2i (decide (v 3<=5400000)):=ae hs 31 rfl
theorem agq {ar:List Int} {v:Nat->Int} (hs:aA (cxF ar) v ax.reverse):v 35=b2i (decide (v 4<=v 5)):=ae hs 35 rfl
theorem agt {ar:List Int} {v:Nat->Int} (hs:aA (cxF ar) v ax.reverse):v 36=b2i (decide (v 4>=-1099511627776)):=ae hs 36 rfl
theorem ahr {ar:List Int} {v:Nat->Int} (hs:aA (cxF ar) v ax.reverse):v 37=b2i (decide (v 4<=1099511627776)):=ae hs 37 rfl
theorem agu {ar:List Int} {v:Nat->Int} (hs:aA (cxF ar) v ax.reverse):v 40=b2i (decide (v 5>=-1099511627776)):=ae hs 40 rfl
theorem ag6 {ar:List Int} {v:Nat->Int} (hs:aA (cxF ar) v ax.reverse):v 41=b2i (decide (v 5<=1099511627776)):=ae hs 41 rfl
theorem af7 {ar:List Int} {v:Nat->Int} (hs:aA (cxF ar) v ax.reverse):v 44=b2i (decide (v 4>=-5400000)):=ae hs 44 rfl
theorem agr {ar:List Int} {v:Nat->Int} (hs:aA (cxF ar) v ax.reverse):v 46=b2i (decide (v 5<=5400000)):=ae hs 46 rfl
theorem agv {ar:List Int} {v:Nat->Int} (hs:aA (cxF ar) v ax.reverse):v 51=(uS (v 4) (v 5)).1:=ae hs 51 rfl
theorem ag2 {ar:List Int} {v:Nat->Int} (hs:aA (cxF ar) v ax.reverse):v 52=(uS (v 4) (v 5)).2:=ae hs 52 rfl
theorem agE {ar:List Int} {v:Nat->Int} (hs:aA (cxF ar) v ax.reverse):v 54=(uS (v 0) (v 1)).1:=ae hs 54 rfl
theorem agS {ar:List Int} {v:Nat->Int} (hs:aA (cxF ar) v ax.reverse):v 55=(uS (v 0) (v 1)).2:=ae hs 55 rfl
theorem agd {ar:List Int} {v:Nat->Int} (hs:aA (cxF ar) v ax.reverse):v 60=(uS (v 2) (v 3)).1:=ae hs 60 rfl
theorem agX {ar:List Int} {v:Nat->Int} (hs:aA (cxF ar) v ax.reverse):v 61=(uS (v 2) (v 3)).2:=ae hs 61 rfl
theorem ahq {ar:List Int} {v:Nat->Int} (hs:aA (cxF ar) v ax.reverse):v 78=(uC (v 0) (v 1)).1:=ae hs 78 rfl
theorem ahs {ar:List Int} {v:Nat->Int} (hs:aA (cxF ar) v ax.reverse):v 79=(uC (v 0) (v 1)).2:=ae hs 79 rfl
theorem ahn {ar:List Int} {v:Nat->Int} (hs:aA (cxF ar) v ax.reverse):v 84=(uC (v 2) (v 3)).1:=ae hs 84 rfl
theorem agp {ar:List Int} {v:Nat->Int} (hs:aA (cxF ar) v ax.reverse):v 85=(uC (v 2) (v 3)).2:=ae hs 85 rfl
theorem ahj {ar:List Int} {v:Nat->Int} (hs:aA (cxF ar) v ax.reverse):v 66=(uM ((v 54,v 55):IV) ((v 60,v 61):IV)).1:=ae hs 66 rfl
theorem ahA {ar:List Int} {v:Nat->Int} (hs:aA (cxF ar) v ax.reverse):v 67=(uM ((v 54,v 55):IV) ((v 60,v 61):IV)).2:=ae hs 67 rfl
theorem agf {ar:List Int} {v:Nat->Int} (hs:aA (cxF ar) v ax.reverse):v 68=(aC 0 [v 54,v 55,v 60,v 61]).getD 2 0:=ae hs 68 rfl
theorem aga {ar:List Int} {v:Nat->Int} (hs:aA (cxF ar) v ax.reverse):v 72=(uD ((v 51,v 52):IV) ((v 66,v 67):IV)).1:=ae hs 72 rfl
theorem ag7 {ar:List Int} {v:Nat->Int} (hs:aA (cxF ar) v ax.reverse):v 73=(uD ((v 51,v 52):IV) ((v 66,v 67):IV)).2:=ae hs 73 rfl
theorem agV {ar:List Int} {v:Nat->Int} (hs:aA (cxF ar) v ax.reverse):v 74=(aC 2 [v 51,v 52,v 66,v 67]).getD 2 0:=ae hs 74 rfl
theorem ahE {ar:List Int} {v:Nat->Int} (hs:aA (cxF ar) v ax.reverse):v 90=(uM ((v 78,v 79):IV) ((v 84,v 85):IV)).1:=ae hs 90 rfl
theorem ahC {ar:List Int} {v:Nat->Int} (hs:aA (cxF ar) v ax.reverse):v 91=(uM ((v 78,v 79):IV) ((v 84,v 85):IV)).2:=ae hs 91 rfl
theorem ahm {ar:List Int} {v:Nat->Int} (hs:aA (cxF ar) v ax.reverse):v 92=(aC 0 [v 78,v 79,v 84,v 85]).getD 2 0:=ae hs 92 rfl
theorem aho {ar:List Int} {v:Nat->Int} (hs:aA (cxF ar) v ax.reverse):v 98=(qoV (v 72) (v 73) (v 90) (v 91) 1073741824).getD 0 0:=ae hs 98 rfl
theorem ag0 {ar:List Int} {v:Nat->Int} (hs:aA (cxF ar) v ax.reverse):v 99=(qoV (v 72) (v 73) (v 90) (v 91) 1073741824).getD 1 0:=ae hs 99 rfl
theorem afO {ar:List Int} {v:Nat->Int} (hs:aA (cxF ar) v ax.reverse):v 100=(qoV (v 72) (v 73) (v 90) (v 91) 1073741824).getD 2 0:=ae hs 100 rfl
theorem oC {ar:List Int} {v:Nat->Int} (A0:cu (v 0) (v 1)=true) (A2:cu (v 2) (v 3)=true) (A4:cu (v 4) (v 5)=true) (F51:fxV (v 51) (v 52)=true) (F54:fxV (v 54) (v 55)=true) (F60:fxV (v 60) (v 61)=true) (F66:fxV (v 66) (v 67)=true) (F78:fxV (v 78) (v 79)=true) (F84:fxV (v 84) (v 85)=true) (Q12:qoP (v 72) (v 73) (v 90) (v 91) 1073741824) (k119:v 119=0):∀ c∈CW,c.holds (cxF ar) v :=
 ag (fun _=>A4) (ag (fun _=>A0) (ag (fun _=>A2) (ag (fun _=>⟨F54,F60⟩) (ag (fun _=>⟨F51,F66⟩) (ag (fun _=>A0) (ag (fun _=>A2) (ag (fun _=>⟨F78,F84⟩) (ag (fun _=>Q12) (ag (fun hp=>absurd k119 ((au hp).1)) (bN))))))))))
theorem ahF {ar:List Int} {v:Nat->Int} (A0:cu (v 0) (v 1)=true) (A2:cu (v 2) (v 3)=true) (A4:cu (v 4) (v 5)=true) (F51:fxV (v 51) (v 52)=true) (F54:fxV (v 54) (v 55)=true) (F60:fxV (v 60) (v 61)=true) (F66:fxV (v 66) (v 67)=true) (F78:fxV (v 78) (v 79)=true) (F84:fxV (v 84) (v 85)=true) (Q12:qoP (v 72) (v 73) (v 90) (v 91) 1073741824) (Q46:fxV (v 123) (v 124)=true/\v 123<=1073741824/\-1073741824<=v 124):∀ c∈CW,c.holds (cxF ar) v :=
 ag (fun _=>A4) (ag (fun _=>A0) (ag (fun _=>A2) (ag (fun _=>⟨F54,F60⟩) (ag (fun _=>⟨F51,F66⟩) (ag (fun _=>A0) (ag (fun _=>A2) (ag (fun _=>⟨F78,F84⟩) (ag (fun _=>Q12) (ag (fun _=>Q46) (bN))))))))))
theorem PQ {ar:List Int} {v:Nat->Int} (hs:aA (cxF ar) v ax.reverse) (k6:v 6=1) (k7:v 7=1) (k8:v 8=1) (k11:v 11=1) (k12:v 12=1) (k15:v 15=1) (k17:v 17=1) (k20:v 20=1) (k21:v 21=1) (k22:v 22=1) (k25:v 25=1) (k26:v 26=1) (k29:v 29=1) (k31:v 31=1) (k35:v 35=1) (k36:v 36=1) (k37:v 37=1) (k40:v 40=1) (k41:v 41=1) (k44:v 44=1) (k46:v 46=1) (k68:v 68=0) (k74:v 74=0) (k92:v 92=0) (k100:v 100=16):v 119=0:=by
 refine ak (X:=cxF ar) (v:=v) (l:=ax) (bS _) hs (k:=119) (r:=.c 0) (ps:=[(6,.c 1),(7,.c 1),(8,.c 1),(11,.c 1),(12,.c 1),(15,.c 1),(17,.c 1),(20,.c 1),(21,.c 1),(22,.c 1),(25,.c 1),(26,.c 1),(29,.c 1),(31,.c 1),(35,.c 1),(36,.c 1),(37,.c 1),(40,.c 1),(41,.c 1),(44,.c 1),(46,.c 1),(68,.c 0),(74,.c 0),(92,.c 0),(100,.c 16)]) (nz:=[]) ?_ az (by kernel_rfl)
 intro y hy;simp only [List.mem_cons,List.not_mem_nil,or_false] at hy;rcases hy with rfl|rfl|rfl|rfl|rfl|rfl|rfl|rfl|rfl|rfl|rfl|rfl|rfl|rfl|rfl|rfl|rfl|rfl|rfl|rfl|rfl|rfl|rfl|rfl|rfl<;>assumption
theorem WH {ar:List Int} {v:Nat->Int} (hs:aA (cxF ar) v ax.reverse) (k6:v 6=1) (k7:v 7=1) (k8:v 8=1) (k11:v 11=1) (k12:v 12=1) (k15:v 15=1) (k17:v 17=1) (k20:v 20=1) (k21:v 21=1) (k22:v 22=1) (k25:v 25=1) (k26:v 26=1) (k29:v 29=1) (k31:v 31=1) (k35:v 35=1) (k36:v 36=1) (k37:v 37=1) (k40:v 40=1) (k41:v 41=1) (k44:v 44=1) (k46:v 46=1) (k68:v 68=0) (k74:v 74=0) (k92:v 92=0) (k100:v 100=16):v 139=21:=by
 refine ak (X:=cxF ar) (v:=v) (l:=ax) (bS _) hs (k:=139) (r:=.c 21) (ps:=[(6,.c 1),(7,.c 1),(8,.c 1),(11,.c 1),(12,.c 1),(15,.c 1),(17,.c 1),(20,.c 1),(21,.c 1),(22,.c 1),(25,.c 1),(26,.c 1),(29,.c 1),(31,.c 1),(35,.c 1),(36,.c 1),(37,.c 1),(40,.c 1),(41,.c 1),(44,.c 1),(46,.c 1),(68,.c 0),(74,.c 0),(92,.c 0),(100,.c 16)]) (nz:=[]) ?_ az (by kernel_rfl)
 intro y hy;simp only [List.mem_cons,List.not_mem_nil,or_false] at hy;rcases hy with rfl|rfl|rfl|rfl|rfl|rfl|rfl|rfl|rfl|rfl|rfl|rfl|rfl|rfl|rfl|rfl|rfl|rfl|rfl|rfl|rfl|rfl|rfl|rfl|rfl<;>assumption
theorem UA {ar:List Int} {v:Nat->Int} (hs:aA (cxF ar) v ax.reverse) (k6:v 6=1) (k7:v 7=1) (k8:v 8=1) (k11:v 11=1) (k12:v 12=1) (k15:v 15=1) (k17:v 17=1) (k20:v 20=1) (k21:v 21=1) (k22:v 22=1) (k25:v 25=1) (k26:v 26=1) (k29:v 29=1) (k31:v 31=1) (k35:v 35=1) (k36:v 36=1) (k37:v 37=1) (k40:v 40=1) (k41:v 41=1) (k44:v 44=1) (k46:v 46=1) (k68:v 68=0) (k74:v 74=0) (k92:v 92=0) (k100:v 100=16):v 140=0:=by
 refine ak (X:=cxF ar) (v:=v) (l:=ax) (bS _) hs (k:=140) (r:=.c 0) (ps:=[(6,.c 1),(7,.c 1),(8,.c 1),(11,.c 1),(12,.c 1),(15,.c 1),(17,.c 1),(20,.c 1),(21,.c 1),(22,.c 1),(25,.c 1),(26,.c 1),(29,.c 1),(31,.c 1),(35,.c 1),(36,.c 1),(37,.c 1),(40,.c 1),(41,.c 1),(44,.c 1),(46,.c 1),(68,.c 0),(74,.c 0),(92,.c 0),(100,.c 16)]) (nz:=[]) ?_ az (by kernel_rfl)
 intro y hy;simp only [List.mem_cons,List.not_mem_nil,or_false] at hy;rcases hy with rfl|rfl|rfl|rfl|rfl|rfl|rfl|rfl|rfl|rfl|rfl|rfl|rfl|rfl|rfl|rfl|rfl|rfl|rfl|rfl|rfl|rfl|rfl|rfl|rfl<;>assumption
theorem PS {ar:List Int} {v:Nat->Int} (hs:aA (cxF ar) v ax.reverse) (k6:v 6=1) (k7:v 7=1) (k8:v 8=1) (k11:v 11=1) (k12:v 12=1) (k15:v 15=1) (k17:v 17=1) (k20:v 20=1) (k21:v 21=1) (k22:v 22=1) (k25:v 25=1) (k26:v 26=1) (k29:v 29=1) (k31:v 31=1) (k35:v 35=1) (k36:v 36=1) (k37:v 37=1) (k40:v 40=1) (k41:v 41=1) (k44:v 44=1) (k46:v 46=1) (k68:v 68=0) (k74:v 74=0) (k92:v 92=0) (k100:v 100=16):v 141=0:=by
 refine ak (X:=cxF ar) (v:=v) (l:=ax) (bS _) hs (k:=141) (r:=.c 0) (ps:=[(6,.c 1),(7,.c 1),(8,.c 1),(11,.c 1),(12,.c 1),(15,.c 1),(17,.c 1),(20,.c 1),(21,.c 1),(22,.c 1),(25,.c 1),(26,.c 1),(29,.c 1),(31,.c 1),(35,.c 1),(36,.c 1),(37,.c 1),(40,.c 1),(41,.c 1),(44,.c 1),(46,.c 1),(68,.c 0),(74,.c 0),(92,.c 0),(100,.c 16)]) (nz:=[]) ?_ az (by kernel_rfl)
 intro y hy;simp only [List.mem_cons,List.not_mem_nil,or_false] at hy;rcases hy with rfl|rfl|rfl|rfl|rfl|rfl|rfl|rfl|rfl|rfl|rfl|rfl|rfl|rfl|rfl|rfl|rfl|rfl|rfl|rfl|rfl|rfl|rfl|rfl|rfl<;>assumption
theorem P8 {ar:List Int} {v:Nat->Int} (hs:aA (cxF ar) v ax.reverse) (k6:v 6=1) (k7:v 7=1) (k8:v 8=1) (k11:v 11=1) (k12:v 12=1) (k15:v 15=1) (k17:v 17=1) (k20:v 20=1) (k21:v 21=1) (k22:v 22=1) (k25:v 25=1) (k26:v 26=1) (k29:v 29=1) (k31:v 31=1) (k35:v 35=1) (k36:v 36=1) (k37:v 37=1) (k40:v 40=1) (k41:v 41=1) (k44:v 44=1) (k46:v 46=1) (k68:v 68=0) (k74:v 74=0) (k92:v 92=0) (k100:v 100=5):v 119=0:=by
 refine ak (X:=cxF ar) (v:=v) (l:=ax) (bS _) hs (k:=119) (r:=.c 0) (ps:=[(6,.c 1),(7,.c 1),(8,.c 1),(11,.c 1),(12,.c 1),(15,.c 1),(17,.c 1),(20,.c 1),(21,.c 1),(22,.c 1),(25,.c 1),(26,.c 1),(29,.c 1),(31,.c 1),(35,.c 1),(36,.c 1),(37,.c 1),(40,.c 1),(41,.c 1),(44,.c 1),(46,.c 1),(68,.c 0),(74,.c 0),(92,.c 0),(100,.c 5)]) (nz:=[]) ?_ az (by kernel_rfl)
 intro y hy;simp only [List.mem_cons,List.not_mem_nil,or_false] at hy;rcases hy with rfl|rfl|rfl|rfl|rfl|rfl|rfl|rfl|rfl|rfl|rfl|rfl|rfl|rfl|rfl|rfl|rfl|rfl|rfl|rfl|rfl|rfl|rfl|rfl|rfl<;>assumption
theorem PK {ar:List Int} {v:Nat->Int} (hs:aA (cxF ar) v ax.reverse) (k6:v 6=1) (k7:v 7=1) (k8:v 8=1) (k11:v 11=1) (k12:v 12=1) (k15:v 15=1) (k17:v 17=1) (k20:v 20=1) (k21:v 21=1) (k22:v 22=1) (k25:v 25=1) (k26:v 26=1) (k29:v 29=1) (k31:v 31=1) (k35:v 35=1) (k36:v 36=1) (k37:v 37=1) (k40:v 40=1) (k41:v 41=1) (k44:v 44=1) (k46:v 46=1) (k68:v 68=0) (k74:v 74=0) (k92:v 92=0) (k100:v 100=5):v 139=24:=by
 refine ak (X:=cxF ar) (v:=v) (l:=ax) (bS _) hs (k:=139) (r:=.c 24) (ps:=[(6,.c 1),(7,.c 1),(8,.c 1),(11,.c 1),(12,.c 1),(15,.c 1),(17,.c 1),(20,.c 1),(21,.c 1),(22,.c 1),(25,.c 1),(26,.c 1),(29,.c 1),(31,.c 1),(35,.c 1),(36,.c 1),(37,.c 1),(40,.c 1),(41,.c 1),(44,.c 1),(46,.c 1),(68,.c 0),(74,.c 0),(92,.c 0),(100,.c 5)]) (nz:=[]) ?_ az (by kernel_rfl)
 intro y hy;simp only [List.mem_cons,List.not_mem_nil,or_false] at hy;rcases hy with rfl|rfl|rfl|rfl|rfl|rfl|rfl|rfl|rfl|rfl|rfl|rfl|rfl|rfl|rfl|rfl|rfl|rfl|rfl|rfl|rfl|rfl|rfl|rfl|rfl<;>assumption
theorem Q8 {ar:List Int} {v:Nat->Int} (hs:aA (cxF ar) v ax.reverse) (k6:v 6=1) (k7:v 7=1) (k8:v 8=1) (k11:v 11=1) (k12:v 12=1) (k15:v 15=1) (k17:v 17=1) (k20:v 20=1) (k21:v 21=1) (k22:v 22=1) (k25:v 25=1) (k26:v 26=1) (k29:v 29=1) (k31:v 31=1) (k35:v 35=1) (k36:v 36=1) (k37:v 37=1) (k40:v 40=1) (k41:v 41=1) (k44:v 44=1) (k46:v 46=1) (k68:v 68=0) (k74:v 74=0) (k92:v 92=0) (k100:v 100=5):v 140=0:=by
 refine ak (X:=cxF ar) (v:=v) (l:=ax) (bS _) hs (k:=140) (r:=.c 0) (ps:=[(6,.c 1),(7,.c 1),(8,.c 1),(11,.c 1),(12,.c 1),(15,.c 1),(17,.c 1),(20,.c 1),(21,.c 1),(22,.c 1),(25,.c 1),(26,.c 1),(29,.c 1),(31,.c 1),(35,.c 1),(36,.c 1),(37,.c 1),(40,.c 1),(41,.c 1),(44,.c 1),(46,.c 1),(68,.c 0),(74,.c 0),(92,.c 0),(100,.c 5)]) (nz:=[]) ?_ az (by kernel_rfl)
 intro y hy;simp only [List.mem_cons,List.not_mem_nil,or_false] at hy;rcases hy with rfl|rfl|rfl|rfl|rfl|rfl|rfl|rfl|rfl|rfl|rfl|rfl|rfl|rfl|rfl|rfl|rfl|rfl|rfl|rfl|rfl|rfl|rfl|rfl|rfl<;>assumption
theorem PM {ar:List Int} {v:Nat->Int} (hs:aA (cxF ar) v ax.reverse) (k6:v 6=1) (k7:v 7=1) (k8:v 8=1) (k11:v 11=1) (k12:v 12=1) (k15:v 15=1) (k17:v 17=1) (k20:v 20=1) (k21:v 21=1) (k22:v 22=1) (k25:v 25=1) (k26:v 26=1) (k29:v 29=1) (k31:v 31=1) (k35:v 35=1) (k36:v 36=1) (k37:v 37=1) (k40:v 40=1) (k41:v 41=1) (k44:v 44=1) (k46:v 46=1) (k68:v 68=0) (k74:v 74=0) (k92:v 92=0) (k100:v 100=5):v 141=0:=by
 refine ak (X:=cxF ar) (v:=v) (l:=ax) (bS _) hs (k:=141) (r:=.c 0) (ps:=[(6,.c 1),(7,.c 1),(8,.c 1),(11,.c 1),(12,.c 1),(15,.c 1),(17,.c 1),(20,.c 1),(21,.c 1),(22,.c 1),(25,.c 1),(26,.c 1),(29,.c 1),(31,.c 1),(35,.c 1),(36,.c 1),(37,.c 1),(40,.c 1),(41,.c 1),(44,.c 1),(46,.c 1),(68,.c 0),(74,.c 0),(92,.c 0),(100,.c 5)]) (nz:=[]) ?_ az (by kernel_rfl)
 intro y hy;simp only [List.mem_cons,List.not_mem_nil,or_false] at hy;rcases hy with rfl|rfl|rfl|rfl|rfl|rfl|rfl|rfl|rfl|rfl|rfl|rfl|rfl|rfl|rfl|rfl|rfl|rfl|rfl|rfl|rfl|rfl|rfl|rfl|rfl<;>assumption
theorem Fb {ar:List Int} {v:Nat->Int} (hs:aA (cxF ar) v ax.reverse):v 104=b2i (decide (v 98>1073741824)):=ae hs 104 rfl
theorem afb {ar:List Int} {v:Nat->Int} (hs:aA (cxF ar) v ax.reverse) (k6:v 6=1) (k7:v 7=1) (k8:v 8=1) (k11:v 11=1) (k12:v 12=1) (k15:v 15=1) (k17:v 17=1) (k20:v 20=1) (k21:v 21=1) (k22:v 22=1) (k25:v 25=1) (k26:v 26=1) (k29:v 29=1) (k31:v 31=1) (k35:v 35=1) (k36:v 36=1) (k37:v 37=1) (k40:v 40=1) (k41:v 41=1) (k44:v 44=1) (k46:v 46=1) (k68:v 68=0) (k74:v 74=0) (k92:v 92=0) (k100:v 100=0) (k104:v 104=1):v 119=0:=by
 refine ak (X:=cxF ar) (v:=v) (l:=ax) (bS _) hs (k:=119) (r:=.c 0) (ps:=[(6,.c 1),(7,.c 1),(8,.c 1),(11,.c 1),(12,.c 1),(15,.c 1),(17,.c 1),(20,.c 1),(21,.c 1),(22,.c 1),(25,.c 1),(26,.c 1),(29,.c 1),(31,.c 1),(35,.c 1),(36,.c 1),(37,.c 1),(40,.c 1),(41,.c 1),(44,.c 1),(46,.c 1),(68,.c 0),(74,.c 0),(92,.c 0),(100,.c 0),(104,.c 1)]) (nz:=[]) ?_ az (by kernel_rfl)
 intro y hy;simp only [List.mem_cons,List.not_mem_nil,or_false] at hy;rcases hy with rfl|rfl|rfl|rfl|rfl|rfl|rfl|rfl|rfl|rfl|rfl|rfl|rfl|rfl|rfl|rfl|rfl|rfl|rfl|rfl|rfl|rfl|rfl|rfl|rfl|rfl<;>assumption
theorem vM {ar:List Int} {v:Nat->Int} (hs:aA (cxF ar) v ax.reverse) (k6:v 6=1) (k7:v 7=1) (k8:v 8=1) (k11:v 11=1) (k12:v 12=1) (k15:v 15=1) (k17:v 17=1) (k20:v 20=1) (k21:v 21=1) (k22:v 22=1) (k25:v 25=1) (k26:v 26=1) (k29:v 29=1) (k31:v 31=1) (k35:v 35=1) (k36:v 36=1) (k37:v 37=1) (k40:v 40=1) (k41:v 41=1) (k44:v 44=1) (k46:v 46=1) (k68:v 68=0) (k74:v 74=0) (k92:v 92=0) (k100:v 100=0) (k104:v 104=1):v 139=12:=by
 refine ak (X:=cxF ar) (v:=v) (l:=ax) (bS _) hs (k:=139) (r:=.c 12) (ps:=[(6,.c 1),(7,.c 1),(8,.c 1),(11,.c 1),(12,.c 1),(15,.c 1),(17,.c 1),(20,.c 1),(21,.c 1),(22,.c 1),(25,.c 1),(26,.c 1),(29,.c 1),(31,.c 1),(35,.c 1),(36,.c 1),(37,.c 1),(40,.c 1),(41,.c 1),(44,.c 1),(46,.c 1),(68,.c 0),(74,.c 0),(92,.c 0),(100,.c 0),(104,.c 1)]) (nz:=[]) ?_ az (by kernel_rfl)
 intro y hy;simp only [List.mem_cons,List.not_mem_nil,or_false] at hy;rcases hy with rfl|rfl|rfl|rfl|rfl|rfl|rfl|rfl|rfl|rfl|rfl|rfl|rfl|rfl|rfl|rfl|rfl|rfl|rfl|rfl|rfl|rfl|rfl|rfl|rfl|rfl<;>assumption
theorem DY {ar:List Int} {v:Nat->Int} (hs:aA (cxF ar) v ax.reverse) (k6:v 6=1) (k7:v 7=1) (k8:v 8=1) (k11:v 11=1) (k12:v 12=1) (k15:v 15=1) (k17:v 17=1) (k20:v 20=1) (k21:v 21=1) (k22:v 22=1) (k25:v 25=1) (k26:v 26=1) (k29:v 29=1) (k31:v 31=1) (k35:v 35=1) (k36:v 36=1) (k37:v 37=1) (k40:v 40=1) (k41:v 41=1) (k44:v 44=1) (k46:v 46=1) (k68:v 68=0) (k74:v 74=0) (k92:v 92=0) (k100:v 100=0) (k104:v 104=1):v 140=0:=by
 refine ak (X:=cxF ar) (v:=v) (l:=ax) (bS _) hs (k:=140) (r:=.c 0) (ps:=[(6,.c 1),(7,.c 1),(8,.c 1),(11,.c 1),(12,.c 1),(15,.c 1),(17,.c 1),(20,.c 1),(21,.c 1),(22,.c 1),(25,.c 1),(26,.c 1),(29,.c 1),(31,.c 1),(35,.c 1),(36,.c 1),(37,.c 1),(40,.c 1),(41,.c 1),(44,.c 1),(46,.c 1),(68,.c 0),(74,.c 0),(92,.c 0),(100,.c 0),(104,.c 1)]) (nz:=[]) ?_ az (by kernel_rfl)
 intro y hy;simp only [List.mem_cons,List.not_mem_nil,or_false] at hy;rcases hy with rfl|rfl|rfl|rfl|rfl|rfl|rfl|rfl|rfl|rfl|rfl|rfl|rfl|rfl|rfl|rfl|rfl|rfl|rfl|rfl|rfl|rfl|rfl|rfl|rfl|rfl<;>assumption
theorem E8 {ar:List Int} {v:Nat->Int} (hs:aA (cxF ar) v ax.reverse) (k6:v 6=1) (k7:v 7=1) (k8:v 8=1) (k11:v 11=1) (k12:v 12=1) (k15:v 15=1) (k17:v 17=1) (k20:v 20=1) (k21:v 21=1) (k22:v 22=1) (k25:v 25=1) (k26:v 26=1) (k29:v 29=1) (k31:v 31=1) (k35:v 35=1) (k36:v 36=1) (k37:v 37=1) (k40:v 40=1) (k41:v 41=1) (k44:v 44=1) (k46:v 46=1) (k68:v 68=0) (k74:v 74=0) (k92:v 92=0) (k100:v 100=0) (k104:v 104=1):v 141=0:=by
 refine ak (X:=cxF ar) (v:=v) (l:=ax) (bS _) hs (k:=141) (r:=.c 0) (ps:=[(6,.c 1),(7,.c 1),(8,.c 1),(11,.c 1),(12,.c 1),(15,.c 1),(17,.c 1),(20,.c 1),(21,.c 1),(22,.c 1),(25,.c 1),(26,.c 1),(29,.c 1),(31,.c 1),(35,.c 1),(36,.c 1),(37,.c 1),(40,.c 1),(41,.c 1),(44,.c 1),(46,.c 1),(68,.c 0),(74,.c 0),(92,.c 0),(100,.c 0),(104,.c 1)]) (nz:=[]) ?_ az (by kernel_rfl)
 intro y hy;simp only [List.mem_cons,List.not_mem_nil,or_false] at hy;rcases hy with rfl|rfl|rfl|rfl|rfl|rfl|rfl|rfl|rfl|rfl|rfl|rfl|rfl|rfl|rfl|rfl|rfl|rfl|rfl|rfl|rfl|rfl|rfl|rfl|rfl|rfl<;>assumption
theorem F5 {ar:List Int} {v:Nat->Int} (hs:aA (cxF ar) v ax.reverse):v 105=b2i (decide (v 99 < -1073741824)):=ae hs 105 rfl
theorem DX {ar:List Int} {v:Nat->Int} (hs:aA (cxF ar) v ax.reverse) (k6:v 6=1) (k7:v 7=1) (k8:v 8=1) (k11:v 11=1) (k12:v 12=1) (k15:v 15=1) (k17:v 17=1) (k20:v 20=1) (k21:v 21=1) (k22:v 22=1) (k25:v 25=1) (k26:v 26=1) (k29:v 29=1) (k31:v 31=1) (k35:v 35=1) (k36:v 36=1) (k37:v 37=1) (k40:v 40=1) (k41:v 41=1) (k44:v 44=1) (k46:v 46=1) (k68:v 68=0) (k74:v 74=0) (k92:v 92=0) (k100:v 100=0) (k104:v 104=0) (k105:v 105=1):v 119=0:=by
 refine ak (X:=cxF ar) (v:=v) (l:=ax) (bS _) hs (k:=119) (r:=.c 0) (ps:=[(6,.c 1),(7,.c 1),(8,.c 1),(11,.c 1),(12,.c 1),(15,.c 1),(17,.c 1),(20,.c 1),(21,.c 1),(22,.c 1),(25,.c 1),(26,.c 1),(29,.c 1),(31,.c 1),(35,.c 1),(36,.c 1),(37,.c 1),(40,.c 1),(41,.c 1),(44,.c 1),(46,.c 1),(68,.c 0),(74,.c 0),(92,.c 0),(100,.c 0),(104,.c 0),(105,.c 1)]) (nz:=[]) ?_ az (by kernel_rfl)
 intro y hy;simp only [List.mem_cons,List.not_mem_nil,or_false] at hy;rcases hy with rfl|rfl|rfl|rfl|rfl|rfl|rfl|rfl|rfl|rfl|rfl|rfl|rfl|rfl|rfl|rfl|rfl|rfl|rfl|rfl|rfl|rfl|rfl|rfl|rfl|rfl|rfl<;>assumption
theorem AB {ar:List Int} {v:Nat->Int} (hs:aA (cxF ar) v ax.reverse) (k6:v 6=1) (k7:v 7=1) (k8:v 8=1) (k11:v 11=1) (k12:v 12=1) (k15:v 15=1) (k17:v 17=1) (k20:v 20=1) (k21:v 21=1) (k22:v 22=1) (k25:v 25=1) (k26:v 26=1) (k29:v 29=1) (k31:v 31=1) (k35:v 35=1) (k36:v 36=1) (k37:v 37=1) (k40:v 40=1) (k41:v 41=1) (k44:v 44=1) (k46:v 46=1) (k68:v 68=0) (k74:v 74=0) (k92:v 92=0) (k100:v 100=0) (k104:v 104=0) (k105:v 105=1):v 139=12:=by
 refine ak (X:=cxF ar) (v:=v) (l:=ax) (bS _) hs (k:=139) (r:=.c 12) (ps:=[(6,.c 1),(7,.c 1),(8,.c 1),(11,.c 1),(12,.c 1),(15,.c 1),(17,.c 1),(20,.c 1),(21,.c 1),(22,.c 1),(25,.c 1),(26,.c 1),(29,.c 1),(31,.c 1),(35,.c 1),(36,.c 1),(37,.c 1),(40,.c 1),(41,.c 1),(44,.c 1),(46,.c 1),(68,.c 0),(74,.c 0),(92,.c 0),(100,.c 0),(104,.c 0),(105,.c 1)]) (nz:=[]) ?_ az (by kernel_rfl)
 intro y hy;simp only [List.mem_cons,List.not_mem_nil,or_false] at hy;rcases hy with rfl|rfl|rfl|rfl|rfl|rfl|rfl|rfl|rfl|rfl|rfl|rfl|rfl|rfl|rfl|rfl|rfl|rfl|rfl|rfl|rfl|rfl|rfl|rfl|rfl|rfl|rfl<;>assumption
theorem vK {ar:List Int} {v:Nat->Int} (hs:aA (cxF ar) v ax.reverse) (k6:v 6=1) (k7:v 7=1) (k8:v 8=1) (k11:v 11=1) (k12:v 12=1) (k15:v 15=1) (k17:v 17=1) (k20:v 20=1) (k21:v 21=1) (k22:v 22=1) (k25:v 25=1) (k26:v 26=1) (k29:v 29=1) (k31:v 31=1) (k35:v 35=1) (k36:v 36=1) (k37:v 37=1) (k40:v 40=1) (k41:v 41=1) (k44:v 44=1) (k46:v 46=1) (k68:v 68=0) (k74:v 74=0) (k92:v 92=0) (k100:v 100=0) (k104:v 104=0) (k105:v 105=1):v 140=0:=by
 refine ak (X:=cxF ar) (v:=v) (l:=ax) (bS _) hs (k:=140) (r:=.c 0) (ps:=[(6,.c 1),(7,.c 1),(8,.c 1),(11,.c 1),(12,.c 1),(15,.c 1),(17,.c 1),(20,.c 1),(21,.c 1),(22,.c 1),(25,.c 1),(26,.c 1),(29,.c 1),(31,.c 1),(35,.c 1),(36,.c 1),(37,.c 1),(40,.c 1),(41,.c 1),(44,.c 1),(46,.c 1),(68,.c 0),(74,.c 0),(92,.c 0),(100,.c 0),(104,.c 0),(105,.c 1)]) (nz:=[]) ?_ az (by kernel_rfl)
 intro y hy;simp only [List.mem_cons,List.not_mem_nil,or_false] at hy;rcases hy with rfl|rfl|rfl|rfl|rfl|rfl|rfl|rfl|rfl|rfl|rfl|rfl|rfl|rfl|rfl|rfl|rfl|rfl|rfl|rfl|rfl|rfl|rfl|rfl|rfl|rfl|rfl<;>assumption
theorem BD {ar:List Int} {v:Nat->Int} (hs:aA (cxF ar) v ax.reverse) (k6:v 6=1) (k7:v 7=1) (k8:v 8=1) (k11:v 11=1) (k12:v 12=1) (k15:v 15=1) (k17:v 17=1) (k20:v 20=1) (k21:v 21=1) (k22:v 22=1) (k25:v 25=1) (k26:v 26=1) (k29:v 29=1) (k31:v 31=1) (k35:v 35=1) (k36:v 36=1) (k37:v 37=1) (k40:v 40=1) (k41:v 41=1) (k44:v 44=1) (k46:v 46=1) (k68:v 68=0) (k74:v 74=0) (k92:v 92=0) (k100:v 100=0) (k104:v 104=0) (k105:v 105=1):v 141=0:=by
 refine ak (X:=cxF ar) (v:=v) (l:=ax) (bS _) hs (k:=141) (r:=.c 0) (ps:=[(6,.c 1),(7,.c 1),(8,.c 1),(11,.c 1),(12,.c 1),(15,.c 1),(17,.c 1),(20,.c 1),(21,.c 1),(22,.c 1),(25,.c 1),(26,.c 1),(29,.c 1),(31,.c 1),(35,.c 1),(36,.c 1),(37,.c 1),(40,.c 1),(41,.c 1),(44,.c 1),(46,.c 1),(68,.c 0),(74,.c 0),(92,.c 0),(100,.c 0),(104,.c 0),(105,.c 1)]) (nz:=[]) ?_ az (by kernel_rfl)
 intro y hy;simp only [List.mem_cons,List.not_mem_nil,or_false] at hy;rcases hy with rfl|rfl|rfl|rfl|rfl|rfl|rfl|rfl|rfl|rfl|rfl|rfl|rfl|rfl|rfl|rfl|rfl|rfl|rfl|rfl|rfl|rfl|rfl|rfl|rfl|rfl|rfl<;>assumption
theorem afH {ar:List Int} {v:Nat->Int} (hs:aA (cxF ar) v ax.reverse):v 123=if (-1073741824:Int)>v 98 then (-1073741824:Int) else v 98:=ae hs 123 rfl
theorem afC {ar:List Int} {v:Nat->Int} (hs:aA (cxF ar) v ax.reverse):v 124=if (1073741824:Int)<v 99 then (1073741824:Int) else v 99:=ae hs 124 rfl
theorem afE {ar:List Int} {v:Nat->Int} (hs:aA (cxF ar) v ax.reverse):v 125=jJ (v 124):=ae hs 125 rfl
theorem afz {ar:List Int} {v:Nat->Int} (hs:aA (cxF ar) v ax.reverse):v 126=jc (v 123):=ae hs 126 rfl
theorem zh {ar:List Int} {v:Nat->Int} (hs:aA (cxF ar) v ax.reverse) (k6:v 6=1) (k7:v 7=1) (k8:v 8=1) (k11:v 11=1) (k12:v 12=1) (k15:v 15=1) (k17:v 17=1) (k20:v 20=1) (k21:v 21=1) (k22:v 22=1) (k25:v 25=1) (k26:v 26=1) (k29:v 29=1) (k31:v 31=1) (k35:v 35=1) (k36:v 36=1) (k37:v 37=1) (k40:v 40=1) (k41:v 41=1) (k44:v 44=1) (k46:v 46=1) (k68:v 68=0) (k74:v 74=0) (k92:v 92=0) (k100:v 100=0) (k104:v 104=0) (k105:v 105=0):v 139=0:=by
 refine ak (X:=cxF ar) (v:=v) (l:=ax) (bS _) hs (k:=139) (r:=.c 0) (ps:=[(6,.c 1),(7,.c 1),(8,.c 1),(11,.c 1),(12,.c 1),(15,.c 1),(17,.c 1),(20,.c 1),(21,.c 1),(22,.c 1),(25,.c 1),(26,.c 1),(29,.c 1),(31,.c 1),(35,.c 1),(36,.c 1),(37,.c 1),(40,.c 1),(41,.c 1),(44,.c 1),(46,.c 1),(68,.c 0),(74,.c 0),(92,.c 0),(100,.c 0),(104,.c 0),(105,.c 0)]) (nz:=[]) ?_ az (by kernel_rfl)
 intro y hy;simp only [List.mem_cons,List.not_mem_nil,or_false] at hy;rcases hy with rfl|rfl|rfl|rfl|rfl|rfl|rfl|rfl|rfl|rfl|rfl|rfl|rfl|rfl|rfl|rfl|rfl|rfl|rfl|rfl|rfl|rfl|rfl|rfl|rfl|rfl|rfl<;>assumption
theorem DL {ar:List Int} {v:Nat->Int} (hs:aA (cxF ar) v ax.reverse) (k6:v 6=1) (k7:v 7=1) (k8:v 8=1) (k11:v 11=1) (k12:v 12=1) (k15:v 15=1) (k17:v 17=1) (k20:v 20=1) (k21:v 21=1) (k22:v 22=1) (k25:v 25=1) (k26:v 26=1) (k29:v 29=1) (k31:v 31=1) (k35:v 35=1) (k36:v 36=1) (k37:v 37=1) (k40:v 40=1) (k41:v 41=1) (k44:v 44=1) (k46:v 46=1) (k68:v 68=0) (k74:v 74=0) (k92:v 92=0) (k100:v 100=0) (k104:v 104=0) (k105:v 105=0):v 140=v 125:=by
 refine aB (X:=cxF ar) (v:=v) (l:=ax) (bS _) hs (k:=140) (j:=125) (ps:=[(6,.c 1),(7,.c 1),(8,.c 1),(11,.c 1),(12,.c 1),(15,.c 1),(17,.c 1),(20,.c 1),(21,.c 1),(22,.c 1),(25,.c 1),(26,.c 1),(29,.c 1),(31,.c 1),(35,.c 1),(36,.c 1),(37,.c 1),(40,.c 1),(41,.c 1),(44,.c 1),(46,.c 1),(68,.c 0),(74,.c 0),(92,.c 0),(100,.c 0),(104,.c 0),(105,.c 0)]) ?_ (by kernel_rfl)
 intro y hy;simp only [List.mem_cons,List.not_mem_nil,or_false] at hy;rcases hy with rfl|rfl|rfl|rfl|rfl|rfl|rfl|rfl|rfl|rfl|rfl|rfl|rfl|rfl|rfl|rfl|rfl|rfl|rfl|rfl|rfl|rfl|rfl|rfl|rfl|rfl|rfl<;>assumption
theorem zm {ar:List Int} {v:Nat->Int} (hs:aA (cxF ar) v ax.reverse) (k6:v 6=1) (k7:v 7=1) (k8:v 8=1) (k11:v 11=1) (k12:v 12=1) (k15:v 15=1) (k17:v 17=1) (k20:v 20=1) (k21:v 21=1) (k22:v 22=1) (k25:v 25=1) (k26:v 26=1) (k29:v 29=1) (k31:v 31=1) (k35:v 35=1) (k36:v 36=1) (k37:v 37=1) (k40:v 40=1) (k41:v 41=1) (k44:v 44=1) (k46:v 46=1) (k68:v 68=0) (k74:v 74=0) (k92:v 92=0) (k100:v 100=0) (k104:v 104=0) (k105:v 105=0):v 141=v 126:=by
 refine aB (X:=cxF ar) (v:=v) (l:=ax) (bS _) hs (k:=141) (j:=126) (ps:=[(6,.c 1),(7,.c 1),(8,.c 1),(11,.c 1),(12,.c 1),(15,.c 1),(17,.c 1),(20,.c 1),(21,.c 1),(22,.c 1),(25,.c 1),(26,.c 1),(29,.c 1),(31,.c 1),(35,.c 1),(36,.c 1),(37,.c 1),(40,.c 1),(41,.c 1),(44,.c 1),(46,.c 1),(68,.c 0),(74,.c 0),(92,.c 0),(100,.c 0),(104,.c 0),(105,.c 0)]) ?_ (by kernel_rfl)
 intro y hy;simp only [List.mem_cons,List.not_mem_nil,or_false] at hy;rcases hy with rfl|rfl|rfl|rfl|rfl|rfl|rfl|rfl|rfl|rfl|rfl|rfl|rfl|rfl|rfl|rfl|rfl|rfl|rfl|rfl|rfl|rfl|rfl|rfl|rfl|rfl|rfl<;>assumption
theorem ahU (a0 a1 a2 a3 a4 a5:Int) (w:World) (h1:-5400000<=a0/\a0<=a1/\a1<=5400000) (h2:-5400000<=a2/\a2<=a3/\a3<=5400000) (h3:-5400000<=a4/\a4<=a5/\a5<=5400000):Calls Try.prog 30 #[.agg #[.int .i64 a0,.int .i64 a1],.agg #[.int .i64 a2,.int .i64 a3],.agg #[.int .i64 a4,.int .i64 a5]] w fun e w'=>e=.returned (.tuple #[.agg #[.int .i64 ((haV a0 a1 a2 a3 a4 a5).getD 0 0),.int .i64 ((haV a0 a1 a2 a3 a4 a5).getD 1 0)],.int .i64 ((haV a0 a1 a2 a3 a4 a5).getD 2 0)])/\Below w.heap.size w w':=by
 refine Sx.calls (X:=cxF [a0,a1,a2,a3,a4,a5]) dX (af0 _) agA ahv (fun v hs=>?_) w
 have e0:v 0=a0:=ae hs 0 rfl;have e1:v 1=a1:=ae hs 1 rfl;have e2:v 2=a2:=ae hs 2 rfl;have e3:v 3=a3:=ae hs 3 rfl;have e4:v 4=a4:=ae hs 4 rfl;have e5:v 5=a5:=ae hs 5 rfl;rw [<-e0,<-e1] at h1;rw [<-e2,<-e3] at h2;rw [<-e4,<-e5] at h3;rw [<-e0,<-e1,<-e2,<-e3,<-e4,<-e5];clear e0 e1 e2 e3 e4 e5;have k6:v 6=1:=by rw [(ahY hs),decide_eq_true (by omega)];rfl
 have k7:v 7=1:=by rw [(ahR hs),decide_eq_true (by omega)];rfl
 have k8:v 8=1:=by rw [(ahM hs),decide_eq_true (by omega)];rfl
 have k11:v 11=1:=by rw [(ahG hs),decide_eq_true (by omega)];rfl
 have k12:v 12=1:=by rw [(agG hs),decide_eq_true (by omega)];rfl
 have k15:v 15=1:=by rw [(ahe hs),decide_eq_true (by omega)];rfl
 have k17:v 17=1:=by rw [(ag4 hs),decide_eq_true (by omega)];rfl
 have k20:v 20=1:=by rw [(agI hs),decide_eq_true (by omega)];rfl
 have k21:v 21=1:=by rw [(ahH hs),decide_eq_true (by omega)];rfl
 have k22:v 22=1:=by rw [(ag8 hs),decide_eq_true (by omega)];rfl
 have k25:v 25=1:=by rw [(ahc hs),decide_eq_true (by omega)];rfl
 have k26:v 26=1:=by rw [(agN hs),decide_eq_true (by omega)];rfl
 have k29:v 29=1:=by rw [(agj hs),decide_eq_true (by omega)];rfl
 have k31:v 31=1:=by rw [(agD hs),decide_eq_true (by omega)];rfl
 have k35:v 35=1:=by rw [(agq hs),decide_eq_true (by omega)];rfl
 have k36:v 36=1:=by rw [(agt hs),decide_eq_true (by omega)];rfl
 have k37:v 37=1:=by rw [(ahr hs),decide_eq_true (by omega)];rfl
 have k40:v 40=1:=by rw [(agu hs),decide_eq_true (by omega)];rfl
 have k41:v 41=1:=by rw [(ag6 hs),decide_eq_true (by omega)];rfl
 have k44:v 44=1:=by rw [(af7 hs),decide_eq_true (by omega)];rfl
 have k46:v 46=1:=by rw [(agr hs),decide_eq_true (by omega)];rfl
 have A0:cu (v 0) (v 1)=true:=(cK _ _).2 (by omega)
 have A2:cu (v 2) (v 3)=true:=(cK _ _).2 (by omega)
 have A4:cu (v 4) (v 5)=true:=(cK _ _).2 (by omega)
 have P51:((v 51,v 52):IV)=uS (v 4) (v 5):=kT (agv hs) (ag2 hs);have U51:U ((v 51,v 52):IV):=by rw [P51];exact U_S _ _
 have P54:((v 54,v 55):IV)=uS (v 0) (v 1):=kT (agE hs) (agS hs);have U54:U ((v 54,v 55):IV):=by rw [P54];exact U_S _ _
 have P60:((v 60,v 61):IV)=uS (v 2) (v 3):=kT (agd hs) (agX hs);have U60:U ((v 60,v 61):IV):=by rw [P60];exact U_S _ _
 have P78:((v 78,v 79):IV)=uC (v 0) (v 1):=kT (ahq hs) (ahs hs);have U78:U ((v 78,v 79):IV):=by rw [P78];exact U_C _ _
 have P84:((v 84,v 85):IV)=uC (v 2) (v 3):=kT (ahn hs) (agp hs);have U84:U ((v 84,v 85):IV):=by rw [P84];exact U_C _ _
 have P66:((v 66,v 67):IV)=uM ((v 54,v 55):IV) ((v 60,v 61):IV):=kT (ahj hs) (ahA hs);have k68:v 68=0:=((agf hs)).trans (U_M U54 U60).2.1;have U66:U ((v 66,v 67):IV):=by rw [P66];exact (U_M U54 U60).2.2
 have P72:((v 72,v 73):IV)=uD ((v 51,v 52):IV) ((v 66,v 67):IV):=kT (aga hs) (ag7 hs);have k74:v 74=0:=((agV hs)).trans (U_D U51 U66).2.1;have F72:fxV (v 72) (v 73)=true:=by have:=(U_D U51 U66).2.2;rw [<-P72] at this;exact this
 have P90:((v 90,v 91):IV)=uM ((v 78,v 79):IV) ((v 84,v 85):IV):=kT (ahE hs) (ahC hs);have k92:v 92=0:=((ahm hs)).trans (U_M U78 U84).2.1;have U90:U ((v 90,v 91):IV):=by rw [P90];exact (U_M U78 U84).2.2
 have N72:((v 72,v 73):IV)=haN (v 0) (v 1) (v 2) (v 3) (v 4) (v 5):=by unfold haN;rw [P72,P51,P66,P54,P60]
 have N90:((v 90,v 91):IV)=haD (v 0) (v 1) (v 2) (v 3):=by unfold haD;rw [P90,P78,P84]
 have d0:0<=v 90:=by
  have n1:0<=(uC (v 0) (v 1)).1:=lg _ _ h1;have n2:0<=(uC (v 2) (v 3)).1:=lg _ _ h2;rw [<-P78] at n1;rw [<-P84] at n2;have:=afs U78 U84 n1 n2;rw [<-P90] at this;exact this
 have Q12:qoP (v 72) (v 73) (v 90) (v 91) 1073741824:=⟨F72,cz U90,d0,by decide,by decide⟩
 have q98:v 98=(qoV (v 72) (v 73) (v 90) (v 91) 1073741824).getD 0 0:=(aho hs);have q99:v 99=(qoV (v 72) (v 73) (v 90) (v 91) 1073741824).getD 1 0:=(ag0 hs);have q100:v 100=(qoV (v 72) (v 73) (v 90) (v 91) 1073741824).getD 2 0:=(afO hs);have le:=MV (v 72) (v 73) (v 90) (v 91) 1073741824;rw [<-q98,<-q99] at le;have eQ:haQ (v 0) (v 1) (v 2) (v 3) (v 4) (v 5)=qoL (v 72) (v 73) (v 90) (v 91) 1073741824:=by unfold haQ;rw [<-N72,<-N90]
 have eR:haR (v 0) (v 1) (v 2) (v 3) (v 4) (v 5)=qoH (v 72) (v 73) (v 90) (v 91) 1073741824:=by unfold haR;rw [<-N72,<-N90]
 have eD:(haD (v 0) (v 1) (v 2) (v 3)).1=v 90:=by rw [<-N90]
 have F51:=cz U51;have F54:=cz U54;have F60:=cz U60;have F66:=cz U66;have F78:=cz U78;have F84:=cz U84;clear P51 P54 P60 P66 P72 P78 P84 P90 N72 N90 U51 U54 U60 U66 U78 U84 h1 h2 h3 d0
 by_cases g1':v 90<=0
 . have W:=ry (a4:=v 4) (a5:=v 5) (show (haD (v 0) (v 1) (v 2) (v 3)).1<=0 by rw [eD];exact g1')
   have k100:v 100=16:=by rw [q100,show qoV (v 72) (v 73) (v 90) (v 91) 1073741824=[0,0,16] from if_pos g1'];rfl
   have k119:v 119=0:=(PQ hs k6 k7 k8 k11 k12 k15 k17 k20 k21 k22 k25 k26 k29 k31 k35 k36 k37 k40 k41 k44 k46 k68 k74 k92 k100);have r139:v 139=21:=(WH hs k6 k7 k8 k11 k12 k15 k17 k20 k21 k22 k25 k26 k29 k31 k35 k36 k37 k40 k41 k44 k46 k68 k74 k92 k100);have r140:v 140=0:=(UA hs k6 k7 k8 k11 k12 k15 k17 k20 k21 k22 k25 k26 k29 k31 k35 k36 k37 k40 k41 k44 k46 k68 k74 k92 k100);have r141:v 141=0:=(PS hs k6 k7 k8 k11 k12 k15 k17 k20 k21 k22 k25 k26 k29 k31 k35 k36 k37 k40 k41 k44 k46 k68 k74 k92 k100);refine ⟨bO (oC A0 A2 A4 F51 F54 F60 F66 F78 F84 Q12 k119),?_⟩;intro x hx0;have hx':=dL (v:=v) (by rfl) hx0
   rw [hx'];show Value.tuple #[.agg #[.int .i64 (v 140),.int .i64 (v 141)],.int .i64 (v 139)]=_;rw [W,r139,r140,r141];rfl
 have nD:¬ (haD (v 0) (v 1) (v 2) (v 3)).1<=0:=by rw [eD];exact g1'
 by_cases g2':jP (qoL (v 72) (v 73) (v 90) (v 91) 1073741824)=true/\jP (qoH (v 72) (v 73) (v 90) (v 91) 1073741824)=true
 rotate_left
 . have W:=uH nD (show ¬ (jP (haQ (v 0) (v 1) (v 2) (v 3) (v 4) (v 5))=true/\jP (haR (v 0) (v 1) (v 2) (v 3) (v 4) (v 5))=true) by rw [eQ,eR];exact g2')
   have k100:v 100=5:=by rw [q100,show qoV (v 72) (v 73) (v 90) (v 91) 1073741824=[0,0,5] from (if_neg g1').trans (if_neg g2')];rfl
   have k119:v 119=0:=(P8 hs k6 k7 k8 k11 k12 k15 k17 k20 k21 k22 k25 k26 k29 k31 k35 k36 k37 k40 k41 k44 k46 k68 k74 k92 k100);have r139:v 139=24:=(PK hs k6 k7 k8 k11 k12 k15 k17 k20 k21 k22 k25 k26 k29 k31 k35 k36 k37 k40 k41 k44 k46 k68 k74 k92 k100);have r140:v 140=0:=(Q8 hs k6 k7 k8 k11 k12 k15 k17 k20 k21 k22 k25 k26 k29 k31 k35 k36 k37 k40 k41 k44 k46 k68 k74 k92 k100);have r141:v 141=0:=(PM hs k6 k7 k8 k11 k12 k15 k17 k20 k21 k22 k25 k26 k29 k31 k35 k36 k37 k40 k41 k44 k46 k68 k74 k92 k100);refine ⟨bO (oC A0 A2 A4 F51 F54 F60 F66 F78 F84 Q12 k119),?_⟩;intro x hx0;have hx':=dL (v:=v) (by rfl) hx0
   rw [hx'];show Value.tuple #[.agg #[.int .i64 (v 140),.int .i64 (v 141)],.int .i64 (v 139)]=_;rw [W,r139,r140,r141];rfl
 have g3:jP (haQ (v 0) (v 1) (v 2) (v 3) (v 4) (v 5))=true/\jP (haR (v 0) (v 1) (v 2) (v 3) (v 4) (v 5))=true:=by rw [eQ,eR];exact g2'
 have eV:qoV (v 72) (v 73) (v 90) (v 91) 1073741824=[qoL (v 72) (v 73) (v 90) (v 91) 1073741824,qoH (v 72) (v 73) (v 90) (v 91) 1073741824,0]:=(if_neg g1').trans (if_pos g2');have g3d:=uo (qoL (v 72) (v 73) (v 90) (v 91) 1073741824) (qoH (v 72) (v 73) (v 90) (v 91) 1073741824) 0;rw [eV,g3d.1] at q98;rw [eV,g3d.2.1] at q99;rw [eV,g3d.2.2] at q100;rw [<-q98] at eQ;rw [<-q99] at eR;have k100:v 100=0:=q100;clear eV g3d q98 q99 q100 g2'
 by_cases g4:v 98>1073741824
 . have W:=rz nD g3 (.inl (by rw [eQ];exact g4))
   have k104:v 104=1:=by rw [(Fb hs),decide_eq_true g4];rfl
   have k119:v 119=0:=(afb hs k6 k7 k8 k11 k12 k15 k17 k20 k21 k22 k25 k26 k29 k31 k35 k36 k37 k40 k41 k44 k46 k68 k74 k92 k100 k104);have r139:v 139=12:=(vM hs k6 k7 k8 k11 k12 k15 k17 k20 k21 k22 k25 k26 k29 k31 k35 k36 k37 k40 k41 k44 k46 k68 k74 k92 k100 k104);have r140:v 140=0:=(DY hs k6 k7 k8 k11 k12 k15 k17 k20 k21 k22 k25 k26 k29 k31 k35 k36 k37 k40 k41 k44 k46 k68 k74 k92 k100 k104);have r141:v 141=0:=(E8 hs k6 k7 k8 k11 k12 k15 k17 k20 k21 k22 k25 k26 k29 k31 k35 k36 k37 k40 k41 k44 k46 k68 k74 k92 k100 k104);refine ⟨bO (oC A0 A2 A4 F51 F54 F60 F66 F78 F84 Q12 k119),?_⟩;intro x hx0;have hx':=dL (v:=v) (by rfl) hx0
   rw [hx'];show Value.tuple #[.agg #[.int .i64 (v 140),.int .i64 (v 141)],.int .i64 (v 139)]=_;rw [W,r139,r140,r141];rfl
 have k104:v 104=0:=by rw [(Fb hs),decide_eq_false g4];rfl
 by_cases g5:v 99 < -1073741824
 . have W:=rz nD g3 (.inr (by rw [eR];exact g5))
   have k105:v 105=1:=by rw [(F5 hs),decide_eq_true g5];rfl
   have k119:v 119=0:=(DX hs k6 k7 k8 k11 k12 k15 k17 k20 k21 k22 k25 k26 k29 k31 k35 k36 k37 k40 k41 k44 k46 k68 k74 k92 k100 k104 k105);have r139:v 139=12:=(AB hs k6 k7 k8 k11 k12 k15 k17 k20 k21 k22 k25 k26 k29 k31 k35 k36 k37 k40 k41 k44 k46 k68 k74 k92 k100 k104 k105);have r140:v 140=0:=(vK hs k6 k7 k8 k11 k12 k15 k17 k20 k21 k22 k25 k26 k29 k31 k35 k36 k37 k40 k41 k44 k46 k68 k74 k92 k100 k104 k105);have r141:v 141=0:=(BD hs k6 k7 k8 k11 k12 k15 k17 k20 k21 k22 k25 k26 k29 k31 k35 k36 k37 k40 k41 k44 k46 k68 k74 k92 k100 k104 k105);refine ⟨bO (oC A0 A2 A4 F51 F54 F60 F66 F78 F84 Q12 k119),?_⟩;intro x hx0;have hx':=dL (v:=v) (by rfl) hx0
   rw [hx'];show Value.tuple #[.agg #[.int .i64 (v 140),.int .i64 (v 141)],.int .i64 (v 139)]=_;rw [W,r139,r140,r141];rfl
 have k105:v 105=0:=by rw [(F5 hs),decide_eq_false g5];rfl
 have W:=afl nD g3 (show ¬ (haQ (v 0) (v 1) (v 2) (v 3) (v 4) (v 5)>1073741824∨haR (v 0) (v 1) (v 2) (v 3) (v 4) (v 5) < -1073741824) by rw [eQ,eR];omega)
 have w123:v 123=max (v 98) (-1073741824):=by rw [(afH hs)];split<;>omega
 have w124:v 124=min (v 99) 1073741824:=by rw [(afC hs)];split<;>omega
 have le1:=le.1;have Q46:fxV (v 123) (v 124)=true/\v 123<=1073741824/\-1073741824<=v 124:=⟨(cZ _ _).2 (by rw [w123,w124];omega),by rw [w123];omega,by rw [w124];omega⟩
 have y125:v 125=jJ (v 124):=(afE hs);have y126:v 126=jc (v 123):=(afz hs);have r139:v 139=0:=(zh hs k6 k7 k8 k11 k12 k15 k17 k20 k21 k22 k25 k26 k29 k31 k35 k36 k37 k40 k41 k44 k46 k68 k74 k92 k100 k104 k105);have r140:v 140=v 125:=(DL hs k6 k7 k8 k11 k12 k15 k17 k20 k21 k22 k25 k26 k29 k31 k35 k36 k37 k40 k41 k44 k46 k68 k74 k92 k100 k104 k105);have r141:v 141=v 126:=(zm hs k6 k7 k8 k11 k12 k15 k17 k20 k21 k22 k25 k26 k29 k31 k35 k36 k37 k40 k41 k44 k46 k68 k74 k92 k100 k104 k105);refine ⟨bO (ahF A0 A2 A4 F51 F54 F60 F66 F78 F84 Q12 Q46),?_⟩;intro x hx0;have hx':=dL (v:=v) (by rfl) hx0
 rw [hx'];show Value.tuple #[.agg #[.int .i64 (v 140),.int .i64 (v 141)],.int .i64 (v 139)]=_;rw [W,r139,r140,r141,y125,y126,w123,w124,eQ,eR];rfl
