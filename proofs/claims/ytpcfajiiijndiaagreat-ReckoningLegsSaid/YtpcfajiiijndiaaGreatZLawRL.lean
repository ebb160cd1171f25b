/- The law ReckoningLegs. -/
import Derived.Test.YtpcfajiiijndiaaGreatZAw46
import Derived.Test.YtpcfajiiijndiaaGreatZSpN
set_option linter.unusedVariables false
set_option linter.unusedSimpArgs false
set_option maxRecDepth 100000
namespace Go.Proofs.YtpcfajiiijndiaaGreat
open Go.RowKit Alm Sx
def Dt:Sx.Spec:=⟨7,20,[],[(false,[none])]⟩
theorem yG (args:List Int):∀ s∈[Dt],bg Tryz.prog (cxB args) s:=by
 intro s hs;rcases List.mem_cons.1 hs with rfl|h
 . refine ⟨ours _ _ _ Tryz.func7 rfl (by kernel_rfl),fun xs hp w=>?_⟩
   have hp':preB 20 xs:=hp;rw [GJ hp'];exact xG w
 . cases h
def DR:Ext:=fun _ x=>match x with
 | .app 20 0 []=>some (.c 1)
 | _=>none
theorem bT (args:List Int):gN (cxB args) DR:=by
 intro v t x r ht hx;unfold DR at hx;split at hx
 . cases hx;rfl
 . cases hx
def bn:List Nd:=[
 .arg 0,
 .arg 1,
 .arg 2,
 .arg 3,
 .arg 4,
 .arg 5,
 .arg 6,
 .arg 7,
 .app 20 0 [],
 .ite (.n 8) (.c 0) (.c 1),
 .ite (.n 9) (.c 0) (.c 1),
 .bin .geq .i64 (.n 2) (.c 0),
 .bin .leq .i64 (.n 2) (.n 3),
 .ite (.n 11) (.n 12) (.c 0),
 .bin .leq .i64 (.n 3) (.c 200000),
 .ite (.n 13) (.n 14) (.c 0),
 .ite (.n 15) (.c 0) (.c 1),
 .bin .leq .i64 (.n 0) (.n 1),
 .bin .geq .i64 (.n 0) (.c (-1099511627776)),
 .bin .leq .i64 (.n 0) (.c 1099511627776),
 .ite (.n 18) (.n 19) (.c 0),
 .ite (.n 17) (.n 20) (.c 0),
 .bin .geq .i64 (.n 1) (.c (-1099511627776)),
 .bin .leq .i64 (.n 1) (.c 1099511627776),
 .ite (.n 22) (.n 23) (.c 0),
 .ite (.n 21) (.n 24) (.c 0),
 .ite (.n 25) (.c 0) (.c 1),
 .ite (.n 16) (.c 1) (.n 26),
 .bin .leq .i64 (.n 4) (.n 5),
 .bin .geq .i64 (.n 4) (.c (-70368744177664)),
 .bin .leq .i64 (.n 4) (.c 70368744177664),
 .ite (.n 29) (.n 30) (.c 0),
 .ite (.n 28) (.n 31) (.c 0),
 .bin .geq .i64 (.n 5) (.c (-70368744177664)),
 .bin .leq .i64 (.n 5) (.c 70368744177664),
 .ite (.n 33) (.n 34) (.c 0),
 .ite (.n 32) (.n 35) (.c 0),
 .ite (.n 36) (.c 0) (.c 1),
 .ite (.n 27) (.c 1) (.n 37),
 .bin .leq .i64 (.n 6) (.n 7),
 .bin .geq .i64 (.n 6) (.c (-70368744177664)),
 .bin .leq .i64 (.n 6) (.c 70368744177664),
 .ite (.n 40) (.n 41) (.c 0),
 .ite (.n 39) (.n 42) (.c 0),
 .bin .geq .i64 (.n 7) (.c (-70368744177664)),
 .bin .leq .i64 (.n 7) (.c 70368744177664),
 .ite (.n 44) (.n 45) (.c 0),
 .ite (.n 43) (.n 46) (.c 0),
 .ite (.n 47) (.c 0) (.c 1),
 .ite (.n 38) (.c 1) (.n 48),
 .bin .lss .i64 (.n 7) (.n 4),
 .bin .sub .i64 (.n 7) (.n 4),
 .bin .gtr .i64 (.n 51) (.c 34560000000),
 .ite (.n 52) (.c 0) (.c 1),
 .ite (.n 50) (.c 0) (.c 1),
 .ite (.n 54) (.n 53) (.c 0),
 .ite (.n 54) (.n 52) (.c 0),
 .ite (.n 50) (.c 1) (.n 56),
 .ite (.n 50) (.c 17) (.c 2),
 .ite (.n 49) (.c 0) (.c 1),
 .ite (.n 59) (.n 55) (.c 0),
 .ite (.n 59) (.n 57) (.c 0),
 .ite (.n 49) (.c 1) (.n 61),
 .ite (.n 49) (.c 1) (.n 58),
 .bin .sub .i64 (.n 6) (.n 5),
 .mx (.c 0) (.n 64),
 .bin .mul .i64 (.n 2) (.n 65),
 .bin .quo .i64 (.n 66) (.c 3600000),
 .bin .mul .i64 (.n 3) (.n 51),
 .bin .add .i64 (.n 68) (.c 3600000),
 .bin .sub .i64 (.n 69) (.c 1),
 .bin .quo .i64 (.n 70) (.c 3600000),
 .ite (.n 62) (.c 1) (.n 60),
 .ite (.n 62) (.n 63) (.c 0),
 .ite (.n 62) (.c 0) (.n 0),
 .ite (.n 62) (.c 0) (.n 1),
 .ite (.n 62) (.c 0) (.n 67),
 .ite (.n 62) (.c 0) (.n 71),
 .ite (.n 12) (.n 11) (.c 0),
 .ite (.n 78) (.n 14) (.c 0),
 .ite (.n 17) (.n 18) (.c 0),
 .ite (.n 80) (.n 23) (.c 0),
 .ite (.n 79) (.n 81) (.c 0),
 .ite (.n 82) (.c 0) (.c 1),
 .ite (.n 83) (.c 1) (.n 37),
 .ite (.n 84) (.c 1) (.n 48),
 .ite (.n 85) (.c 0) (.c 1),
 .bin .rem .i64 (.n 66) (.c 3600000),
 .bin .lss .i64 (.n 87) (.c 0),
 .bin .sub .i64 (.n 67) (.c 1),
 .ite (.n 88) (.c 0) (.c 1),
 .ite (.n 88) (.n 89) (.n 67),
 .bin .quo .i64 (.n 68) (.c 3600000),
 .bin .rem .i64 (.n 68) (.c 3600000),
 .bin .gtr .i64 (.n 93) (.c 0),
 .bin .add .i64 (.n 92) (.c 1),
 .ite (.n 94) (.c 0) (.c 1),
 .ite (.n 94) (.n 95) (.n 92),
 .ite (.n 52) (.c 2) (.c 0),
 .ite (.n 52) (.c 0) (.n 0),
 .ite (.n 52) (.c 0) (.n 1),
 .ite (.n 52) (.c 0) (.n 91),
 .ite (.n 52) (.c 0) (.n 97),
 .ite (.n 50) (.c 17) (.n 98),
 .ite (.n 50) (.c 0) (.n 99),
 .ite (.n 50) (.c 0) (.n 100),
 .ite (.n 50) (.c 0) (.n 101),
 .ite (.n 50) (.c 0) (.n 102),
 .ite (.n 85) (.c 1) (.n 103),
 .ite (.n 85) (.c 0) (.n 104),
 .ite (.n 85) (.c 0) (.n 105),
 .ite (.n 85) (.c 0) (.n 106),
 .ite (.n 85) (.c 0) (.n 107),
 .bin .eql .i64 (.n 74) (.n 109),
 .bin .eql .i64 (.n 75) (.n 110),
 .bin .eql .i64 (.n 76) (.n 111),
 .bin .eql .i64 (.n 77) (.n 112),
 .ite (.n 115) (.n 116) (.c 0),
 .ite (.n 114) (.n 117) (.c 0),
 .ite (.n 113) (.n 118) (.c 0),
 .bin .eql .i64 (.n 73) (.n 108),
 .ite (.n 119) (.n 120) (.c 0),
 .ite (.n 9) (.c 0) (.n 121)]
def Fx:List Vc:=[
 ⟨[],.pre 20 []⟩]
theorem Fy:whole Tryz.prog [Dt] 20 40 3 [(true,[some .i64,some .i64,some .i64,some .i64]),(true,[some .i64,some .i64]),(true,[some .i64,some .i64])]=some (.p (.c (.bool (.n 122))),⟨bn.reverse,Fx.reverse⟩):=by kernel_rfl
theorem Ej:wfN bn.reverse=true:=by kernel_rfl
theorem Ca {args:List Int} {v:Nat->Int} (hs:bD (cxB args) v bn.reverse) (h11:v 11=0):v 122=1:=av (X:=cxB args) (v:=v) (l:=bn) (bT args) hs (k:=122) (r:=.c 1) (ps:=[(11,.c 0)]) (nz:=[]) (af h11 aG) aB (by kernel_rfl)
theorem BU {args:List Int} {v:Nat->Int} (hs:bD (cxB args) v bn.reverse) (h11:v 11=1) (h12:v 12=0):v 122=1:=av (X:=cxB args) (v:=v) (l:=bn) (bT args) hs (k:=122) (r:=.c 1) (ps:=[(11,.c 1),(12,.c 0)]) (nz:=[]) (af h11 (af h12 aG)) aB (by kernel_rfl)
theorem CJ {args:List Int} {v:Nat->Int} (hs:bD (cxB args) v bn.reverse) (h11:v 11=1) (h12:v 12=1) (h14:v 14=0):v 122=1:=av (X:=cxB args) (v:=v) (l:=bn) (bT args) hs (k:=122) (r:=.c 1) (ps:=[(11,.c 1),(12,.c 1),(14,.c 0)]) (nz:=[]) (af h11 (af h12 (af h14 aG))) aB (by kernel_rfl)
theorem BM {args:List Int} {v:Nat->Int} (hs:bD (cxB args) v bn.reverse) (h11:v 11=1) (h12:v 12=1) (h14:v 14=1) (h17:v 17=0):v 122=1:=av (X:=cxB args) (v:=v) (l:=bn) (bT args) hs (k:=122) (r:=.c 1) (ps:=[(11,.c 1),(12,.c 1),(14,.c 1),(17,.c 0)]) (nz:=[]) (af h11 (af h12 (af h14 (af h17 aG)))) aB (by kernel_rfl)
theorem Cj {args:List Int} {v:Nat->Int} (hs:bD (cxB args) v bn.reverse) (h11:v 11=1) (h12:v 12=1) (h14:v 14=1) (h17:v 17=1) (h18:v 18=0):v 122=1:=av (X:=cxB args) (v:=v) (l:=bn) (bT args) hs (k:=122) (r:=.c 1) (ps:=[(11,.c 1),(12,.c 1),(14,.c 1),(17,.c 1),(18,.c 0)]) (nz:=[]) (af h11 (af h12 (af h14 (af h17 (af h18 aG))))) aB (by kernel_rfl)
theorem CK {args:List Int} {v:Nat->Int} (hs:bD (cxB args) v bn.reverse) (h11:v 11=1) (h12:v 12=1) (h14:v 14=1) (h17:v 17=1) (h18:v 18=1) (h23:v 23=0):v 122=1:=av (X:=cxB args) (v:=v) (l:=bn) (bT args) hs (k:=122) (r:=.c 1) (ps:=[(11,.c 1),(12,.c 1),(14,.c 1),(17,.c 1),(18,.c 1),(23,.c 0)]) (nz:=[]) (af h11 (af h12 (af h14 (af h17 (af h18 (af h23 aG)))))) aB (by kernel_rfl)
theorem Dl {args:List Int} {v:Nat->Int} (hs:bD (cxB args) v bn.reverse) (h11:v 11=1) (h12:v 12=1) (h14:v 14=1) (h17:v 17=1) (h18:v 18=1) (h19:v 19=1) (h22:v 22=1) (h23:v 23=1) (h36:v 36=0):v 122=1:=av (X:=cxB args) (v:=v) (l:=bn) (bT args) hs (k:=122) (r:=.c 1) (ps:=[(11,.c 1),(12,.c 1),(14,.c 1),(17,.c 1),(18,.c 1),(19,.c 1),(22,.c 1),(23,.c 1),(36,.c 0)]) (nz:=[]) (af h11 (af h12 (af h14 (af h17 (af h18 (af h19 (af h22 (af h23 (af h36 aG))))))))) aB (by kernel_rfl)
theorem Bg {args:List Int} {v:Nat->Int} (hs:bD (cxB args) v bn.reverse) (h11:v 11=1) (h12:v 12=1) (h14:v 14=1) (h17:v 17=1) (h18:v 18=1) (h19:v 19=1) (h22:v 22=1) (h23:v 23=1) (h36:v 36=1) (h47:v 47=0):v 122=1:=av (X:=cxB args) (v:=v) (l:=bn) (bT args) hs (k:=122) (r:=.c 1) (ps:=[(11,.c 1),(12,.c 1),(14,.c 1),(17,.c 1),(18,.c 1),(19,.c 1),(22,.c 1),(23,.c 1),(36,.c 1),(47,.c 0)]) (nz:=[]) (af h11 (af h12 (af h14 (af h17 (af h18 (af h19 (af h22 (af h23 (af h36 (af h47 aG)))))))))) aB (by kernel_rfl)
theorem Di {args:List Int} {v:Nat->Int} (hs:bD (cxB args) v bn.reverse) (h11:v 11=1) (h12:v 12=1) (h14:v 14=1) (h17:v 17=1) (h18:v 18=1) (h19:v 19=1) (h22:v 22=1) (h23:v 23=1) (h36:v 36=1) (h47:v 47=1) (h50:v 50=1):v 122=1:=av (X:=cxB args) (v:=v) (l:=bn) (bT args) hs (k:=122) (r:=.c 1) (ps:=[(11,.c 1),(12,.c 1),(14,.c 1),(17,.c 1),(18,.c 1),(19,.c 1),(22,.c 1),(23,.c 1),(36,.c 1),(47,.c 1),(50,.c 1)]) (nz:=[]) (af h11 (af h12 (af h14 (af h17 (af h18 (af h19 (af h22 (af h23 (af h36 (af h47 (af h50 aG))))))))))) aB (by kernel_rfl)
theorem Aw {args:List Int} {v:Nat->Int} (hs:bD (cxB args) v bn.reverse) (h11:v 11=1) (h12:v 12=1) (h14:v 14=1) (h17:v 17=1) (h18:v 18=1) (h19:v 19=1) (h22:v 22=1) (h23:v 23=1) (h36:v 36=1) (h47:v 47=1) (h50:v 50=0) (h52:v 52=1):v 122=1:=av (X:=cxB args) (v:=v) (l:=bn) (bT args) hs (k:=122) (r:=.c 1) (ps:=[(11,.c 1),(12,.c 1),(14,.c 1),(17,.c 1),(18,.c 1),(19,.c 1),(22,.c 1),(23,.c 1),(36,.c 1),(47,.c 1),(50,.c 0),(52,.c 1)]) (nz:=[]) (af h11 (af h12 (af h14 (af h17 (af h18 (af h19 (af h22 (af h23 (af h36 (af h47 (af h50 (af h52 aG)))))))))))) aB (by kernel_rfl)
theorem Fj {args:List Int} {v:Nat->Int} (hs:bD (cxB args) v bn.reverse) (h11:v 11=1) (h12:v 12=1) (h14:v 14=1) (h17:v 17=1) (h18:v 18=1) (h19:v 19=1) (h22:v 22=1) (h23:v 23=1) (h36:v 36=1) (h47:v 47=1) (h50:v 50=0) (h52:v 52=0) (h91:v 91=v 67) (h97:v 97=v 71):v 122=1:=av (X:=cxB args) (v:=v) (l:=bn) (bT args) hs (k:=122) (r:=.c 1) (ps:=[(11,.c 1),(12,.c 1),(14,.c 1),(17,.c 1),(18,.c 1),(19,.c 1),(22,.c 1),(23,.c 1),(36,.c 1),(47,.c 1),(50,.c 0),(52,.c 0),(91,.n 67),(97,.n 71)]) (nz:=[]) (af h11 (af h12 (af h14 (af h17 (af h18 (af h19 (af h22 (af h23 (af h36 (af h47 (af h50 (af h52 (af h91 (af h97 aG)))))))))))))) aB (by kernel_rfl)
theorem AO {x q r c s w:Int} (h0:0<=x/\x<=9000000000000000) (eq:q=IntKind.i64.wrap (Int.tdiv x 3600000)) (er:r=Int.tmod x 3600000) (ec:c=b2i (decide (r<0))) (ew:w=if c≠0 then s else q):w=q:=by
 rw [Int.tmod_eq_emod_of_nonneg h0.1] at er;have:¬ r<0:=by omega
 rw [ec,decide_eq_false this] at ew;rw [ew,if_neg (by decide)]
theorem CX {x y z q q2 r c s w:Int} (h0:0<=x/\x<=9000000000000000) (ey:y=IntKind.i64.wrap (x+3600000)) (ez:z=IntKind.i64.wrap (y-1)) (eq:q=IntKind.i64.wrap (Int.tdiv z 3600000)) (eq2:q2=IntKind.i64.wrap (Int.tdiv x 3600000)) (er:r=Int.tmod x 3600000) (ec:c=b2i (decide (r>0))) (es:s=IntKind.i64.wrap (q2+1)) (ew:w=if c≠0 then s else q2):w=q:=by
 rw [Int.tmod_eq_emod_of_nonneg h0.1] at er;rw [Go.IntWalk.i64_in _ (by omega)] at ey
 subst ey;rw [Go.IntWalk.i64_in _ (by omega)] at ez
 subst ez;rw [Int.tdiv_eq_ediv_of_nonneg (by omega),Go.IntWalk.i64_in _ (by omega)] at eq
 rw [Int.tdiv_eq_ediv_of_nonneg h0.1,Go.IntWalk.i64_in _ (by omega)] at eq2
 rw [eq2,Go.IntWalk.i64_in _ (by omega)] at es
 by_cases hr:r>0
 . rw [ec,decide_eq_true hr,if_pos (by decide)] at ew
   omega
 . rw [ec,decide_eq_false hr,if_neg (by decide)] at ew
   omega
theorem wY {s t:Int} (hs:0<=s/\s<=200000) (ht:0<=t/\t<=34560000000):0<=s*t/\s*t<=6912000000000000:=by
 have a:=Int.mul_nonneg hs.1 ht.1;have b:=Int.mul_le_mul hs.2 ht.2 ht.1 (by omega)
 omega
theorem dJ {z:Int} {q:Prop} [Decidable q] (h:z=b2i (decide q)):(z=1/\q)∨(z=0/\¬ q):=by
 by_cases k:q
 . left;exact ⟨by rw [h,decide_eq_true k];rfl,k⟩
 . right;exact ⟨by rw [h,decide_eq_false k];rfl,k⟩
theorem FQ {z:Int} {q:Prop} [Decidable q] (h:z=b2i (decide q)):z=1∨z=0:=by
 rcases dJ h with h|h
 . exact .inl h.1
 . exact .inr h.1
theorem qG {a b c:Int} (hb:b=1∨b=0) (h:c=if a≠0 then b else 0):c=1∨c=0:=by
 split at h
 . rcases hb with h1|h1
   . exact .inl (h.trans h1)
   . exact .inr (h.trans h1)
 . exact .inr h
theorem qh {a b c:Int} (h:c=if a≠0 then b else 0) (hc:c≠0):a≠0/\b≠0:=by
 split at h
 . rename_i k;exact ⟨k,fun e=>hc (h.trans e)⟩
 . exact absurd h hc
theorem uO {z:Int} {q:Prop} [Decidable q] (h:z=b2i (decide q)) (hz:z≠0):q:=by
 rcases dJ h with h|h
 . exact h.2
 . exact absurd h.1 hz
theorem Eb {l h x28 x29 x30 x31 x32 x33 x34 x35 x36:Int} (e28:x28=b2i (decide (l<=h))) (e29:x29=b2i (decide (l>=(-70368744177664:Int)))) (e30:x30=b2i (decide (l<=(70368744177664:Int)))) (e31:x31=if x29≠0 then x30 else 0) (e32:x32=if x28≠0 then x31 else 0)
 (e33:x33=b2i (decide (h>=(-70368744177664:Int)))) (e34:x34=b2i (decide (h<=(70368744177664:Int)))) (e35:x35=if x33≠0 then x34 else 0) (e36:x36=if x32≠0 then x35 else 0) (h36:x36=1):l<=h/\-70368744177664<=l/\h<=70368744177664:=by
 have a:=qh e36 (by omega)
 have b:=qh e32 a.1;have c:=qh e31 b.2;have d:=qh e35 a.2;exact ⟨uO e28 b.1,uO e29 c.1,uO e34 d.2⟩
theorem BC (a0 a1 a2 a3 a4 a5 a6 a7:Int) (w:World):Calls Tryz.prog 3 #[.agg #[.int .i64 a0,.int .i64 a1,.int .i64 a2,.int .i64 a3],.agg #[.int .i64 a4,.int .i64 a5],.agg #[.int .i64 a6,.int .i64 a7]] w fun e w'=>e=.returned (.bool true)/\Below w.heap.size w w':=by
 refine Sx.calls (X:=cxB [a0,a1,a2,a3,a4,a5,a6,a7]) fB (yG _) Fy Ej (fun v hs=>?_) w
 have Z:v 122=1:=by
  have e11:v 11=b2i (decide (v 2>=(0:Int))):=ai hs 11 rfl;have e12:v 12=b2i (decide (v 2<=v 3)):=ai hs 12 rfl;have e14:v 14=b2i (decide (v 3<=(200000:Int))):=ai hs 14 rfl;have e17:v 17=b2i (decide (v 0<=v 1)):=ai hs 17 rfl;have e18:v 18=b2i (decide (v 0>=(-1099511627776:Int))):=ai hs 18 rfl;have e23:v 23=b2i (decide (v 1<=(1099511627776:Int))):=ai hs 23 rfl;rcases dJ e11 with ⟨h11,g11⟩|⟨h11,g11⟩
  rotate_left
  . exact Ca hs h11
  rcases dJ e12 with ⟨h12,g12⟩|⟨h12,g12⟩
  rotate_left
  . exact BU hs h11 h12
  rcases dJ e14 with ⟨h14,g14⟩|⟨h14,g14⟩
  rotate_left
  . exact CJ hs h11 h12 h14
  rcases dJ e17 with ⟨h17,g17⟩|⟨h17,g17⟩
  rotate_left
  . exact BM hs h11 h12 h14 h17
  rcases dJ e18 with ⟨h18,g18⟩|⟨h18,g18⟩
  rotate_left
  . exact Cj hs h11 h12 h14 h17 h18
  rcases dJ e23 with ⟨h23,g23⟩|⟨h23,g23⟩
  rotate_left
  . exact CK hs h11 h12 h14 h17 h18 h23
  have e19:v 19=b2i (decide (v 0<=(1099511627776:Int))):=ai hs 19 rfl;have e22:v 22=b2i (decide (v 1>=(-1099511627776:Int))):=ai hs 22 rfl;have h19:v 19=1:=by rw [e19,decide_eq_true (by omega)];rfl
  have h22:v 22=1:=by rw [e22,decide_eq_true (by omega)];rfl
  have e28:v 28=b2i (decide (v 4<=v 5)):=ai hs 28 rfl;have e29:v 29=b2i (decide (v 4>=(-70368744177664:Int))):=ai hs 29 rfl;have e30:v 30=b2i (decide (v 4<=(70368744177664:Int))):=ai hs 30 rfl;have e31:v 31=if v 29≠0 then v 30 else (0:Int):=ai hs 31 rfl
  have e32:v 32=if v 28≠0 then v 31 else (0:Int):=ai hs 32 rfl
  have e33:v 33=b2i (decide (v 5>=(-70368744177664:Int))):=ai hs 33 rfl;have e34:v 34=b2i (decide (v 5<=(70368744177664:Int))):=ai hs 34 rfl;have e35:v 35=if v 33≠0 then v 34 else (0:Int):=ai hs 35 rfl
  have e36:v 36=if v 32≠0 then v 35 else (0:Int):=ai hs 36 rfl
  have e39:v 39=b2i (decide (v 6<=v 7)):=ai hs 39 rfl;have e40:v 40=b2i (decide (v 6>=(-70368744177664:Int))):=ai hs 40 rfl;have e41:v 41=b2i (decide (v 6<=(70368744177664:Int))):=ai hs 41 rfl;have e42:v 42=if v 40≠0 then v 41 else (0:Int):=ai hs 42 rfl
  have e43:v 43=if v 39≠0 then v 42 else (0:Int):=ai hs 43 rfl
  have e44:v 44=b2i (decide (v 7>=(-70368744177664:Int))):=ai hs 44 rfl;have e45:v 45=b2i (decide (v 7<=(70368744177664:Int))):=ai hs 45 rfl;have e46:v 46=if v 44≠0 then v 45 else (0:Int):=ai hs 46 rfl
  have e47:v 47=if v 43≠0 then v 46 else (0:Int):=ai hs 47 rfl
  rcases qG (qG (FQ e34) e35) e36 with h36|h36
  rotate_left
  . exact Dl hs h11 h12 h14 h17 h18 h19 h22 h23 h36
  rcases qG (qG (FQ e45) e46) e47 with h47|h47
  rotate_left
  . exact Bg hs h11 h12 h14 h17 h18 h19 h22 h23 h36 h47
  have G36:=Eb e28 e29 e30 e31 e32 e33 e34 e35 e36 h36;have G47:=Eb e39 e40 e41 e42 e43 e44 e45 e46 e47 h47;have e50:v 50=b2i (decide (v 7<v 4)):=ai hs 50 rfl;have e51:v 51=IntKind.i64.wrap (v 7-v 4):=ai hs 51 rfl;have e52:v 52=b2i (decide (v 51>(34560000000:Int))):=ai hs 52 rfl;rcases dJ e50 with ⟨h50,g50⟩|⟨h50,g50⟩
  . exact Di hs h11 h12 h14 h17 h18 h19 h22 h23 h36 h47 h50
  rw [Go.IntWalk.i64_in _ (by omega)] at e51
  rcases dJ e52 with ⟨h52,g52⟩|⟨h52,g52⟩
  . exact Aw hs h11 h12 h14 h17 h18 h19 h22 h23 h36 h47 h50 h52
  have e64:v 64=IntKind.i64.wrap (v 6-v 5):=ai hs 64 rfl;have e65:v 65=if v 64>(0:Int) then v 64 else (0:Int):=ai hs 65 rfl
  have e66:v 66=IntKind.i64.wrap (v 2*v 65):=ai hs 66 rfl;have e68:v 68=IntKind.i64.wrap (v 3*v 51):=ai hs 68 rfl;rw [Go.IntWalk.i64_in _ (by omega)] at e64
  have m1:=wY (s:=v 2) (t:=v 65) ⟨g11,by omega⟩ (by omega)
  have m2:=wY (s:=v 3) (t:=v 51) (by omega) (by omega)
  rw [Go.IntWalk.i64_in _ (by omega)] at e66 e68
  have e67:v 67=IntKind.i64.wrap (Int.tdiv (v 66) ((3600000:Int))):=ai hs 67 rfl;have e87:v 87=Int.tmod (v 66) ((3600000:Int)):=ai hs 87 rfl;have e88:v 88=b2i (decide (v 87<(0:Int))):=ai hs 88 rfl;have e91:v 91=if v 88≠0 then v 89 else v 67:=ai hs 91 rfl
  have e69:v 69=IntKind.i64.wrap (v 68+(3600000:Int)):=ai hs 69 rfl;have e70:v 70=IntKind.i64.wrap (v 69-(1:Int)):=ai hs 70 rfl;have e71:v 71=IntKind.i64.wrap (Int.tdiv (v 70) ((3600000:Int))):=ai hs 71 rfl;have e92:v 92=IntKind.i64.wrap (Int.tdiv (v 68) ((3600000:Int))):=ai hs 92 rfl;have e93:v 93=Int.tmod (v 68) ((3600000:Int)):=ai hs 93 rfl;have e94:v 94=b2i (decide (v 93>(0:Int))):=ai hs 94 rfl;have e95:v 95=IntKind.i64.wrap (v 92+(1:Int)):=ai hs 95 rfl;have e97:v 97=if v 94≠0 then v 95 else v 92:=ai hs 97 rfl
  have h91:v 91=v 67:=AO (by rw [e66];omega) e67 e87 e88 e91
  have h97:v 97=v 71:=CX (by rw [e68];omega) e69 e70 e71 e92 e93 e94 e95 e97
  exact Fj hs h11 h12 h14 h17 h18 h19 h22 h23 h36 h47 h50 h52 h91 h97
 refine ⟨iD ?_,?_⟩
 . exact bG (fun _=>trivial) il
 . intro x hx;have hx':x=.bool (decide (v 122≠0)):=hx;rw [hx',Z];rfl
