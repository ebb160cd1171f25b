/- The place that is reached by a rhumb line, reckoned at known numbers. -/
import Derived.Test.YtgmncdmcdgkodaaGreatZRgn
import Derived.Test.YtgmncdmcdgkodaaGreatZQoP
import Derived.Test.YtgmncdmcdgkodaaGreatZEv
set_option linter.unusedVariables false
set_option linter.unusedSimpArgs false
set_option maxRecDepth 100000
namespace Sx
open Go Go.RowKit
def dead (s:Ns):Path->Bool
 | []=>false
 | (r,b)::l=>(match s.rep r with|.c z=>decide (z≠0) != b|.n _=>false) || dead s l
theorem xY {X:Cx} {v:Nat->Int} {s:Ns} (h:oZ X v s):∀ p:Path,dead s p=true->¬ PT v p
 | [],hd=>fun _=>by cases hd
 | (r,b)::l,hd=>fun hp=>by
  simp only [dead,Bool.or_eq_true] at hd;rcases hd with hd|hd
  . have h1:=hp (r,b) (List.mem_cons_self ..);have h2:=gJ h r;split at hd
    . rename_i z hz
      rw [hz] at h2;have h3:z=r.val v:=h2;rw [<-h3] at h1;rw [h1] at hd;simp at hd
    . cases hd
  . exact xY h l hd (PT.cons.1 hp).2
def DL (pre:Nat->List Int->Bool) (s:Ns):List Vc->Bool
 | []=>true
 | c::l=>(dead s c.path || vcC pre s c)&&DL pre s l
theorem yw {X:Cx} {v:Nat->Int} {s:Ns} (h:oZ X v s) {pre:Nat->List Int->Bool} (hp:∀ f xs,pre f xs=true->X.pre f xs):∀ (l:List Vc),DL pre s l=true->∀ c∈l,c.holds X v
 | [],_=>fun c hc=>by cases hc
 | c::l,ha=>by
  simp only [DL,Bool.and_eq_true,Bool.or_eq_true] at ha;intro d hd;rcases List.mem_cons.1 hd with rfl|hd
  . rcases ha.1 with h1|h1
    . exact fun hq=>absurd hq (xY h _ h1)
    . exact xq h hp [d] (by simp [Ct,h1]) d (List.mem_cons_self ..)
  . exact yw h hp l ha.2 d hd
def evP (sem:Nat->List Int->List Int) (pre:Nat->List Int->Bool) (nd:List Nd) (ps:List (Nat × Rf)) (vs:List Vc) (ks:List (Nat × Int)):Bool :=
 match norm (Gj sem) ps [] nd with
 | s=>ks.all (fun q=>Rf.eq (s.rep (.n q.1)) (.c q.2))&&DL pre s vs
theorem vW {X:Cx} {v:Nat->Int} {nd:List Nd} (hs:cK X v nd.reverse) {ps:List (Nat × Rf)} (hps:∀ q∈ps,v q.1=q.2.val v) {pre:Nat->List Int->Bool} (hp:∀ f xs,pre f xs=true->X.pre f xs) {vs:List Vc} {ks:List (Nat × Int)} (h:evP X.sem pre nd ps vs ks=true):(∀ q∈ks,v q.1=q.2)/\∀ c∈vs,c.holds X v:=by
 have n:=iU (xV X) hs hps aQ;unfold evP at h;simp only [Bool.and_eq_true,List.all_eq_true] at h;exact ⟨fun q hq=>aK (xV X) hs hps aQ (r:=.c q.2) (h.1 q hq),yw n hp _ h.2⟩
end Sx
namespace Go.Proofs.YtgmncdmcdgkodaaGreat
open Go.RowKit Alm Sx
def kW (f:Nat):Bool:=f==12 || f==98
def IR:Nat->List Int->List Int
 | 12,[a,b,c,d,n]=>[(qoV a b c d n).getD 0 0,(qoV a b c d n).getD 1 0,(qoV a b c d n).getD 2 0]
 | 98,[n]=>[((wpN n.toNat:Nat):Int)]
 | _,_=>[]
def He:Nat->List Int->Prop
 | 12,[a,b,c,d,n]=>qoP a b c d n
 | 98,[n]=>0<=n/\n<=5400000/\okW n.toNat=true
 | _,_=>False
def cxW (args:List Int):Cx:=(cxE args).plus kW IR He
def qF:Nat->List Int->Bool
 | 12,[a,b,c,d,n]=>fxV a b&&(fxV c d&&decide (0<=c/\0<=n/\n<=1073741824))
 | 98,[n]=>decide (0<=n/\n<=5400000)&&okW n.toNat
 | f,xs=>!kW f&&Ak f xs
theorem uA (args:List Int) (f:Nat) (xs:List Int) (h:qF f xs=true):(cxW args).pre f xs:=by
 show if kW f=true then He f xs else uq f xs
 unfold qF at h;split at h
 . simp only [Bool.and_eq_true] at h;exact ⟨h.1,h.2.1,of_decide_eq_true h.2.2⟩
 . simp only [Bool.and_eq_true] at h;have h1:=of_decide_eq_true h.1;exact ⟨h1.1,h1.2,h.2⟩
 . simp only [Bool.and_eq_true,Bool.not_eq_true'] at h;rw [if_neg (by rw [h.1];decide)]
   exact Cg _ _ h.2
def BH:Sx.Spec:=⟨57,12,[(true,[some .i64,some .i64]),(true,[some .i64,some .i64]),(false,[some .i64])],[(false,[some .i64]),(false,[some .i64]),(false,[some .i64])]⟩
def Ca:Sx.Spec:=⟨91,98,[(false,[some .i64])],[(false,[some .i64])]⟩
theorem zf (args:List Int):bD Tryz.prog (cxW args) BH:=by
 refine uD rfl (ours _ _ _ Tryz.func57 rfl (by kernel_rfl)) fun xs hp w=>?_
 match xs,hp with
 | [a,b,c,d,n],hp=>exact CY a b c d n w hp
theorem yJ (args:List Int):bD Tryz.prog (cxW args) Ca:=by
 refine uD rfl (ours _ _ _ Tryz.func91 rfl (by kernel_rfl)) fun xs hp w=>?_
 match xs,hp with
 | [n],hp =>
  obtain ⟨m,rfl⟩:=Int.eq_ofNat_of_zero_le hp.1;exact DK m (by have:=hp.2.1;omega) hp.2.2 w
def spW:List Sx.Spec:=[Ir,IA,Bo,BH,Ca]
theorem AQ (args:List Int):∀ s∈spW,bD Tryz.prog (cxW args) s:=by
 intro s hs;simp only [spW,List.mem_cons,List.not_mem_nil,or_false] at hs;rcases hs with rfl|rfl|rfl|rfl|rfl
 . exact nK rfl (Fa (by decide) (En args))
 . exact nK rfl (Fa (by decide) (Ec args))
 . exact nK rfl (zH args)
 . exact zf args
 . exact yJ args
def fq:List Nd:=[
 .arg 0,
 .arg 1,
 .arg 2,
 .arg 3,
 .arg 4,
 .arg 5,
 .arg 6,
 .arg 7,
 .bin .leq .i64 (.n 0) (.n 1),
 .bin .geq .i64 (.n 0) (.c (-5400000)),
 .ite (.n 8) (.n 9) (.c 0),
 .bin .leq .i64 (.n 1) (.c 5400000),
 .ite (.n 10) (.n 11) (.c 0),
 .bin .eql .i64 (.n 2) (.c (-10800000)),
 .bin .eql .i64 (.n 3) (.c 10800000),
 .ite (.n 13) (.n 14) (.c 0),
 .bin .geq .i64 (.n 2) (.c (-10800000)),
 .bin .lss .i64 (.n 2) (.c 10800000),
 .ite (.n 16) (.n 17) (.c 0),
 .bin .leq .i64 (.n 2) (.n 3),
 .ite (.n 18) (.n 19) (.c 0),
 .bin .sub .i64 (.n 3) (.n 2),
 .bin .lss .i64 (.n 21) (.c 21600000),
 .ite (.n 20) (.n 22) (.c 0),
 .ite (.n 15) (.c 1) (.n 23),
 .ite (.n 12) (.n 24) (.c 0),
 .ite (.n 25) (.c 0) (.c 1),
 .bin .leq .i64 (.n 4) (.n 5),
 .bin .geq .i64 (.n 4) (.c (-1099511627776)),
 .bin .leq .i64 (.n 4) (.c 1099511627776),
 .ite (.n 28) (.n 29) (.c 0),
 .ite (.n 27) (.n 30) (.c 0),
 .bin .geq .i64 (.n 5) (.c (-1099511627776)),
 .bin .leq .i64 (.n 5) (.c 1099511627776),
 .ite (.n 32) (.n 33) (.c 0),
 .ite (.n 31) (.n 34) (.c 0),
 .ite (.n 35) (.c 0) (.c 1),
 .ite (.n 26) (.c 1) (.n 36),
 .bin .leq .i64 (.n 6) (.n 7),
 .bin .geq .i64 (.n 6) (.c (-1099511627776)),
 .bin .leq .i64 (.n 6) (.c 1099511627776),
 .ite (.n 39) (.n 40) (.c 0),
 .ite (.n 38) (.n 41) (.c 0),
 .bin .geq .i64 (.n 7) (.c (-1099511627776)),
 .bin .leq .i64 (.n 7) (.c 1099511627776),
 .ite (.n 43) (.n 44) (.c 0),
 .ite (.n 42) (.n 45) (.c 0),
 .ite (.n 46) (.c 0) (.c 1),
 .ite (.n 37) (.c 1) (.n 47),
 .bin .lss .i64 (.n 6) (.c 0),
 .ite (.n 48) (.c 1) (.n 49),
 .bin .gtr .i64 (.n 7) (.c 21600000),
 .ite (.n 50) (.c 1) (.n 51),
 .ite (.n 52) (.c 0) (.c 1),
 .bin .geq .i64 (.n 0) (.c (-5340000)),
 .bin .leq .i64 (.n 1) (.c 5340000),
 .ite (.n 54) (.n 55) (.c 0),
 .ite (.n 56) (.c 0) (.c 1),
 .app 5 0 [.n 4,.n 5],
 .app 5 1 [.n 4,.n 5],
 .app 5 2 [.n 4,.n 5],
 .app 6 0 [.n 4,.n 5],
 .app 6 1 [.n 4,.n 5],
 .app 6 2 [.n 4,.n 5],
 .bin .neq .i64 (.n 60) (.c 0),
 .bin .neq .i64 (.n 63) (.c 0),
 .ite (.n 64) (.c 1) (.n 65),
 .mx (.n 60) (.n 63),
 .ite (.n 66) (.c 0) (.c 1),
 .app 9 0 [.n 61,.n 62,.n 6],
 .app 9 1 [.n 61,.n 62,.n 6],
 .app 9 2 [.n 61,.n 62,.n 6],
 .bin .neq .i64 (.n 71) (.c 0),
 .ite (.n 72) (.c 0) (.c 1),
 .app 9 0 [.n 61,.n 62,.n 7],
 .app 9 1 [.n 61,.n 62,.n 7],
 .app 9 2 [.n 61,.n 62,.n 7],
 .bin .neq .i64 (.n 76) (.c 0),
 .ite (.n 77) (.c 0) (.c 1),
 .mn (.n 69) (.n 74),
 .mx (.n 70) (.n 75),
 .ite (.n 77) (.n 76) (.c 0),
 .ite (.n 77) (.c 0) (.n 79),
 .ite (.n 77) (.c 0) (.n 80),
 .ite (.n 72) (.n 71) (.n 81),
 .ite (.n 72) (.n 71) (.n 76),
 .ite (.n 72) (.c 0) (.n 82),
 .ite (.n 72) (.c 0) (.n 83),
 .app 9 0 [.n 58,.n 59,.n 6],
 .app 9 1 [.n 58,.n 59,.n 6],
 .app 9 2 [.n 58,.n 59,.n 6],
 .bin .neq .i64 (.n 90) (.c 0),
 .ite (.n 91) (.c 0) (.c 1),
 .app 9 0 [.n 58,.n 59,.n 7],
 .app 9 1 [.n 58,.n 59,.n 7],
 .app 9 2 [.n 58,.n 59,.n 7],
 .bin .neq .i64 (.n 95) (.c 0),
 .ite (.n 96) (.c 0) (.c 1),
 .mn (.n 88) (.n 93),
 .mx (.n 89) (.n 94),
 .ite (.n 96) (.n 95) (.c 0),
 .ite (.n 96) (.c 0) (.n 98),
 .ite (.n 96) (.c 0) (.n 99),
 .ite (.n 91) (.n 90) (.n 100),
 .ite (.n 91) (.n 90) (.n 95),
 .ite (.n 91) (.c 0) (.n 101),
 .ite (.n 91) (.c 0) (.n 102),
 .bin .neq .i64 (.n 84) (.c 0),
 .bin .neq .i64 (.n 103) (.c 0),
 .ite (.n 107) (.c 1) (.n 108),
 .mx (.n 84) (.n 103),
 .ite (.n 109) (.c 0) (.c 1),
 .bin .add .i64 (.n 0) (.n 86),
 .bin .add .i64 (.n 1) (.n 87),
 .bin .geq .i64 (.n 112) (.c (-5340000)),
 .bin .leq .i64 (.n 113) (.c 5340000),
 .ite (.n 114) (.n 115) (.c 0),
 .ite (.n 116) (.c 0) (.c 1),
 .mn (.n 0) (.n 112),
 .mx (.n 1) (.n 113),
 .app 6 0 [.n 118,.n 119],
 .app 6 1 [.n 118,.n 119],
 .app 6 2 [.n 118,.n 119],
 .bin .neq .i64 (.n 122) (.c 0),
 .ite (.n 123) (.c 0) (.c 1),
 .app 12 0 [.c 1073741824,.c 1073741824,.n 120,.n 121,.n 105],
 .app 12 1 [.c 1073741824,.c 1073741824,.n 120,.n 121,.n 105],
 .app 12 2 [.c 1073741824,.c 1073741824,.n 120,.n 121,.n 105],
 .bin .neq .i64 (.n 127) (.c 0),
 .ite (.n 128) (.c 0) (.c 1),
 .app 12 0 [.c 1073741824,.c 1073741824,.n 120,.n 121,.n 106],
 .app 12 1 [.c 1073741824,.c 1073741824,.n 120,.n 121,.n 106],
 .app 12 2 [.c 1073741824,.c 1073741824,.n 120,.n 121,.n 106],
 .bin .neq .i64 (.n 132) (.c 0),
 .ite (.n 133) (.c 0) (.c 1),
 .mn (.n 125) (.n 130),
 .mx (.n 126) (.n 131),
 .ite (.n 133) (.n 132) (.c 0),
 .ite (.n 133) (.c 0) (.n 135),
 .ite (.n 133) (.c 0) (.n 136),
 .ite (.n 128) (.n 127) (.n 137),
 .ite (.n 128) (.n 127) (.n 132),
 .ite (.n 128) (.c 0) (.n 138),
 .ite (.n 128) (.c 0) (.n 139),
 .bin .neq .i64 (.n 140) (.c 0),
 .ite (.n 144) (.c 0) (.c 1),
 .bin .gtr .i64 (.n 61) (.c 0),
 .bin .lss .i64 (.n 62) (.c 0),
 .ite (.n 146) (.c 1) (.n 147),
 .bin .leq .i64 (.n 112) (.c 5340000),
 .ite (.n 114) (.n 149) (.c 0),
 .ite (.n 150) (.c 0) (.c 1),
 .bin .sub .i64 (.c 0) (.n 112),
 .mx (.n 112) (.n 152),
 .app 98 0 [.n 153],
 .bin .eql .i64 (.n 112) (.c 0),
 .bin .lss .i64 (.n 112) (.c 0),
 .bin .sub .i64 (.c 0) (.n 154),
 .bin .sub .i64 (.n 157) (.c 1),
 .bin .add .i64 (.n 154) (.c 1),
 .ite (.n 156) (.c 0) (.c 1),
 .ite (.n 156) (.n 158) (.n 154),
 .ite (.n 156) (.n 157) (.n 159),
 .ite (.n 155) (.c 0) (.c 1),
 .ite (.n 155) (.c 0) (.n 161),
 .ite (.n 155) (.c 0) (.n 162),
 .ite (.n 151) (.c 2) (.c 0),
 .ite (.n 151) (.c 0) (.n 164),
 .ite (.n 151) (.c 0) (.n 165),
 .bin .geq .i64 (.n 113) (.c (-5340000)),
 .ite (.n 169) (.n 115) (.c 0),
 .ite (.n 170) (.c 0) (.c 1),
 .bin .sub .i64 (.c 0) (.n 113),
 .mx (.n 113) (.n 172),
 .app 98 0 [.n 173],
 .bin .eql .i64 (.n 113) (.c 0),
 .bin .lss .i64 (.n 113) (.c 0),
 .bin .sub .i64 (.c 0) (.n 174),
 .bin .sub .i64 (.n 177) (.c 1),
 .bin .add .i64 (.n 174) (.c 1),
 .ite (.n 176) (.c 0) (.c 1),
 .ite (.n 176) (.n 178) (.n 174),
 .ite (.n 176) (.n 177) (.n 179),
 .ite (.n 175) (.c 0) (.c 1),
 .ite (.n 175) (.c 0) (.n 181),
 .ite (.n 175) (.c 0) (.n 182),
 .ite (.n 171) (.c 2) (.c 0),
 .ite (.n 171) (.c 0) (.n 184),
 .ite (.n 171) (.c 0) (.n 185),
 .bin .leq .i64 (.n 0) (.c 5340000),
 .ite (.n 54) (.n 189) (.c 0),
 .ite (.n 190) (.c 0) (.c 1),
 .bin .sub .i64 (.c 0) (.n 0),
 .mx (.n 0) (.n 192),
 .app 98 0 [.n 193],
 .bin .eql .i64 (.n 0) (.c 0),
 .bin .lss .i64 (.n 0) (.c 0),
 .bin .sub .i64 (.c 0) (.n 194),
 .bin .sub .i64 (.n 197) (.c 1),
 .bin .add .i64 (.n 194) (.c 1),
 .ite (.n 196) (.c 0) (.c 1),
 .ite (.n 196) (.n 198) (.n 194),
 .ite (.n 196) (.n 197) (.n 199),
 .ite (.n 195) (.c 0) (.c 1),
 .ite (.n 195) (.c 0) (.n 201),
 .ite (.n 195) (.c 0) (.n 202),
 .ite (.n 191) (.c 2) (.c 0),
 .ite (.n 191) (.c 0) (.n 204),
 .ite (.n 191) (.c 0) (.n 205),
 .bin .geq .i64 (.n 1) (.c (-5340000)),
 .ite (.n 209) (.n 55) (.c 0),
 .ite (.n 210) (.c 0) (.c 1),
 .bin .sub .i64 (.c 0) (.n 1),
 .mx (.n 1) (.n 212),
 .app 98 0 [.n 213],
 .bin .eql .i64 (.n 1) (.c 0),
 .bin .lss .i64 (.n 1) (.c 0),
 .bin .sub .i64 (.c 0) (.n 214),
 .bin .sub .i64 (.n 217) (.c 1),
 .bin .add .i64 (.n 214) (.c 1),
 .ite (.n 216) (.c 0) (.c 1),
 .ite (.n 216) (.n 218) (.n 214),
 .ite (.n 216) (.n 217) (.n 219),
 .ite (.n 215) (.c 0) (.c 1),
 .ite (.n 215) (.c 0) (.n 221),
 .ite (.n 215) (.c 0) (.n 222),
 .ite (.n 211) (.c 2) (.c 0),
 .ite (.n 211) (.c 0) (.n 224),
 .ite (.n 211) (.c 0) (.n 225),
 .bin .sub .i64 (.n 167) (.n 228),
 .bin .sub .i64 (.n 188) (.n 207),
 .app 12 0 [.n 58,.n 59,.n 61,.n 62,.n 229],
 .app 12 1 [.n 58,.n 59,.n 61,.n 62,.n 229],
 .app 12 2 [.n 58,.n 59,.n 61,.n 62,.n 229],
 .bin .neq .i64 (.n 233) (.c 0),
 .ite (.n 234) (.c 0) (.c 1),
 .app 12 0 [.n 58,.n 59,.n 61,.n 62,.n 230],
 .app 12 1 [.n 58,.n 59,.n 61,.n 62,.n 230],
 .app 12 2 [.n 58,.n 59,.n 61,.n 62,.n 230],
 .bin .neq .i64 (.n 238) (.c 0),
 .ite (.n 239) (.c 0) (.c 1),
 .mn (.n 231) (.n 236),
 .mx (.n 232) (.n 237),
 .ite (.n 239) (.n 238) (.c 0),
 .ite (.n 239) (.c 0) (.n 241),
 .ite (.n 239) (.c 0) (.n 242),
 .ite (.n 234) (.n 233) (.n 243),
 .ite (.n 234) (.n 233) (.n 238),
 .ite (.n 234) (.c 0) (.n 244),
 .ite (.n 234) (.c 0) (.n 245),
 .bin .eql .i64 (.n 246) (.c 0),
 .bin .leq .i64 (.n 142) (.n 143),
 .bin .geq .i64 (.n 142) (.c (-1099511627776)),
 .bin .leq .i64 (.n 142) (.c 1099511627776),
 .ite (.n 252) (.n 253) (.c 0),
 .ite (.n 251) (.n 254) (.c 0),
 .bin .geq .i64 (.n 143) (.c (-1099511627776)),
 .bin .leq .i64 (.n 143) (.c 1099511627776),
 .ite (.n 256) (.n 257) (.c 0),
 .ite (.n 255) (.n 258) (.c 0),
 .ite (.n 259) (.c 0) (.c 1),
 .bin .leq .i64 (.n 248) (.n 249),
 .bin .geq .i64 (.n 248) (.c (-1099511627776)),
 .bin .leq .i64 (.n 248) (.c 1099511627776),
 .ite (.n 262) (.n 263) (.c 0),
 .ite (.n 261) (.n 264) (.c 0),
 .bin .geq .i64 (.n 249) (.c (-1099511627776)),
 .bin .leq .i64 (.n 249) (.c 1099511627776),
 .ite (.n 266) (.n 267) (.c 0),
 .ite (.n 265) (.n 268) (.c 0),
 .ite (.n 269) (.c 0) (.c 1),
 .ite (.n 260) (.c 1) (.n 270),
 .ite (.n 271) (.c 0) (.c 1),
 .mx (.n 142) (.n 248),
 .mn (.n 143) (.n 249),
 .bin .gtr .i64 (.n 273) (.n 274),
 .ite (.n 275) (.c 0) (.c 1),
 .ite (.n 275) (.c 23) (.c 0),
 .ite (.n 275) (.c 0) (.n 273),
 .ite (.n 275) (.c 0) (.n 274),
 .ite (.n 271) (.c 1) (.n 277),
 .ite (.n 271) (.c 0) (.n 278),
 .ite (.n 271) (.c 0) (.n 279),
 .bin .neq .i64 (.n 280) (.c 0),
 .ite (.n 283) (.c 0) (.c 1),
 .ite (.n 250) (.n 284) (.c 0),
 .ite (.n 250) (.n 283) (.c 0),
 .ite (.n 250) (.c 0) (.c 1),
 .ite (.n 285) (.c 1) (.n 287),
 .ite (.n 285) (.n 280) (.n 140),
 .ite (.n 285) (.n 281) (.n 142),
 .ite (.n 285) (.n 282) (.n 143),
 .ite (.n 148) (.n 288) (.c 0),
 .ite (.n 148) (.n 286) (.c 0),
 .ite (.n 148) (.c 0) (.c 1),
 .ite (.n 292) (.c 1) (.n 294),
 .ite (.n 292) (.n 289) (.n 140),
 .ite (.n 292) (.n 290) (.n 142),
 .ite (.n 292) (.n 291) (.n 143),
 .bin .add .i64 (.n 2) (.n 297),
 .bin .add .i64 (.n 3) (.n 298),
 .bin .sub .i64 (.n 300) (.n 299),
 .bin .geq .i64 (.n 301) (.c 21600000),
 .ite (.n 302) (.c 0) (.c 1),
 .bin .rem .i64 (.n 299) (.c 21600000),
 .bin .lss .i64 (.n 304) (.c 0),
 .bin .add .i64 (.n 304) (.c 21600000),
 .ite (.n 305) (.c 0) (.c 1),
 .ite (.n 305) (.n 306) (.n 304),
 .bin .geq .i64 (.n 308) (.c 10800000),
 .bin .sub .i64 (.n 308) (.c 21600000),
 .ite (.n 309) (.c 0) (.c 1),
 .ite (.n 309) (.n 310) (.n 308),
 .bin .add .i64 (.n 312) (.n 301),
 .ite (.n 302) (.c (-10800000)) (.n 312),
 .ite (.n 302) (.c 10800000) (.n 313),
 .ite (.n 293) (.c 1) (.n 295),
 .ite (.n 293) (.n 280) (.c 0),
 .ite (.n 293) (.n 280) (.n 296),
 .ite (.n 293) (.n 281) (.n 297),
 .ite (.n 293) (.n 282) (.n 298),
 .ite (.n 293) (.c 0) (.n 112),
 .ite (.n 293) (.c 0) (.n 113),
 .ite (.n 293) (.c 0) (.n 314),
 .ite (.n 293) (.c 0) (.n 315),
 .ite (.n 145) (.n 316) (.c 0),
 .ite (.n 144) (.c 1) (.n 325),
 .ite (.n 144) (.n 140) (.n 317),
 .ite (.n 144) (.n 140) (.n 318),
 .ite (.n 144) (.n 142) (.n 319),
 .ite (.n 144) (.n 143) (.n 320),
 .ite (.n 144) (.c 0) (.n 321),
 .ite (.n 144) (.c 0) (.n 322),
 .ite (.n 144) (.c 0) (.n 323),
 .ite (.n 144) (.c 0) (.n 324),
 .ite (.n 124) (.n 326) (.c 0),
 .ite (.n 123) (.c 1) (.n 335),
 .ite (.n 123) (.n 122) (.n 327),
 .ite (.n 123) (.n 122) (.n 328),
 .ite (.n 123) (.c 0) (.n 331),
 .ite (.n 123) (.c 0) (.n 332),
 .ite (.n 123) (.c 0) (.n 333),
 .ite (.n 123) (.c 0) (.n 334),
 .ite (.n 116) (.n 336) (.c 0),
 .ite (.n 117) (.c 1) (.n 343),
 .ite (.n 117) (.c 25) (.n 337),
 .ite (.n 117) (.n 84) (.n 338),
 .ite (.n 117) (.c 0) (.n 339),
 .ite (.n 117) (.c 0) (.n 340),
 .ite (.n 117) (.c 0) (.n 341),
 .ite (.n 117) (.c 0) (.n 342),
 .ite (.n 111) (.n 344) (.c 0),
 .ite (.n 109) (.c 1) (.n 351),
 .ite (.n 109) (.n 110) (.n 345),
 .ite (.n 109) (.n 84) (.n 346),
 .ite (.n 109) (.c 0) (.n 347),
 .ite (.n 109) (.c 0) (.n 348),
 .ite (.n 109) (.c 0) (.n 349),
 .ite (.n 109) (.c 0) (.n 350),
 .ite (.n 68) (.n 352) (.c 0),
 .ite (.n 66) (.c 1) (.n 359),
 .ite (.n 66) (.n 67) (.n 353),
 .ite (.n 66) (.n 60) (.n 354),
 .ite (.n 66) (.n 63) (.n 103),
 .ite (.n 66) (.c 0) (.n 355),
 .ite (.n 66) (.c 0) (.n 356),
 .ite (.n 66) (.c 0) (.n 357),
 .ite (.n 66) (.c 0) (.n 358),
 .ite (.n 56) (.n 360) (.c 0),
 .ite (.n 57) (.c 1) (.n 368),
 .ite (.n 57) (.c 2) (.n 361),
 .ite (.n 57) (.c 0) (.n 364),
 .ite (.n 57) (.c 0) (.n 365),
 .ite (.n 57) (.c 0) (.n 366),
 .ite (.n 57) (.c 0) (.n 367),
 .ite (.n 53) (.n 369) (.c 0),
 .ite (.n 52) (.c 1) (.n 375),
 .ite (.n 52) (.c 1) (.n 370),
 .ite (.n 52) (.c 0) (.n 371),
 .ite (.n 52) (.c 0) (.n 372),
 .ite (.n 52) (.c 0) (.n 373),
 .ite (.n 52) (.c 0) (.n 374)]
def fZ:List Vc:=[
 ⟨[(.n 56,true),(.n 53,true)],.pre 5 [.n 4,.n 5]⟩,
 ⟨[(.n 56,true),(.n 53,true)],.pre 6 [.n 4,.n 5]⟩,
 ⟨[(.n 68,true),(.n 56,true),(.n 53,true)],.pre 9 [.n 61,.n 62,.n 6]⟩,
 ⟨[(.n 73,true),(.n 68,true),(.n 56,true),(.n 53,true)],.pre 9 [.n 61,.n 62,.n 7]⟩,
 ⟨[(.n 68,true),(.n 56,true),(.n 53,true)],.pre 9 [.n 58,.n 59,.n 6]⟩,
 ⟨[(.n 92,true),(.n 68,true),(.n 56,true),(.n 53,true)],.pre 9 [.n 58,.n 59,.n 7]⟩,
 ⟨[(.n 116,true),(.n 111,true),(.n 68,true),(.n 56,true),(.n 53,true)],.pre 6 [.n 118,.n 119]⟩,
 ⟨[(.n 124,true),(.n 116,true),(.n 111,true),(.n 68,true),(.n 56,true),(.n 53,true)],.pre 12 [.c 1073741824,.c 1073741824,.n 120,.n 121,.n 105]⟩,
 ⟨[(.n 129,true),(.n 124,true),(.n 116,true),(.n 111,true),(.n 68,true),(.n 56,true),(.n 53,true)],.pre 12 [.c 1073741824,.c 1073741824,.n 120,.n 121,.n 106]⟩,
 ⟨[(.n 150,true),(.n 148,true),(.n 145,true),(.n 124,true),(.n 116,true),(.n 111,true),(.n 68,true),(.n 56,true),(.n 53,true)],.pre 98 [.n 153]⟩,
 ⟨[(.n 170,true),(.n 148,true),(.n 145,true),(.n 124,true),(.n 116,true),(.n 111,true),(.n 68,true),(.n 56,true),(.n 53,true)],.pre 98 [.n 173]⟩,
 ⟨[(.n 190,true),(.n 148,true),(.n 145,true),(.n 124,true),(.n 116,true),(.n 111,true),(.n 68,true),(.n 56,true),(.n 53,true)],.pre 98 [.n 193]⟩,
 ⟨[(.n 210,true),(.n 148,true),(.n 145,true),(.n 124,true),(.n 116,true),(.n 111,true),(.n 68,true),(.n 56,true),(.n 53,true)],.pre 98 [.n 213]⟩,
 ⟨[(.n 148,true),(.n 145,true),(.n 124,true),(.n 116,true),(.n 111,true),(.n 68,true),(.n 56,true),(.n 53,true)],.pre 12 [.n 58,.n 59,.n 61,.n 62,.n 229]⟩,
 ⟨[(.n 235,true),(.n 148,true),(.n 145,true),(.n 124,true),(.n 116,true),(.n 111,true),(.n 68,true),(.n 56,true),(.n 53,true)],.pre 12 [.n 58,.n 59,.n 61,.n 62,.n 230]⟩]
theorem qE:whole Tryz.prog spW 20 40 44 [(true,[some .i64,some .i64,some .i64,some .i64]),(true,[some .i64,some .i64,some .i64,some .i64])]=some (.tup [.agg [.int .i64 (.n 378),.int .i64 (.n 379),.int .i64 (.n 380),.int .i64 (.n 381)],.c (.int .i64 (.n 377))],⟨fq.reverse,fZ.reverse⟩):=by kernel_rfl
theorem pY:wfN fq.reverse=true:=by kernel_rfl
theorem Dm:evP (cxW [0,0,0,0,0,0,60000,60000]).sem qF fq [(0,.c 0),(1,.c 0),(2,.c 0),(3,.c 0),(4,.c 0),(5,.c 0),(6,.c 60000),(7,.c 60000)] fZ.reverse [(378,60000),(379,60000),(380,0),(381,0),(377,0)]=true:=by kernel_rfl
theorem Gi (w:World):Calls Tryz.prog 44 #[.agg #[.int .i64 0,.int .i64 0,.int .i64 0,.int .i64 0],.agg #[.int .i64 0,.int .i64 0,.int .i64 60000,.int .i64 60000]] w fun e w'=>e=.returned (.tuple #[.agg #[.int .i64 60000,.int .i64 60000,.int .i64 0,.int .i64 0],.int .i64 0])/\Below w.heap.size w w':=by
 refine Sx.calls (X:=cxW [0,0,0,0,0,0,60000,60000]) gp (AQ _) qE pY (fun v hs=>?_) w
 have hps:∀ q∈([(0,.c 0),(1,.c 0),(2,.c 0),(3,.c 0),(4,.c 0),(5,.c 0),(6,.c 60000),(7,.c 60000)]:List (Nat × Rf)),v q.1=q.2.val v:=by
  intro q hq;simp only [List.mem_cons,List.not_mem_nil,or_false] at hq;rcases hq with rfl|rfl|rfl|rfl|rfl|rfl|rfl|rfl
  . exact ak hs 0 rfl
  . exact ak hs 1 rfl
  . exact ak hs 2 rfl
  . exact ak hs 3 rfl
  . exact ak hs 4 rfl
  . exact ak hs 5 rfl
  . exact ak hs 6 rfl
  . exact ak hs 7 rfl
 have h:=vW (X:=cxW [0,0,0,0,0,0,60000,60000]) (v:=v) (nd:=fq) hs hps (pre:=qF) (uA _) (vs:=fZ.reverse) (ks:=[(378,60000),(379,60000),(380,0),(381,0),(377,0)]) Dm;have r378:v 378=60000:=h.1 (378,60000) (by simp)
 have r379:v 379=60000:=h.1 (379,60000) (by simp)
 have r380:v 380=0:=h.1 (380,0) (by simp)
 have r381:v 381=0:=h.1 (381,0) (by simp)
 have r377:v 377=0:=h.1 (377,0) (by simp)
 refine ⟨h.2,fun x hx0=>?_⟩
 have hx':=fF (v:=v) (by rfl) hx0
 rw [hx'];show Value.tuple #[.agg #[.int .i64 (v 378),.int .i64 (v 379),.int .i64 (v 380),.int .i64 (v 381)],.int .i64 (v 377)]=_;rw [r378,r379,r380,r381,r377]
theorem DT:evP (cxW [60000,60000,0,0,5400000,5400000,60000,60000]).sem qF fq [(0,.c 60000),(1,.c 60000),(2,.c 0),(3,.c 0),(4,.c 5400000),(5,.c 5400000),(6,.c 60000),(7,.c 60000)] fZ.reverse [(378,60000),(379,60000),(380,60009),(381,60010),(377,0)]=true:=by kernel_rfl
theorem Gw (w:World):Calls Tryz.prog 44 #[.agg #[.int .i64 60000,.int .i64 60000,.int .i64 0,.int .i64 0],.agg #[.int .i64 5400000,.int .i64 5400000,.int .i64 60000,.int .i64 60000]] w fun e w'=>e=.returned (.tuple #[.agg #[.int .i64 60000,.int .i64 60000,.int .i64 60009,.int .i64 60010],.int .i64 0])/\Below w.heap.size w w':=by
 refine Sx.calls (X:=cxW [60000,60000,0,0,5400000,5400000,60000,60000]) gp (AQ _) qE pY (fun v hs=>?_) w
 have hps:∀ q∈([(0,.c 60000),(1,.c 60000),(2,.c 0),(3,.c 0),(4,.c 5400000),(5,.c 5400000),(6,.c 60000),(7,.c 60000)]:List (Nat × Rf)),v q.1=q.2.val v:=by
  intro q hq;simp only [List.mem_cons,List.not_mem_nil,or_false] at hq;rcases hq with rfl|rfl|rfl|rfl|rfl|rfl|rfl|rfl
  . exact ak hs 0 rfl
  . exact ak hs 1 rfl
  . exact ak hs 2 rfl
  . exact ak hs 3 rfl
  . exact ak hs 4 rfl
  . exact ak hs 5 rfl
  . exact ak hs 6 rfl
  . exact ak hs 7 rfl
 have h:=vW (X:=cxW [60000,60000,0,0,5400000,5400000,60000,60000]) (v:=v) (nd:=fq) hs hps (pre:=qF) (uA _) (vs:=fZ.reverse) (ks:=[(378,60000),(379,60000),(380,60009),(381,60010),(377,0)]) DT;have r378:v 378=60000:=h.1 (378,60000) (by simp)
 have r379:v 379=60000:=h.1 (379,60000) (by simp)
 have r380:v 380=60009:=h.1 (380,60009) (by simp)
 have r381:v 381=60010:=h.1 (381,60010) (by simp)
 have r377:v 377=0:=h.1 (377,0) (by simp)
 refine ⟨h.2,fun x hx0=>?_⟩
 have hx':=fF (v:=v) (by rfl) hx0
 rw [hx'];show Value.tuple #[.agg #[.int .i64 (v 378),.int .i64 (v 379),.int .i64 (v 380),.int .i64 (v 381)],.int .i64 (v 377)]=_;rw [r378,r379,r380,r381,r377]
