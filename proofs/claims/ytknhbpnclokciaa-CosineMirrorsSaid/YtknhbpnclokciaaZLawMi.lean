/- The law CosineMirrors: the triangle can be mirrored. -/
import Derived.Test.YtknhbpnclokciaaZCoM
import Derived.Test.YtknhbpnclokciaaZCosM
set_option linter.unusedVariables false
set_option linter.unusedSimpArgs false
set_option maxRecDepth 100000
set_option maxHeartbeats 8000000
namespace Go.Proofs.Ytknhbpnclokciaa
open Go.RowKit Alm Sx
theorem afp {p:Prop} [Decidable p] {x y:Int}:(if b2i (decide p)≠0 then x else y)=if p then x else y:=by
 by_cases h:p<;>simp [b2i,h]
theorem ac1 (lo hi:Int) (h:lo<=hi):bE lo<=-bE (-hi):=by
 obtain ⟨a0,a1,a2,_⟩:=dR lo;obtain ⟨b0,b1,b2,_⟩:=dR (-hi)
 by_cases hh:bE lo<=-bE (-hi)
 . exact hh
 . have m:=GJ (-bE (-hi)) (bE lo) (by omega) (by omega) (by omega)
   have n:=(MK (-bE (-hi))).2;rw [Int.neg_neg] at n;omega
theorem ad1 (a b c d e f:Int):-5400000<=(vz a b c d e f).getD 0 0/\(vz a b c d e f).getD 0 0<=(vz a b c d e f).getD 1 0/\(vz a b c d e f).getD 1 0<=5400000:=by
 rw [(y5 a b c d e f).1,(y5 a b c d e f).2.1];have m:=AQ a b c d e f;have le:=((bO _ _).1 (U_A (U_M (U_S a b) (U_S c d)).2.2 (U_M (U_M (U_C a b) (U_C c d)).2.2 (U_C e f)).2.2).2.2).2.1;unfold Ru Gu;have x:=dR (max (x9 a b c d e f).1 (-1073741824));have y:=dR (-(min (x9 a b c d e f).2 1073741824));have z:=ac1 (max (x9 a b c d e f).1 (-1073741824)) (min (x9 a b c d e f).2 1073741824) (by unfold x9 at *;omega)
 omega
theorem aff (a b c d e f:Int):(0<=(azV a b c d e f).getD 0 0/\(azV a b c d e f).getD 0 0<=21599999/\(azV a b c d e f).getD 0 0<=(azV a b c d e f).getD 1 0/\(azV a b c d e f).getD 1 0<=(azV a b c d e f).getD 0 0+21600000)/\((azV a b c d e f).getD 1 0-(azV a b c d e f).getD 0 0>=21600000->(azV a b c d e f).getD 0 0=0):=by
 rw [(u7 a b c d e f).1,(u7 a b c d e f).2.1];refine ⟨SH _ _ _ _,fun h=>?_⟩
 have B:=DD a b c d e f;cases ho:jf (azY c d e f).1 (azY c d e f).2 (azX a b c d e f).1 (azX a b c d e f).2
 . have:=AO B.1.1 B.2.1 ⟨B.1.2.1,B.1.2.2⟩ ⟨B.2.2.1,B.2.2.2⟩ ho;omega
 . unfold fB;rw [ho];rfl
theorem yn {X Y w g r l u q s lo hi:Int} (hb:-1000000000000<=X/\X<=Y/\Y<=1000000000000) (hw:w=IntKind.i64.wrap (Y-X)) (hg:g=b2i (decide (w>=21600000))) (hr:r=Int.tmod X 21600000) (hl:l=b2i (decide (r<0))) (hu:u=IntKind.i64.wrap (r+21600000)) (hq:q=if l≠0 then u else r) (hs:s=IntKind.i64.wrap (q+w)) (hlo:lo=if g≠0 then (0:Int) else q) (hhi:hi=if g≠0 then (21600000:Int) else s) :
 lo=(if Y-X>=21600000 then 0 else X%21600000)/\hi=(if Y-X>=21600000 then 21600000 else X%21600000+(Y-X)):=by
 have b1:=Int.tmod_lt_of_pos X (show (0:Int)<21600000 by omega)
 have b2:=Int.tmod_lt_of_pos (-X) (show (0:Int)<21600000 by omega)
 rw [Int.neg_tmod] at b2;rw [Go.IntWalk.i64_in _ (by omega)] at hw hu
 have q2:q=X%21600000:=by
  rw [hq,hl,afp,hu,hr];rw [Int.tmod_eq_emod] at *
  split<;>split<;>omega
 rw [Go.IntWalk.i64_in _ (by rw [q2];omega)] at hs
 rw [hlo,hhi,hg,hs,q2,afp,afp,hw];exact ⟨rfl,rfl⟩
theorem afq {v:Nat->Int} (ks:List Nat) (h:∀ k∈ks,v k=1):∀ q∈ks.map (fun k=>(k,Rf.c 1)),v q.1=q.2.val v:=by
 intro q hq;obtain ⟨k,hk,rfl⟩:=List.mem_map.1 hq;exact h k hk
def Z5:List Sx.Spec:=[BL,afb,sAz,afh,VZ]
theorem RY (args:List Int):∀ s∈Z5,aQ Try.prog (cxF args) s:=by
 intro s hs;simp only [Z5,List.mem_cons,List.not_mem_nil,or_false] at hs;rcases hs with rfl|rfl|rfl|rfl|rfl
 . exact BS args
 . exact zQ args _ (by simp [FX])
 . exact zQ args _ (by simp [FX])
 . exact zQ args _ (by simp [FX])
 . exact KP args
def qi:List Nd:=[
 .arg 0,
 .arg 1,
 .arg 2,
 .arg 3,
 .arg 4,
 .arg 5,
 .app 20 0 [],
 .ite (.n 6) (.c 0) (.c 1),
 .ite (.n 7) (.c 0) (.c 1),
 .app 52 0 [.n 0,.n 1,.n 2,.n 3,.n 4,.n 5],
 .ite (.n 9) (.c 0) (.c 1),
 .ite (.n 10) (.c 0) (.c 1),
 .app 50 0 [.n 0,.n 1,.n 2,.n 3,.n 4,.n 5],
 .app 50 1 [.n 0,.n 1,.n 2,.n 3,.n 4,.n 5],
 .app 50 2 [.n 0,.n 1,.n 2,.n 3,.n 4,.n 5],
 .ite (.n 10) (.c 1) (.n 14),
 .ite (.n 10) (.c 0) (.n 12),
 .ite (.n 10) (.c 0) (.n 13),
 .bin .neq .i64 (.n 15) (.c 0),
 .ite (.n 18) (.c 0) (.c 1),
 .app 51 0 [.n 0,.n 1,.n 2,.n 3,.n 4,.n 5],
 .app 51 1 [.n 0,.n 1,.n 2,.n 3,.n 4,.n 5],
 .app 51 2 [.n 0,.n 1,.n 2,.n 3,.n 4,.n 5],
 .ite (.n 10) (.c 1) (.n 22),
 .ite (.n 10) (.c 0) (.n 20),
 .ite (.n 10) (.c 0) (.n 21),
 .bin .neq .i64 (.n 23) (.c 0),
 .ite (.n 26) (.c 0) (.c 1),
 .ite (.n 26) (.n 23) (.c 0),
 .ite (.n 26) (.c 0) (.n 16),
 .ite (.n 26) (.c 0) (.n 17),
 .ite (.n 26) (.c 0) (.n 24),
 .ite (.n 26) (.c 0) (.n 25),
 .ite (.n 18) (.n 15) (.n 28),
 .ite (.n 18) (.n 15) (.n 23),
 .ite (.n 18) (.c 0) (.n 29),
 .ite (.n 18) (.c 0) (.n 30),
 .ite (.n 18) (.c 0) (.n 31),
 .ite (.n 18) (.c 0) (.n 32),
 .bin .sub .i64 (.c 0) (.n 5),
 .bin .sub .i64 (.c 0) (.n 4),
 .app 52 0 [.n 0,.n 1,.n 2,.n 3,.n 39,.n 40],
 .ite (.n 41) (.c 0) (.c 1),
 .ite (.n 42) (.c 0) (.c 1),
 .app 50 0 [.n 0,.n 1,.n 2,.n 3,.n 39,.n 40],
 .app 50 1 [.n 0,.n 1,.n 2,.n 3,.n 39,.n 40],
 .app 50 2 [.n 0,.n 1,.n 2,.n 3,.n 39,.n 40],
 .ite (.n 42) (.c 1) (.n 46),
 .ite (.n 42) (.c 0) (.n 44),
 .ite (.n 42) (.c 0) (.n 45),
 .bin .neq .i64 (.n 47) (.c 0),
 .ite (.n 50) (.c 0) (.c 1),
 .app 51 0 [.n 0,.n 1,.n 2,.n 3,.n 39,.n 40],
 .app 51 1 [.n 0,.n 1,.n 2,.n 3,.n 39,.n 40],
 .app 51 2 [.n 0,.n 1,.n 2,.n 3,.n 39,.n 40],
 .ite (.n 42) (.c 1) (.n 54),
 .ite (.n 42) (.c 0) (.n 52),
 .ite (.n 42) (.c 0) (.n 53),
 .bin .neq .i64 (.n 55) (.c 0),
 .ite (.n 58) (.c 0) (.c 1),
 .ite (.n 58) (.n 55) (.c 0),
 .ite (.n 58) (.c 0) (.n 48),
 .ite (.n 58) (.c 0) (.n 49),
 .ite (.n 58) (.c 0) (.n 56),
 .ite (.n 58) (.c 0) (.n 57),
 .ite (.n 50) (.n 47) (.n 60),
 .ite (.n 50) (.n 47) (.n 55),
 .ite (.n 50) (.c 0) (.n 61),
 .ite (.n 50) (.c 0) (.n 62),
 .ite (.n 50) (.c 0) (.n 63),
 .ite (.n 50) (.c 0) (.n 64),
 .bin .sub .i64 (.c 0) (.n 1),
 .bin .sub .i64 (.c 0) (.n 0),
 .bin .sub .i64 (.c 0) (.n 3),
 .bin .sub .i64 (.c 0) (.n 2),
 .app 52 0 [.n 71,.n 72,.n 73,.n 74,.n 4,.n 5],
 .ite (.n 75) (.c 0) (.c 1),
 .ite (.n 76) (.c 0) (.c 1),
 .app 50 0 [.n 71,.n 72,.n 73,.n 74,.n 4,.n 5],
 .app 50 1 [.n 71,.n 72,.n 73,.n 74,.n 4,.n 5],
 .app 50 2 [.n 71,.n 72,.n 73,.n 74,.n 4,.n 5],
 .ite (.n 76) (.c 1) (.n 80),
 .ite (.n 76) (.c 0) (.n 78),
 .ite (.n 76) (.c 0) (.n 79),
 .bin .neq .i64 (.n 81) (.c 0),
 .ite (.n 84) (.c 0) (.c 1),
 .app 51 0 [.n 71,.n 72,.n 73,.n 74,.n 4,.n 5],
 .app 51 1 [.n 71,.n 72,.n 73,.n 74,.n 4,.n 5],
 .app 51 2 [.n 71,.n 72,.n 73,.n 74,.n 4,.n 5],
 .ite (.n 76) (.c 1) (.n 88),
 .ite (.n 76) (.c 0) (.n 86),
 .ite (.n 76) (.c 0) (.n 87),
 .bin .neq .i64 (.n 89) (.c 0),
 .ite (.n 92) (.c 0) (.c 1),
 .ite (.n 92) (.n 89) (.c 0),
 .ite (.n 92) (.c 0) (.n 82),
 .ite (.n 92) (.c 0) (.n 83),
 .ite (.n 92) (.c 0) (.n 90),
 .ite (.n 92) (.c 0) (.n 91),
 .ite (.n 84) (.n 81) (.n 94),
 .ite (.n 84) (.n 81) (.n 89),
 .ite (.n 84) (.c 0) (.n 95),
 .ite (.n 84) (.c 0) (.n 96),
 .ite (.n 84) (.c 0) (.n 97),
 .ite (.n 84) (.c 0) (.n 98),
 .app 52 0 [.n 2,.n 3,.n 0,.n 1,.n 4,.n 5],
 .ite (.n 105) (.c 0) (.c 1),
 .ite (.n 106) (.c 0) (.c 1),
 .app 50 0 [.n 2,.n 3,.n 0,.n 1,.n 4,.n 5],
 .app 50 1 [.n 2,.n 3,.n 0,.n 1,.n 4,.n 5],
 .app 50 2 [.n 2,.n 3,.n 0,.n 1,.n 4,.n 5],
 .ite (.n 106) (.c 1) (.n 110),
 .ite (.n 106) (.c 0) (.n 108),
 .ite (.n 106) (.c 0) (.n 109),
 .bin .neq .i64 (.n 33) (.c 0),
 .bin .neq .i64 (.n 65) (.c 0),
 .ite (.n 114) (.c 1) (.n 115),
 .bin .neq .i64 (.n 99) (.c 0),
 .ite (.n 116) (.c 1) (.n 117),
 .bin .neq .i64 (.n 111) (.c 0),
 .ite (.n 118) (.c 1) (.n 119),
 .bin .leq .i64 (.n 35) (.n 36),
 .bin .geq .i64 (.n 35) (.c (-5400000)),
 .ite (.n 121) (.n 122) (.c 0),
 .bin .leq .i64 (.n 36) (.c 5400000),
 .ite (.n 123) (.n 124) (.c 0),
 .bin .leq .i64 (.n 37) (.n 38),
 .bin .geq .i64 (.n 37) (.c (-1099511627776)),
 .ite (.n 126) (.n 127) (.c 0),
 .bin .leq .i64 (.n 38) (.c 1099511627776),
 .ite (.n 128) (.n 129) (.c 0),
 .bin .sub .i64 (.n 38) (.n 37),
 .bin .geq .i64 (.n 131) (.c 21600000),
 .ite (.n 132) (.c 0) (.c 1),
 .bin .rem .i64 (.n 37) (.c 21600000),
 .bin .lss .i64 (.n 134) (.c 0),
 .bin .add .i64 (.n 134) (.c 21600000),
 .ite (.n 135) (.c 0) (.c 1),
 .ite (.n 135) (.n 136) (.n 134),
 .bin .add .i64 (.n 138) (.n 131),
 .ite (.n 132) (.c 0) (.n 138),
 .ite (.n 132) (.c 21600000) (.n 139),
 .bin .eql .i64 (.n 140) (.n 37),
 .bin .eql .i64 (.n 141) (.n 38),
 .ite (.n 142) (.n 143) (.c 0),
 .ite (.n 130) (.n 144) (.c 0),
 .ite (.n 125) (.n 145) (.c 0),
 .ite (.n 146) (.c 0) (.c 1),
 .ite (.n 120) (.c 1) (.n 147),
 .bin .leq .i64 (.n 67) (.n 68),
 .bin .geq .i64 (.n 67) (.c (-5400000)),
 .ite (.n 149) (.n 150) (.c 0),
 .bin .leq .i64 (.n 68) (.c 5400000),
 .ite (.n 151) (.n 152) (.c 0),
 .bin .leq .i64 (.n 69) (.n 70),
 .bin .geq .i64 (.n 69) (.c (-1099511627776)),
 .ite (.n 154) (.n 155) (.c 0),
 .bin .leq .i64 (.n 70) (.c 1099511627776),
 .ite (.n 156) (.n 157) (.c 0),
 .bin .sub .i64 (.n 70) (.n 69),
 .bin .geq .i64 (.n 159) (.c 21600000),
 .ite (.n 160) (.c 0) (.c 1),
 .bin .rem .i64 (.n 69) (.c 21600000),
 .bin .lss .i64 (.n 162) (.c 0),
 .bin .add .i64 (.n 162) (.c 21600000),
 .ite (.n 163) (.c 0) (.c 1),
 .ite (.n 163) (.n 164) (.n 162),
 .bin .add .i64 (.n 166) (.n 159),
 .ite (.n 160) (.c 0) (.n 166),
 .ite (.n 160) (.c 21600000) (.n 167),
 .bin .eql .i64 (.n 168) (.n 69),
 .bin .eql .i64 (.n 169) (.n 70),
 .ite (.n 170) (.n 171) (.c 0),
 .ite (.n 158) (.n 172) (.c 0),
 .ite (.n 153) (.n 173) (.c 0),
 .ite (.n 174) (.c 0) (.c 1),
 .ite (.n 148) (.c 1) (.n 175),
 .bin .leq .i64 (.n 101) (.n 102),
 .bin .geq .i64 (.n 101) (.c (-5400000)),
 .ite (.n 177) (.n 178) (.c 0),
 .bin .leq .i64 (.n 102) (.c 5400000),
 .ite (.n 179) (.n 180) (.c 0),
 .bin .leq .i64 (.n 103) (.n 104),
 .bin .geq .i64 (.n 103) (.c (-1099511627776)),
 .ite (.n 182) (.n 183) (.c 0),
 .bin .leq .i64 (.n 104) (.c 1099511627776),
 .ite (.n 184) (.n 185) (.c 0),
 .bin .sub .i64 (.n 104) (.n 103),
 .bin .geq .i64 (.n 187) (.c 21600000),
 .ite (.n 188) (.c 0) (.c 1),
 .bin .rem .i64 (.n 103) (.c 21600000),
 .bin .lss .i64 (.n 190) (.c 0),
 .bin .add .i64 (.n 190) (.c 21600000),
 .ite (.n 191) (.c 0) (.c 1),
 .ite (.n 191) (.n 192) (.n 190),
 .bin .add .i64 (.n 194) (.n 187),
 .ite (.n 188) (.c 0) (.n 194),
 .ite (.n 188) (.c 21600000) (.n 195),
 .bin .eql .i64 (.n 196) (.n 103),
 .bin .eql .i64 (.n 197) (.n 104),
 .ite (.n 198) (.n 199) (.c 0),
 .ite (.n 186) (.n 200) (.c 0),
 .ite (.n 181) (.n 201) (.c 0),
 .ite (.n 202) (.c 0) (.c 1),
 .ite (.n 176) (.c 1) (.n 203),
 .bin .eql .i64 (.n 67) (.n 35),
 .bin .eql .i64 (.n 68) (.n 36),
 .ite (.n 205) (.n 206) (.c 0),
 .ite (.n 207) (.c 0) (.c 1),
 .ite (.n 204) (.c 1) (.n 208),
 .bin .eql .i64 (.n 101) (.n 35),
 .bin .eql .i64 (.n 102) (.n 36),
 .ite (.n 210) (.n 211) (.c 0),
 .ite (.n 212) (.c 0) (.c 1),
 .ite (.n 209) (.c 1) (.n 213),
 .bin .eql .i64 (.n 112) (.n 35),
 .bin .eql .i64 (.n 113) (.n 36),
 .ite (.n 215) (.n 216) (.c 0),
 .ite (.n 217) (.c 0) (.c 1),
 .ite (.n 214) (.c 1) (.n 218),
 .ite (.n 219) (.c 0) (.c 1),
 .bin .sub .i64 (.c 0) (.n 38),
 .bin .sub .i64 (.c 0) (.n 37),
 .bin .sub .i64 (.n 222) (.n 221),
 .bin .leq .i64 (.n 221) (.n 222),
 .bin .geq .i64 (.n 221) (.c (-1099511627776)),
 .bin .leq .i64 (.n 221) (.c 1099511627776),
 .ite (.n 225) (.n 226) (.c 0),
 .ite (.n 224) (.n 227) (.c 0),
 .bin .geq .i64 (.n 222) (.c (-1099511627776)),
 .bin .leq .i64 (.n 222) (.c 1099511627776),
 .ite (.n 229) (.n 230) (.c 0),
 .ite (.n 228) (.n 231) (.c 0),
 .ite (.n 232) (.c 0) (.c 1),
 .bin .geq .i64 (.n 223) (.c 21600000),
 .bin .rem .i64 (.n 221) (.c 21600000),
 .bin .lss .i64 (.n 235) (.c 0),
 .bin .add .i64 (.n 235) (.c 21600000),
 .ite (.n 236) (.c 0) (.c 1),
 .ite (.n 236) (.n 237) (.n 235),
 .bin .add .i64 (.n 239) (.n 223),
 .ite (.n 234) (.c 0) (.c 1),
 .ite (.n 234) (.c 0) (.n 239),
 .ite (.n 234) (.c 21600000) (.n 240),
 .ite (.n 233) (.c 0) (.n 242),
 .ite (.n 233) (.c 0) (.n 243),
 .bin .sub .i64 (.c 10800000) (.n 38),
 .bin .sub .i64 (.c 10800000) (.n 37),
 .bin .sub .i64 (.n 247) (.n 246),
 .bin .leq .i64 (.n 246) (.n 247),
 .bin .geq .i64 (.n 246) (.c (-1099511627776)),
 .bin .leq .i64 (.n 246) (.c 1099511627776),
 .ite (.n 250) (.n 251) (.c 0),
 .ite (.n 249) (.n 252) (.c 0),
 .bin .geq .i64 (.n 247) (.c (-1099511627776)),
 .bin .leq .i64 (.n 247) (.c 1099511627776),
 .ite (.n 254) (.n 255) (.c 0),
 .ite (.n 253) (.n 256) (.c 0),
 .ite (.n 257) (.c 0) (.c 1),
 .bin .geq .i64 (.n 248) (.c 21600000),
 .bin .rem .i64 (.n 246) (.c 21600000),
 .bin .lss .i64 (.n 260) (.c 0),
 .bin .add .i64 (.n 260) (.c 21600000),
 .ite (.n 261) (.c 0) (.c 1),
 .ite (.n 261) (.n 262) (.n 260),
 .bin .add .i64 (.n 264) (.n 248),
 .ite (.n 259) (.c 0) (.c 1),
 .ite (.n 259) (.c 0) (.n 264),
 .ite (.n 259) (.c 21600000) (.n 265),
 .ite (.n 258) (.c 0) (.n 267),
 .ite (.n 258) (.c 0) (.n 268),
 .bin .eql .i64 (.n 233) (.c 0),
 .bin .eql .i64 (.n 258) (.c 0),
 .ite (.n 271) (.n 272) (.c 0),
 .bin .eql .i64 (.n 69) (.n 244),
 .bin .eql .i64 (.n 70) (.n 245),
 .ite (.n 274) (.n 275) (.c 0),
 .ite (.n 273) (.n 276) (.c 0),
 .bin .eql .i64 (.n 103) (.n 269),
 .bin .eql .i64 (.n 104) (.n 270),
 .ite (.n 278) (.n 279) (.c 0),
 .ite (.n 277) (.n 280) (.c 0),
 .ite (.n 219) (.c 0) (.n 281),
 .ite (.n 10) (.c 1) (.n 282),
 .ite (.n 7) (.c 0) (.n 283)]
def aeZ:List Vc:=[
 ⟨[],.pre 20 []⟩,
 ⟨[(.n 8,true)],.pre 52 [.n 0,.n 1,.n 2,.n 3,.n 4,.n 5]⟩,
 ⟨[(.n 11,true),(.n 8,true)],.pre 52 [.n 0,.n 1,.n 2,.n 3,.n 4,.n 5]⟩,
 ⟨[(.n 11,true),(.n 11,true),(.n 8,true)],.pre 50 [.n 0,.n 1,.n 2,.n 3,.n 4,.n 5]⟩,
 ⟨[(.n 19,true),(.n 11,true),(.n 8,true)],.pre 52 [.n 0,.n 1,.n 2,.n 3,.n 4,.n 5]⟩,
 ⟨[(.n 11,true),(.n 19,true),(.n 11,true),(.n 8,true)],.pre 51 [.n 0,.n 1,.n 2,.n 3,.n 4,.n 5]⟩,
 ⟨[(.n 11,true),(.n 8,true)],.pre 52 [.n 0,.n 1,.n 2,.n 3,.n 39,.n 40]⟩,
 ⟨[(.n 43,true),(.n 11,true),(.n 8,true)],.pre 50 [.n 0,.n 1,.n 2,.n 3,.n 39,.n 40]⟩,
 ⟨[(.n 51,true),(.n 11,true),(.n 8,true)],.pre 52 [.n 0,.n 1,.n 2,.n 3,.n 39,.n 40]⟩,
 ⟨[(.n 43,true),(.n 51,true),(.n 11,true),(.n 8,true)],.pre 51 [.n 0,.n 1,.n 2,.n 3,.n 39,.n 40]⟩,
 ⟨[(.n 11,true),(.n 8,true)],.pre 52 [.n 71,.n 72,.n 73,.n 74,.n 4,.n 5]⟩,
 ⟨[(.n 77,true),(.n 11,true),(.n 8,true)],.pre 50 [.n 71,.n 72,.n 73,.n 74,.n 4,.n 5]⟩,
 ⟨[(.n 85,true),(.n 11,true),(.n 8,true)],.pre 52 [.n 71,.n 72,.n 73,.n 74,.n 4,.n 5]⟩,
 ⟨[(.n 77,true),(.n 85,true),(.n 11,true),(.n 8,true)],.pre 51 [.n 71,.n 72,.n 73,.n 74,.n 4,.n 5]⟩,
 ⟨[(.n 11,true),(.n 8,true)],.pre 52 [.n 2,.n 3,.n 0,.n 1,.n 4,.n 5]⟩,
 ⟨[(.n 107,true),(.n 11,true),(.n 8,true)],.pre 50 [.n 2,.n 3,.n 0,.n 1,.n 4,.n 5]⟩]
theorem ae1:whole Try.prog Z5 20 40 4 [(true,[some .i64,some .i64,some .i64,some .i64,some .i64,some .i64])]=some (.p (.c (.bool (.n 284))),⟨qi.reverse,aeZ.reverse⟩):=by kernel_rfl
theorem ab1:wfN qi.reverse=true:=by kernel_rfl
theorem NF (a0 a1 a2 a3 a4 a5:Int) (w:World):Calls Try.prog 4 #[.agg #[.int .i64 a0,.int .i64 a1,.int .i64 a2,.int .i64 a3,.int .i64 a4,.int .i64 a5]] w fun e w'=>e=.returned (.bool true)/\Below w.heap.size w w':=by
 refine Sx.calls (X:=cxF [a0,a1,a2,a3,a4,a5]) dB (RY _) ae1 ab1 (fun v hs=>?_) w
 have e9:v 9=b2i (decide (vY (v 0) (v 1) (v 2) (v 3) (v 4) (v 5))):=ae hs 9 rfl;have e10:v 10=if v 9≠0 then (0:Int) else (1:Int):=ae hs 10 rfl
 have e11:v 11=if v 10≠0 then (0:Int) else (1:Int):=ae hs 11 rfl
 have TT:v 9≠0->vY (v 0) (v 1) (v 2) (v 3) (v 4) (v 5):=by rw [e9,JV,decide_eq_true_iff];exact id
 have e39:v 39=IntKind.i64.wrap (0-v 5):=ae hs 39 rfl;have e40:v 40=IntKind.i64.wrap (0-v 4):=ae hs 40 rfl;have e71:v 71=IntKind.i64.wrap (0-v 1):=ae hs 71 rfl;have e72:v 72=IntKind.i64.wrap (0-v 0):=ae hs 72 rfl;have e73:v 73=IntKind.i64.wrap (0-v 3):=ae hs 73 rfl;have e74:v 74=IntKind.i64.wrap (0-v 2):=ae hs 74 rfl
 have NE:v 9≠0->v 39=-(v 5)/\v 40=-(v 4)/\v 71=-(v 1)/\v 72=-(v 0)/\v 73=-(v 3)/\v 74=-(v 2):=by
  intro h;have:=TT h;unfold vY at this;rw [e39,e40,e71,e72,e73,e74,Go.IntWalk.i64_in _ (by omega),Go.IntWalk.i64_in _ (by omega),Go.IntWalk.i64_in _ (by omega),Go.IntWalk.i64_in _ (by omega),Go.IntWalk.i64_in _ (by omega),Go.IntWalk.i64_in _ (by omega)]
  omega
 have T:v 9≠0->dI (v 0) (v 1)=true/\dI (v 2) (v 3)=true/\dI (v 4) (v 5)=true/\dI (v 39) (v 40)=true/\dI (v 71) (v 72)=true/\dI (v 73) (v 74)=true:=by
  intro h;have a:=TT h;obtain ⟨n1,n2,n3,n4,n5,n6⟩:=NE h;rw [n1,n2,n3,n4,n5,n6];unfold vY at a;rw [jF,jF,jF,jF,jF,jF];omega
 clear e39 e40 e71 e72 e73 e74
 have W:v 11≠0->v 9≠0:=by
  rw [e11,e10];intro h q;rw [if_neg (by omega:¬ v 9≠0)] at h
  exact absurd h (by decide)
 have O:v 9=1∨v 9=0:=by
  rw [e9];cases decide (vY (v 0) (v 1) (v 2) (v 3) (v 4) (v 5))
  . exact .inr rfl
  . exact .inl rfl
 refine ⟨aU ?_,?_⟩
 . exact ag (fun _=>trivial) (ag (fun _=>trivial) (ag (fun _=>trivial) (ag (fun hp=>⟨(T (W (au hp).1)).1,(T (W (au hp).1)).2.1,(T (W (au hp).1)).2.2.1⟩) (ag (fun _=>trivial) (ag (fun hp=>⟨(T (W (au hp).1)).1,(T (W (au hp).1)).2.1,(T (W (au hp).1)).2.2.1⟩) (ag (fun _=>trivial) (ag (fun hp=>⟨(T (W (au (au hp).2).1)).1,(T (W (au (au hp).2).1)).2.1,(T (W (au (au hp).2).1)).2.2.2.1⟩) (ag (fun _=>trivial) (ag (fun hp=>⟨(T (W (au (au (au hp).2).2).1)).1,(T (W (au (au (au hp).2).2).1)).2.1,(T (W (au (au (au hp).2).2).1)).2.2.2.1⟩) (ag (fun _=>trivial) (ag (fun hp=>⟨(T (W (au (au hp).2).1)).2.2.2.2.1,(T (W (au (au hp).2).1)).2.2.2.2.2,(T (W (au (au hp).2).1)).2.2.1⟩) (ag (fun _=>trivial) (ag (fun hp=>⟨(T (W (au (au (au hp).2).2).1)).2.2.2.2.1,(T (W (au (au (au hp).2).2).1)).2.2.2.2.2,(T (W (au (au (au hp).2).2).1)).2.2.1⟩) (ag (fun _=>trivial) (ag (fun hp=>⟨(T (W (au (au hp).2).1)).2.1,(T (W (au (au hp).2).1)).1,(T (W (au (au hp).2).1)).2.2.1⟩) (aT))))))))))))))))
 . intro x hx;have hx':x=.bool (decide (v 284≠0)):=hx
   suffices hr:v 284=1 by rw [hx',hr];rfl
   rcases O with q|q
   . have nz:v 9≠0:=by rw [q];decide
     have tv:=TT nz;obtain ⟨n1,n2,n3,n4,n5,n6⟩:=NE nz;clear T W TT NE
     have q41:v 41=1:=by
      have h:v 41=b2i (decide (vY (v 0) (v 1) (v 2) (v 3) (v 39) (v 40))):=ae hs 41 rfl;rw [h,decide_eq_true (by rw [n1,n2];unfold vY at *;omega)];rfl
     have q75:v 75=1:=by
      have h:v 75=b2i (decide (vY (v 71) (v 72) (v 73) (v 74) (v 4) (v 5))):=ae hs 75 rfl;rw [h,decide_eq_true (by rw [n3,n4,n5,n6];unfold vY at *;omega)];rfl
     have q105:v 105=1:=by
      have h:v 105=b2i (decide (vY (v 2) (v 3) (v 0) (v 1) (v 4) (v 5))):=ae hs 105 rfl;rw [h,decide_eq_true (by unfold vY at *;omega)];rfl
     have z35:v 35=v 12:=aJ (X:=cxF [a0,a1,a2,a3,a4,a5]) (v:=v) (l:=qi) (ma _) hs (k:=35) (j:=12) (ps:=[(9,.c 1),(41,.c 1),(75,.c 1),(105,.c 1)]) (af q (af q41 (af q75 (af q105 ay)))) (by kernel_rfl)
     have z36:v 36=v 13:=aJ (X:=cxF [a0,a1,a2,a3,a4,a5]) (v:=v) (l:=qi) (ma _) hs (k:=36) (j:=13) (ps:=[(9,.c 1),(41,.c 1),(75,.c 1),(105,.c 1)]) (af q (af q41 (af q75 (af q105 ay)))) (by kernel_rfl)
     have z37:v 37=v 20:=aJ (X:=cxF [a0,a1,a2,a3,a4,a5]) (v:=v) (l:=qi) (ma _) hs (k:=37) (j:=20) (ps:=[(9,.c 1),(41,.c 1),(75,.c 1),(105,.c 1)]) (af q (af q41 (af q75 (af q105 ay)))) (by kernel_rfl)
     have z38:v 38=v 21:=aJ (X:=cxF [a0,a1,a2,a3,a4,a5]) (v:=v) (l:=qi) (ma _) hs (k:=38) (j:=21) (ps:=[(9,.c 1),(41,.c 1),(75,.c 1),(105,.c 1)]) (af q (af q41 (af q75 (af q105 ay)))) (by kernel_rfl)
     have z67:v 67=v 44:=aJ (X:=cxF [a0,a1,a2,a3,a4,a5]) (v:=v) (l:=qi) (ma _) hs (k:=67) (j:=44) (ps:=[(9,.c 1),(41,.c 1),(75,.c 1),(105,.c 1)]) (af q (af q41 (af q75 (af q105 ay)))) (by kernel_rfl)
     have z68:v 68=v 45:=aJ (X:=cxF [a0,a1,a2,a3,a4,a5]) (v:=v) (l:=qi) (ma _) hs (k:=68) (j:=45) (ps:=[(9,.c 1),(41,.c 1),(75,.c 1),(105,.c 1)]) (af q (af q41 (af q75 (af q105 ay)))) (by kernel_rfl)
     have z69:v 69=v 52:=aJ (X:=cxF [a0,a1,a2,a3,a4,a5]) (v:=v) (l:=qi) (ma _) hs (k:=69) (j:=52) (ps:=[(9,.c 1),(41,.c 1),(75,.c 1),(105,.c 1)]) (af q (af q41 (af q75 (af q105 ay)))) (by kernel_rfl)
     have z70:v 70=v 53:=aJ (X:=cxF [a0,a1,a2,a3,a4,a5]) (v:=v) (l:=qi) (ma _) hs (k:=70) (j:=53) (ps:=[(9,.c 1),(41,.c 1),(75,.c 1),(105,.c 1)]) (af q (af q41 (af q75 (af q105 ay)))) (by kernel_rfl)
     have z101:v 101=v 78:=aJ (X:=cxF [a0,a1,a2,a3,a4,a5]) (v:=v) (l:=qi) (ma _) hs (k:=101) (j:=78) (ps:=[(9,.c 1),(41,.c 1),(75,.c 1),(105,.c 1)]) (af q (af q41 (af q75 (af q105 ay)))) (by kernel_rfl)
     have z102:v 102=v 79:=aJ (X:=cxF [a0,a1,a2,a3,a4,a5]) (v:=v) (l:=qi) (ma _) hs (k:=102) (j:=79) (ps:=[(9,.c 1),(41,.c 1),(75,.c 1),(105,.c 1)]) (af q (af q41 (af q75 (af q105 ay)))) (by kernel_rfl)
     have z103:v 103=v 86:=aJ (X:=cxF [a0,a1,a2,a3,a4,a5]) (v:=v) (l:=qi) (ma _) hs (k:=103) (j:=86) (ps:=[(9,.c 1),(41,.c 1),(75,.c 1),(105,.c 1)]) (af q (af q41 (af q75 (af q105 ay)))) (by kernel_rfl)
     have z104:v 104=v 87:=aJ (X:=cxF [a0,a1,a2,a3,a4,a5]) (v:=v) (l:=qi) (ma _) hs (k:=104) (j:=87) (ps:=[(9,.c 1),(41,.c 1),(75,.c 1),(105,.c 1)]) (af q (af q41 (af q75 (af q105 ay)))) (by kernel_rfl)
     have z112:v 112=v 108:=aJ (X:=cxF [a0,a1,a2,a3,a4,a5]) (v:=v) (l:=qi) (ma _) hs (k:=112) (j:=108) (ps:=[(9,.c 1),(41,.c 1),(75,.c 1),(105,.c 1)]) (af q (af q41 (af q75 (af q105 ay)))) (by kernel_rfl)
     have z113:v 113=v 109:=aJ (X:=cxF [a0,a1,a2,a3,a4,a5]) (v:=v) (l:=qi) (ma _) hs (k:=113) (j:=109) (ps:=[(9,.c 1),(41,.c 1),(75,.c 1),(105,.c 1)]) (af q (af q41 (af q75 (af q105 ay)))) (by kernel_rfl)
     have l12:v 12=(vz (v 0) (v 1) (v 2) (v 3) (v 4) (v 5)).getD 0 0:=ae hs 12 rfl;have l13:v 13=(vz (v 0) (v 1) (v 2) (v 3) (v 4) (v 5)).getD 1 0:=ae hs 13 rfl;have l20:v 20=(azV (v 0) (v 1) (v 2) (v 3) (v 4) (v 5)).getD 0 0:=ae hs 20 rfl;have l21:v 21=(azV (v 0) (v 1) (v 2) (v 3) (v 4) (v 5)).getD 1 0:=ae hs 21 rfl;have tv':=tv;unfold vY at tv'
     have le1:v 0<=v 1:=by omega
     have le2:v 2<=v 3:=by omega
     have le3:v 4<=v 5:=by omega
     have L1:=O0 (v 0) (v 1) (v 2) (v 3) (v 4) (v 5) le3;have L2:=OW (v 0) (v 1) (v 2) (v 3) (v 4) (v 5) le1 le2;have L3:=KF (v 0) (v 1) (v 2) (v 3) (v 4) (v 5);have Z1:=aeX (v 0) (v 1) (v 2) (v 3) (v 4) (v 5) le3;have Z2:=ac0 (v 0) (v 1) (v 2) (v 3) (v 4) (v 5) le1 le2;have c0:=l12.symm;have c1:=l13.symm;have d0:=l20.symm;have d1:=l21.symm;have l44:v 44=v 12:=by have h:v 44=(vz (v 0) (v 1) (v 2) (v 3) (v 39) (v 40)).getD 0 0:=ae hs 44 rfl;rw [h,n1,n2,L1];exact c0
     have l45:v 45=v 13:=by have h:v 45=(vz (v 0) (v 1) (v 2) (v 3) (v 39) (v 40)).getD 1 0:=ae hs 45 rfl;rw [h,n1,n2,L1];exact c1
     have l78:v 78=v 12:=by have h:v 78=(vz (v 71) (v 72) (v 73) (v 74) (v 4) (v 5)).getD 0 0:=ae hs 78 rfl;rw [h,n3,n4,n5,n6,L2];exact c0
     have l79:v 79=v 13:=by have h:v 79=(vz (v 71) (v 72) (v 73) (v 74) (v 4) (v 5)).getD 1 0:=ae hs 79 rfl;rw [h,n3,n4,n5,n6,L2];exact c1
     have l108:v 108=v 12:=by have h:v 108=(vz (v 2) (v 3) (v 0) (v 1) (v 4) (v 5)).getD 0 0:=ae hs 108 rfl;rw [h,L3];exact c0
     have l109:v 109=v 13:=by have h:v 109=(vz (v 2) (v 3) (v 0) (v 1) (v 4) (v 5)).getD 1 0:=ae hs 109 rfl;rw [h,L3];exact c1
     rw [d0,d1] at Z1 Z2;have l52:v 52=-(v 21)%21600000:=by have h:v 52=(azV (v 0) (v 1) (v 2) (v 3) (v 39) (v 40)).getD 0 0:=ae hs 52 rfl;rw [h,n1,n2];exact Z1.1
     have l53:v 53=v 52+(v 21-v 20):=by have h:v 53=(azV (v 0) (v 1) (v 2) (v 3) (v 39) (v 40)).getD 1 0:=ae hs 53 rfl;rw [h,n1,n2,Z1.2,Z1.1,l52]
     have l86:v 86=if v 21-v 20>=21600000 then 0 else (10800000-v 21)%21600000:=by have h:v 86=(azV (v 71) (v 72) (v 73) (v 74) (v 4) (v 5)).getD 0 0:=ae hs 86 rfl;rw [h,n3,n4,n5,n6];exact Z2.1
     have l87:v 87=v 86+(v 21-v 20):=by have h:v 87=(azV (v 71) (v 72) (v 73) (v 74) (v 4) (v 5)).getD 1 0:=ae hs 87 rfl;rw [h,n3,n4,n5,n6,Z2.2,Z2.1,l86]
     have bA:=ad1 (v 0) (v 1) (v 2) (v 3) (v 4) (v 5);have bZ:=aff (v 0) (v 1) (v 2) (v 3) (v 4) (v 5);rw [c0,c1] at bA;rw [d0,d1] at bZ;clear L1 L2 L3 Z1 Z2 c0 c1 d0 d1 l12 l13 l20 l21 tv tv' n1 n2 n3 n4 n5 n6 le1 le2 le3;have bM:0<=v 52/\v 52<=21599999:=by rw [l52];omega
     have bN:0<=v 86/\v 86<=21599999:=by rw [l86];split<;>omega
     have wM:v 21-v 20>=21600000->v 52=0:=by intro h;have:=bZ.2 h;rw [l52];omega
     have wN:v 21-v 20>=21600000->v 86=0:=by intro h;rw [l86,if_pos h]
     have k121:v 121=1:=by have h:v 121=b2i (decide (v 35<=v 36)):=ae hs 121 rfl;rw [h,decide_eq_true (by rw [z35,z36];omega)];rfl
     have k122:v 122=1:=by have h:v 122=b2i (decide (v 35>=-5400000)):=ae hs 122 rfl;rw [h,decide_eq_true (by rw [z35];omega)];rfl
     have k124:v 124=1:=by have h:v 124=b2i (decide (v 36<=5400000)):=ae hs 124 rfl;rw [h,decide_eq_true (by rw [z36];omega)];rfl
     have k126:v 126=1:=by have h:v 126=b2i (decide (v 37<=v 38)):=ae hs 126 rfl;rw [h,decide_eq_true (by rw [z37,z38];omega)];rfl
     have k127:v 127=1:=by have h:v 127=b2i (decide (v 37>=-1099511627776)):=ae hs 127 rfl;rw [h,decide_eq_true (by rw [z37];omega)];rfl
     have k129:v 129=1:=by have h:v 129=b2i (decide (v 38<=1099511627776)):=ae hs 129 rfl;rw [h,decide_eq_true (by rw [z38];omega)];rfl
     have t121:=yn (X:=v 37) (Y:=v 38) (w:=v 131) (g:=v 132) (r:=v 134) (l:=v 135) (u:=v 136) (q:=v 138) (s:=v 139) (lo:=v 140) (hi:=v 141) (by rw [z37,z38];omega) (ae hs 131 rfl) (ae hs 132 rfl) (ae hs 134 rfl) (ae hs 135 rfl) (ae hs 136 rfl) (ae hs 138 rfl) (ae hs 139 rfl) (ae hs 140 rfl) (ae hs 141 rfl)
     rw [z37,z38] at t121;have k142:v 142=1:=by have h:v 142=b2i (v 140==v 37):=ae hs 142 rfl;have g:v 140=v 37:=(by rw [t121.1,z37];split<;>(first|omega|(rename_i g;have:=bZ.2 (by omega);omega)));rw [h,g,beq_self_eq_true];rfl
     have k143:v 143=1:=by have h:v 143=b2i (v 141==v 38):=ae hs 143 rfl;have g:v 141=v 38:=(by rw [t121.2,z38];split<;>(first|omega|(rename_i g;have:=bZ.2 (by omega);omega)));rw [h,g,beq_self_eq_true];rfl
     have k149:v 149=1:=by have h:v 149=b2i (decide (v 67<=v 68)):=ae hs 149 rfl;rw [h,decide_eq_true (by rw [z67,z68,l44,l45];omega)];rfl
     have k150:v 150=1:=by have h:v 150=b2i (decide (v 67>=-5400000)):=ae hs 150 rfl;rw [h,decide_eq_true (by rw [z67,l44];omega)];rfl
     have k152:v 152=1:=by have h:v 152=b2i (decide (v 68<=5400000)):=ae hs 152 rfl;rw [h,decide_eq_true (by rw [z68,l45];omega)];rfl
     have k154:v 154=1:=by have h:v 154=b2i (decide (v 69<=v 70)):=ae hs 154 rfl;rw [h,decide_eq_true (by rw [z69,z70,l53];omega)];rfl
     have k155:v 155=1:=by have h:v 155=b2i (decide (v 69>=-1099511627776)):=ae hs 155 rfl;rw [h,decide_eq_true (by rw [z69];omega)];rfl
     have k157:v 157=1:=by have h:v 157=b2i (decide (v 70<=1099511627776)):=ae hs 157 rfl;rw [h,decide_eq_true (by rw [z70,l53];omega)];rfl
     have t149:=yn (X:=v 69) (Y:=v 70) (w:=v 159) (g:=v 160) (r:=v 162) (l:=v 163) (u:=v 164) (q:=v 166) (s:=v 167) (lo:=v 168) (hi:=v 169) (by rw [z69,z70,l53];omega) (ae hs 159 rfl) (ae hs 160 rfl) (ae hs 162 rfl) (ae hs 163 rfl) (ae hs 164 rfl) (ae hs 166 rfl) (ae hs 167 rfl) (ae hs 168 rfl) (ae hs 169 rfl)
     rw [z69,z70,l53] at t149;have k170:v 170=1:=by have h:v 170=b2i (v 168==v 69):=ae hs 170 rfl;have g:v 168=v 69:=(by rw [t149.1,z69];split<;>(first|omega|(rename_i g;have:=wM (by omega);omega)));rw [h,g,beq_self_eq_true];rfl
     have k171:v 171=1:=by have h:v 171=b2i (v 169==v 70):=ae hs 171 rfl;have g:v 169=v 70:=(by rw [t149.2,z70,l53];split<;>(first|omega|(rename_i g;have:=wM (by omega);omega)));rw [h,g,beq_self_eq_true];rfl
     have k177:v 177=1:=by have h:v 177=b2i (decide (v 101<=v 102)):=ae hs 177 rfl;rw [h,decide_eq_true (by rw [z101,z102,l78,l79];omega)];rfl
     have k178:v 178=1:=by have h:v 178=b2i (decide (v 101>=-5400000)):=ae hs 178 rfl;rw [h,decide_eq_true (by rw [z101,l78];omega)];rfl
     have k180:v 180=1:=by have h:v 180=b2i (decide (v 102<=5400000)):=ae hs 180 rfl;rw [h,decide_eq_true (by rw [z102,l79];omega)];rfl
     have k182:v 182=1:=by have h:v 182=b2i (decide (v 103<=v 104)):=ae hs 182 rfl;rw [h,decide_eq_true (by rw [z103,z104,l87];omega)];rfl
     have k183:v 183=1:=by have h:v 183=b2i (decide (v 103>=-1099511627776)):=ae hs 183 rfl;rw [h,decide_eq_true (by rw [z103];omega)];rfl
     have k185:v 185=1:=by have h:v 185=b2i (decide (v 104<=1099511627776)):=ae hs 185 rfl;rw [h,decide_eq_true (by rw [z104,l87];omega)];rfl
     have t177:=yn (X:=v 103) (Y:=v 104) (w:=v 187) (g:=v 188) (r:=v 190) (l:=v 191) (u:=v 192) (q:=v 194) (s:=v 195) (lo:=v 196) (hi:=v 197) (by rw [z103,z104,l87];omega) (ae hs 187 rfl) (ae hs 188 rfl) (ae hs 190 rfl) (ae hs 191 rfl) (ae hs 192 rfl) (ae hs 194 rfl) (ae hs 195 rfl) (ae hs 196 rfl) (ae hs 197 rfl)
     rw [z103,z104,l87] at t177;have k198:v 198=1:=by have h:v 198=b2i (v 196==v 103):=ae hs 198 rfl;have g:v 196=v 103:=(by rw [t177.1,z103];split<;>(first|omega|(rename_i g;have:=wN (by omega);omega)));rw [h,g,beq_self_eq_true];rfl
     have k199:v 199=1:=by have h:v 199=b2i (v 197==v 104):=ae hs 199 rfl;have g:v 197=v 104:=(by rw [t177.2,z104,l87];split<;>(first|omega|(rename_i g;have:=wN (by omega);omega)));rw [h,g,beq_self_eq_true];rfl
     have k205:v 205=1:=by have h:v 205=b2i (v 67==v 35):=ae hs 205 rfl;have g:v 67=v 35:=(by rw [z67,l44,z35]);rw [h,g,beq_self_eq_true];rfl
     have k206:v 206=1:=by have h:v 206=b2i (v 68==v 36):=ae hs 206 rfl;have g:v 68=v 36:=(by rw [z68,l45,z36]);rw [h,g,beq_self_eq_true];rfl
     have k210:v 210=1:=by have h:v 210=b2i (v 101==v 35):=ae hs 210 rfl;have g:v 101=v 35:=(by rw [z101,l78,z35]);rw [h,g,beq_self_eq_true];rfl
     have k211:v 211=1:=by have h:v 211=b2i (v 102==v 36):=ae hs 211 rfl;have g:v 102=v 36:=(by rw [z102,l79,z36]);rw [h,g,beq_self_eq_true];rfl
     have k215:v 215=1:=by have h:v 215=b2i (v 112==v 35):=ae hs 215 rfl;have g:v 112=v 35:=(by rw [z112,l108,z35]);rw [h,g,beq_self_eq_true];rfl
     have k216:v 216=1:=by have h:v 216=b2i (v 113==v 36):=ae hs 216 rfl;have g:v 113=v 36:=(by rw [z113,l109,z36]);rw [h,g,beq_self_eq_true];rfl
     have e221:v 221=-(v 21):=by have h:v 221=IntKind.i64.wrap (0-v 38):=ae hs 221 rfl;rw [h,z38,Go.IntWalk.i64_in _ (by omega)];omega
     have e222:v 222=-(v 20):=by have h:v 222=IntKind.i64.wrap (0-v 37):=ae hs 222 rfl;rw [h,z37,Go.IntWalk.i64_in _ (by omega)];omega
     have e246:v 246=10800000-v 21:=by have h:v 246=IntKind.i64.wrap (10800000-v 38):=ae hs 246 rfl;rw [h,z38,Go.IntWalk.i64_in _ (by omega)]
     have e247:v 247=10800000-v 20:=by have h:v 247=IntKind.i64.wrap (10800000-v 37):=ae hs 247 rfl;rw [h,z37,Go.IntWalk.i64_in _ (by omega)]
     have k224:v 224=1:=by have h:v 224=b2i (decide (v 221<=v 222)):=ae hs 224 rfl;rw [h,decide_eq_true (by rw [e221,e222];omega)];rfl
     have k225:v 225=1:=by have h:v 225=b2i (decide (v 221>=-1099511627776)):=ae hs 225 rfl;rw [h,decide_eq_true (by rw [e221];omega)];rfl
     have k226:v 226=1:=by have h:v 226=b2i (decide (v 221<=1099511627776)):=ae hs 226 rfl;rw [h,decide_eq_true (by rw [e221];omega)];rfl
     have k229:v 229=1:=by have h:v 229=b2i (decide (v 222>=-1099511627776)):=ae hs 229 rfl;rw [h,decide_eq_true (by rw [e222];omega)];rfl
     have k230:v 230=1:=by have h:v 230=b2i (decide (v 222<=1099511627776)):=ae hs 230 rfl;rw [h,decide_eq_true (by rw [e222];omega)];rfl
     have k249:v 249=1:=by have h:v 249=b2i (decide (v 246<=v 247)):=ae hs 249 rfl;rw [h,decide_eq_true (by rw [e246,e247];omega)];rfl
     have k250:v 250=1:=by have h:v 250=b2i (decide (v 246>=-1099511627776)):=ae hs 250 rfl;rw [h,decide_eq_true (by rw [e246];omega)];rfl
     have k251:v 251=1:=by have h:v 251=b2i (decide (v 246<=1099511627776)):=ae hs 251 rfl;rw [h,decide_eq_true (by rw [e246];omega)];rfl
     have k254:v 254=1:=by have h:v 254=b2i (decide (v 247>=-1099511627776)):=ae hs 254 rfl;rw [h,decide_eq_true (by rw [e247];omega)];rfl
     have k255:v 255=1:=by have h:v 255=b2i (decide (v 247<=1099511627776)):=ae hs 255 rfl;rw [h,decide_eq_true (by rw [e247];omega)];rfl
     have z244:v 244=v 242:=aJ (X:=cxF [a0,a1,a2,a3,a4,a5]) (v:=v) (l:=qi) (ma _) hs (k:=244) (j:=242) (ps:=[(9,.c 1),(41,.c 1),(75,.c 1),(105,.c 1),(224,.c 1),(225,.c 1),(226,.c 1),(229,.c 1),(230,.c 1)]) (af q (af q41 (af q75 (af q105 (af k224 (af k225 (af k226 (af k229 (af k230 ay))))))))) (by kernel_rfl)
     have z245:v 245=v 243:=aJ (X:=cxF [a0,a1,a2,a3,a4,a5]) (v:=v) (l:=qi) (ma _) hs (k:=245) (j:=243) (ps:=[(9,.c 1),(41,.c 1),(75,.c 1),(105,.c 1),(224,.c 1),(225,.c 1),(226,.c 1),(229,.c 1),(230,.c 1)]) (af q (af q41 (af q75 (af q105 (af k224 (af k225 (af k226 (af k229 (af k230 ay))))))))) (by kernel_rfl)
     have z269:v 269=v 267:=aJ (X:=cxF [a0,a1,a2,a3,a4,a5]) (v:=v) (l:=qi) (ma _) hs (k:=269) (j:=267) (ps:=[(9,.c 1),(41,.c 1),(75,.c 1),(105,.c 1),(249,.c 1),(250,.c 1),(251,.c 1),(254,.c 1),(255,.c 1)]) (af q (af q41 (af q75 (af q105 (af k249 (af k250 (af k251 (af k254 (af k255 ay))))))))) (by kernel_rfl)
     have z270:v 270=v 268:=aJ (X:=cxF [a0,a1,a2,a3,a4,a5]) (v:=v) (l:=qi) (ma _) hs (k:=270) (j:=268) (ps:=[(9,.c 1),(41,.c 1),(75,.c 1),(105,.c 1),(249,.c 1),(250,.c 1),(251,.c 1),(254,.c 1),(255,.c 1)]) (af q (af q41 (af q75 (af q105 (af k249 (af k250 (af k251 (af k254 (af k255 ay))))))))) (by kernel_rfl)
     have t221:=yn (X:=v 221) (Y:=v 222) (w:=v 223) (g:=v 234) (r:=v 235) (l:=v 236) (u:=v 237) (q:=v 239) (s:=v 240) (lo:=v 242) (hi:=v 243) (by rw [e221,e222];omega) (ae hs 223 rfl) (ae hs 234 rfl) (ae hs 235 rfl) (ae hs 236 rfl) (ae hs 237 rfl) (ae hs 239 rfl) (ae hs 240 rfl) (ae hs 242 rfl) (ae hs 243 rfl)
     have t246:=yn (X:=v 246) (Y:=v 247) (w:=v 248) (g:=v 259) (r:=v 260) (l:=v 261) (u:=v 262) (q:=v 264) (s:=v 265) (lo:=v 267) (hi:=v 268) (by rw [e246,e247];omega) (ae hs 248 rfl) (ae hs 259 rfl) (ae hs 260 rfl) (ae hs 261 rfl) (ae hs 262 rfl) (ae hs 264 rfl) (ae hs 265 rfl) (ae hs 267 rfl) (ae hs 268 rfl)
     rw [e221,e222] at t221;rw [e246,e247] at t246;have k274:v 274=1:=by have h:v 274=b2i (v 69==v 244):=ae hs 274 rfl;have g:v 69=v 244:=(by rw [z69,z244,t221.1];split<;>(first|(rw [l52];done)|omega|(rename_i g;have:=wM (by omega);omega)));rw [h,g,beq_self_eq_true];rfl
     have k275:v 275=1:=by have h:v 275=b2i (v 70==v 245):=ae hs 275 rfl;have g:v 70=v 245:=(by rw [z70,z245,t221.2,l53];split<;>(first|omega|(rename_i g;have:=wM (by omega);have:=bZ.2 (by omega);omega)));rw [h,g,beq_self_eq_true];rfl
     have k278:v 278=1:=by have h:v 278=b2i (v 103==v 269):=ae hs 278 rfl;have g:v 103=v 269:=(by rw [z103,z269,t246.1,l86];split<;>split<;>omega);rw [h,g,beq_self_eq_true];rfl
     have k279:v 279=1:=by have h:v 279=b2i (v 104==v 270):=ae hs 279 rfl;have g:v 104=v 270:=(by rw [z104,z270,t246.2,l87];split<;>(first|(rw [l86];split<;>omega)|(rename_i g;have:=wN (by omega);have:=bZ.2 (by omega);omega)));rw [h,g,beq_self_eq_true];rfl
     have ON:∀ k∈([9,41,75,105,121,122,124,126,127,129,142,143,149,150,152,154,155,157,170,171,177,178,180,182,183,185,198,199,205,206,210,211,215,216,224,225,226,229,230,249,250,251,254,255,274,275,278,279]:List Nat),v k=1:=by
      intro k hk;simp only [List.mem_cons,List.not_mem_nil,or_false] at hk;rcases hk with rfl|rfl|rfl|rfl|rfl|rfl|rfl|rfl|rfl|rfl|rfl|rfl|rfl|rfl|rfl|rfl|rfl|rfl|rfl|rfl|rfl|rfl|rfl|rfl|rfl|rfl|rfl|rfl|rfl|rfl|rfl|rfl|rfl|rfl|rfl|rfl|rfl|rfl|rfl|rfl|rfl|rfl|rfl|rfl|rfl|rfl|rfl|rfl<;>assumption
     exact aI (X:=cxF [a0,a1,a2,a3,a4,a5]) (v:=v) (l:=qi) (ma _) hs (k:=284) (r:=.c 1) (ps:=([9,41,75,105,121,122,124,126,127,129,142,143,149,150,152,154,155,157,170,171,177,178,180,182,183,185,198,199,205,206,210,211,215,216,224,225,226,229,230,249,250,251,254,255,274,275,278,279]:List Nat).map fun k=>(k,Rf.c 1)) (nz:=[]) (afq _ ON) bf (by kernel_rfl)
   . exact aI (X:=cxF [a0,a1,a2,a3,a4,a5]) (v:=v) (l:=qi) (ma _) hs (k:=284) (r:=.c 1) (ps:=[(9,.c 0)]) (nz:=[]) (af q ay) bf (by kernel_rfl)
