/- The law's example of layer 24 holds: awake returns true. -/
import Derived.Test.YtfffpodaabdpfaaGreatSp
set_option linter.unusedVariables false
set_option linter.unusedSimpArgs false
namespace Go.Proofs.YtfffpodaabdpfaaGreat
open Go.RowKit Alm Sx
def nd_aw24 : List Nd := [
  .app 6 0 [.c 0, .c 0],
  .app 6 1 [.c 0, .c 0],
  .app 6 2 [.c 0, .c 0],
  .app 6 0 [.c 5400000, .c 5400000],
  .app 6 1 [.c 5400000, .c 5400000],
  .app 6 2 [.c 5400000, .c 5400000],
  .bin .eql .i64 (.n 2) (.c 0),
  .ite (.n 6) (.c 0) (.c 1),
  .ite (.n 6) (.n 5) (.n 2),
  .app 0 0 [.n 0, .n 1, .n 3, .n 4],
  .app 0 1 [.n 0, .n 1, .n 3, .n 4],
  .app 0 2 [.n 0, .n 1, .n 3, .n 4],
  .bin .eql .i64 (.n 8) (.c 0),
  .ite (.n 12) (.c 0) (.c 1),
  .ite (.n 12) (.n 11) (.n 8),
  .app 5 0 [.c 5400000, .c 5400000],
  .app 5 1 [.c 5400000, .c 5400000],
  .app 5 2 [.c 5400000, .c 5400000],
  .bin .eql .i64 (.n 14) (.c 0),
  .ite (.n 18) (.c 0) (.c 1),
  .ite (.n 18) (.n 17) (.n 14),
  .app 0 0 [.n 0, .n 1, .n 15, .n 16],
  .app 0 1 [.n 0, .n 1, .n 15, .n 16],
  .app 0 2 [.n 0, .n 1, .n 15, .n 16],
  .bin .eql .i64 (.n 20) (.c 0),
  .ite (.n 24) (.c 0) (.c 1),
  .ite (.n 24) (.n 23) (.n 20),
  .app 5 0 [.c 0, .c 0],
  .app 5 1 [.c 0, .c 0],
  .app 5 2 [.c 0, .c 0],
  .bin .eql .i64 (.n 26) (.c 0),
  .ite (.n 30) (.c 0) (.c 1),
  .ite (.n 30) (.n 29) (.n 26),
  .bin .neq .i64 (.n 32) (.c 0),
  .ite (.n 33) (.c 0) (.c 1),
  .ite (.n 33) (.n 32) (.c 0),
  .ite (.n 33) (.c 0) (.n 9),
  .ite (.n 33) (.c 0) (.n 10),
  .ite (.n 33) (.c 0) (.n 21),
  .ite (.n 33) (.c 0) (.n 22),
  .ite (.n 33) (.c 0) (.n 27),
  .ite (.n 33) (.c 0) (.n 28),
  .app 8 0 [.n 36, .n 37],
  .app 8 0 [.n 38, .n 39],
  .ite (.n 42) (.n 43) (.c 0),
  .app 8 0 [.n 40, .n 41],
  .ite (.n 44) (.n 45) (.c 0),
  .ite (.n 46) (.c 0) (.c 1),
  .app 8 0 [.c 0, .c 0],
  .ite (.n 48) (.n 48) (.c 0),
  .app 8 0 [.c 1073741824, .c 1073741824],
  .ite (.n 49) (.n 50) (.c 0),
  .ite (.n 51) (.c 0) (.c 1),
  .ite (.n 47) (.c 1) (.n 52),
  .ite (.n 53) (.c 0) (.c 1),
  .app 0 0 [.n 38, .n 39, .c 1073741824, .c 1073741824],
  .app 0 1 [.n 38, .n 39, .c 1073741824, .c 1073741824],
  .app 0 2 [.n 38, .n 39, .c 1073741824, .c 1073741824],
  .app 0 0 [.n 40, .n 41, .c 0, .c 0],
  .app 0 1 [.n 40, .n 41, .c 0, .c 0],
  .app 0 2 [.n 40, .n 41, .c 0, .c 0],
  .bin .eql .i64 (.n 57) (.c 0),
  .ite (.n 61) (.c 0) (.c 1),
  .ite (.n 61) (.n 60) (.n 57),
  .app 2 0 [.n 55, .n 56, .n 58, .n 59],
  .app 2 1 [.n 55, .n 56, .n 58, .n 59],
  .app 2 2 [.n 55, .n 56, .n 58, .n 59],
  .bin .eql .i64 (.n 63) (.c 0),
  .ite (.n 67) (.c 0) (.c 1),
  .ite (.n 67) (.n 66) (.n 63),
  .bin .eql .i64 (.n 69) (.c 0),
  .ite (.n 70) (.c 0) (.c 1),
  .ite (.n 70) (.n 60) (.n 69),
  .app 0 0 [.n 36, .n 37, .c 1073741824, .c 1073741824],
  .app 0 1 [.n 36, .n 37, .c 1073741824, .c 1073741824],
  .app 0 2 [.n 36, .n 37, .c 1073741824, .c 1073741824],
  .bin .eql .i64 (.n 72) (.c 0),
  .ite (.n 76) (.c 0) (.c 1),
  .ite (.n 76) (.n 75) (.n 72),
  .app 2 0 [.n 58, .n 59, .n 73, .n 74],
  .app 2 1 [.n 58, .n 59, .n 73, .n 74],
  .app 2 2 [.n 58, .n 59, .n 73, .n 74],
  .bin .eql .i64 (.n 78) (.c 0),
  .ite (.n 82) (.c 0) (.c 1),
  .ite (.n 82) (.n 81) (.n 78),
  .app 0 0 [.n 36, .n 37, .c 0, .c 0],
  .app 0 1 [.n 36, .n 37, .c 0, .c 0],
  .app 0 2 [.n 36, .n 37, .c 0, .c 0],
  .bin .eql .i64 (.n 84) (.c 0),
  .ite (.n 88) (.c 0) (.c 1),
  .ite (.n 88) (.n 87) (.n 84),
  .app 0 0 [.n 38, .n 39, .c 0, .c 0],
  .app 0 1 [.n 38, .n 39, .c 0, .c 0],
  .app 0 2 [.n 38, .n 39, .c 0, .c 0],
  .bin .eql .i64 (.n 90) (.c 0),
  .ite (.n 94) (.c 0) (.c 1),
  .ite (.n 94) (.n 93) (.n 90),
  .app 2 0 [.n 85, .n 86, .n 91, .n 92],
  .app 2 1 [.n 85, .n 86, .n 91, .n 92],
  .app 2 2 [.n 85, .n 86, .n 91, .n 92],
  .bin .eql .i64 (.n 96) (.c 0),
  .ite (.n 100) (.c 0) (.c 1),
  .ite (.n 100) (.n 99) (.n 96),
  .app 3 0 [.n 64, .n 65],
  .app 3 1 [.n 64, .n 65],
  .app 3 2 [.n 64, .n 65],
  .bin .eql .i64 (.n 102) (.c 0),
  .ite (.n 106) (.c 0) (.c 1),
  .ite (.n 106) (.n 105) (.n 102),
  .app 3 0 [.n 79, .n 80],
  .app 3 1 [.n 79, .n 80],
  .app 3 2 [.n 79, .n 80],
  .bin .eql .i64 (.n 108) (.c 0),
  .ite (.n 112) (.c 0) (.c 1),
  .ite (.n 112) (.n 111) (.n 108),
  .app 1 0 [.n 103, .n 104, .n 109, .n 110],
  .app 1 1 [.n 103, .n 104, .n 109, .n 110],
  .app 1 2 [.n 103, .n 104, .n 109, .n 110],
  .bin .eql .i64 (.n 114) (.c 0),
  .ite (.n 118) (.c 0) (.c 1),
  .ite (.n 118) (.n 117) (.n 114),
  .app 3 0 [.n 97, .n 98],
  .app 3 1 [.n 97, .n 98],
  .app 3 2 [.n 97, .n 98],
  .bin .eql .i64 (.n 120) (.c 0),
  .ite (.n 124) (.c 0) (.c 1),
  .ite (.n 124) (.n 123) (.n 120),
  .app 1 0 [.n 115, .n 116, .n 121, .n 122],
  .app 1 1 [.n 115, .n 116, .n 121, .n 122],
  .app 1 2 [.n 115, .n 116, .n 121, .n 122],
  .bin .eql .i64 (.n 126) (.c 0),
  .ite (.n 130) (.c 0) (.c 1),
  .ite (.n 130) (.n 129) (.n 126),
  .app 4 0 [.n 127, .n 128],
  .app 4 1 [.n 127, .n 128],
  .app 4 2 [.n 127, .n 128],
  .bin .eql .i64 (.n 132) (.c 0),
  .ite (.n 136) (.c 0) (.c 1),
  .ite (.n 136) (.n 135) (.n 132),
  .bin .eql .i64 (.n 138) (.c 0),
  .ite (.n 139) (.c 0) (.c 1),
  .ite (.n 139) (.n 87) (.n 138),
  .bin .eql .i64 (.n 141) (.c 0),
  .ite (.n 142) (.c 0) (.c 1),
  .ite (.n 142) (.n 93) (.n 141),
  .app 1 0 [.n 85, .n 86, .n 91, .n 92],
  .app 1 1 [.n 85, .n 86, .n 91, .n 92],
  .app 1 2 [.n 85, .n 86, .n 91, .n 92],
  .bin .eql .i64 (.n 144) (.c 0),
  .ite (.n 148) (.c 0) (.c 1),
  .ite (.n 148) (.n 147) (.n 144),
  .app 0 0 [.n 40, .n 41, .c 1073741824, .c 1073741824],
  .app 0 1 [.n 40, .n 41, .c 1073741824, .c 1073741824],
  .app 0 2 [.n 40, .n 41, .c 1073741824, .c 1073741824],
  .bin .eql .i64 (.n 150) (.c 0),
  .ite (.n 154) (.c 0) (.c 1),
  .ite (.n 154) (.n 153) (.n 150),
  .app 1 0 [.n 145, .n 146, .n 151, .n 152],
  .app 1 1 [.n 145, .n 146, .n 151, .n 152],
  .app 1 2 [.n 145, .n 146, .n 151, .n 152],
  .bin .eql .i64 (.n 156) (.c 0),
  .ite (.n 160) (.c 0) (.c 1),
  .ite (.n 160) (.n 159) (.n 156),
  .bin .neq .i64 (.n 162) (.c 0),
  .ite (.n 163) (.c 0) (.c 1),
  .app 7 0 [.n 133, .n 134, .n 157, .n 158],
  .app 7 1 [.n 133, .n 134, .n 157, .n 158],
  .app 7 2 [.n 133, .n 134, .n 157, .n 158],
  .bin .neq .i64 (.n 167) (.c 0),
  .bin .sub .i64 (.n 166) (.n 165),
  .bin .geq .i64 (.n 169) (.c 21600000),
  .ite (.n 170) (.c 0) (.c 1),
  .ite (.n 168) (.c 0) (.c 1),
  .ite (.n 172) (.n 171) (.c 0),
  .ite (.n 172) (.n 170) (.c 0),
  .ite (.n 168) (.c 1) (.n 174),
  .ite (.n 168) (.n 167) (.c 24),
  .ite (.n 175) (.c 1) (.n 173),
  .ite (.n 175) (.n 176) (.c 0),
  .ite (.n 175) (.c 0) (.n 165),
  .ite (.n 175) (.c 0) (.n 166),
  .ite (.n 164) (.n 177) (.c 0),
  .ite (.n 163) (.c 1) (.n 181),
  .ite (.n 163) (.n 162) (.n 178),
  .ite (.n 163) (.c 0) (.n 179),
  .ite (.n 163) (.c 0) (.n 180),
  .ite (.n 54) (.n 182) (.c 0),
  .ite (.n 53) (.c 1) (.n 186),
  .ite (.n 53) (.c 1) (.n 183),
  .ite (.n 53) (.c 0) (.n 184),
  .ite (.n 53) (.c 0) (.n 185),
  .bin .eql .i64 (.n 35) (.c 0),
  .bin .eql .i64 (.n 36) (.c 0),
  .bin .eql .i64 (.n 37) (.c 0),
  .bin .eql .i64 (.n 38) (.c 1073741824),
  .bin .eql .i64 (.n 39) (.c 1073741824),
  .bin .eql .i64 (.n 40) (.c 0),
  .bin .eql .i64 (.n 41) (.c 0),
  .ite (.n 196) (.n 197) (.c 0),
  .ite (.n 195) (.n 198) (.c 0),
  .ite (.n 194) (.n 199) (.c 0),
  .ite (.n 193) (.n 200) (.c 0),
  .ite (.n 192) (.n 201) (.c 0),
  .ite (.n 191) (.n 202) (.c 0),
  .bin .eql .i64 (.n 188) (.c 0),
  .ite (.n 203) (.n 204) (.c 0),
  .bin .eql .i64 (.n 189) (.c 5400000),
  .bin .eql .i64 (.n 190) (.c 5400000),
  .ite (.n 206) (.n 207) (.c 0),
  .ite (.n 205) (.n 208) (.c 0),
  .ite (.n 209) (.n 46) (.c 0)]
def vc_aw24 : List Vc := [
  ⟨[], .pre 6 [.c 0, .c 0]⟩,
  ⟨[], .pre 6 [.c 5400000, .c 5400000]⟩,
  ⟨[], .pre 0 [.n 0, .n 1, .n 3, .n 4]⟩,
  ⟨[], .pre 5 [.c 5400000, .c 5400000]⟩,
  ⟨[], .pre 0 [.n 0, .n 1, .n 15, .n 16]⟩,
  ⟨[], .pre 5 [.c 0, .c 0]⟩,
  ⟨[], .pre 8 [.n 36, .n 37]⟩,
  ⟨[(.n 42, true)], .pre 8 [.n 38, .n 39]⟩,
  ⟨[(.n 44, true)], .pre 8 [.n 40, .n 41]⟩,
  ⟨[(.n 47, false)], .pre 8 [.c 0, .c 0]⟩,
  ⟨[(.n 47, false), (.n 48, true)], .pre 8 [.c 0, .c 0]⟩,
  ⟨[(.n 47, false), (.n 49, true)], .pre 8 [.c 1073741824, .c 1073741824]⟩,
  ⟨[(.n 54, true)], .pre 0 [.n 38, .n 39, .c 1073741824, .c 1073741824]⟩,
  ⟨[(.n 54, true)], .pre 0 [.n 40, .n 41, .c 0, .c 0]⟩,
  ⟨[(.n 54, true)], .pre 2 [.n 55, .n 56, .n 58, .n 59]⟩,
  ⟨[(.n 54, true)], .pre 0 [.n 40, .n 41, .c 0, .c 0]⟩,
  ⟨[(.n 54, true)], .pre 0 [.n 36, .n 37, .c 1073741824, .c 1073741824]⟩,
  ⟨[(.n 54, true)], .pre 2 [.n 58, .n 59, .n 73, .n 74]⟩,
  ⟨[(.n 54, true)], .pre 0 [.n 36, .n 37, .c 0, .c 0]⟩,
  ⟨[(.n 54, true)], .pre 0 [.n 38, .n 39, .c 0, .c 0]⟩,
  ⟨[(.n 54, true)], .pre 2 [.n 85, .n 86, .n 91, .n 92]⟩,
  ⟨[(.n 54, true)], .pre 3 [.n 64, .n 65]⟩,
  ⟨[(.n 54, true)], .pre 3 [.n 79, .n 80]⟩,
  ⟨[(.n 54, true)], .pre 1 [.n 103, .n 104, .n 109, .n 110]⟩,
  ⟨[(.n 54, true)], .pre 3 [.n 97, .n 98]⟩,
  ⟨[(.n 54, true)], .pre 1 [.n 115, .n 116, .n 121, .n 122]⟩,
  ⟨[(.n 54, true)], .pre 4 [.n 127, .n 128]⟩,
  ⟨[(.n 54, true)], .pre 0 [.n 36, .n 37, .c 0, .c 0]⟩,
  ⟨[(.n 54, true)], .pre 0 [.n 38, .n 39, .c 0, .c 0]⟩,
  ⟨[(.n 54, true)], .pre 1 [.n 85, .n 86, .n 91, .n 92]⟩,
  ⟨[(.n 54, true)], .pre 0 [.n 40, .n 41, .c 1073741824, .c 1073741824]⟩,
  ⟨[(.n 54, true)], .pre 1 [.n 145, .n 146, .n 151, .n 152]⟩,
  ⟨[(.n 164, true), (.n 54, true)], .pre 7 [.n 133, .n 134, .n 157, .n 158]⟩,
  ⟨[(.n 209, true)], .pre 8 [.n 36, .n 37]⟩,
  ⟨[(.n 209, true), (.n 42, true)], .pre 8 [.n 38, .n 39]⟩,
  ⟨[(.n 209, true), (.n 44, true)], .pre 8 [.n 40, .n 41]⟩]
theorem wh_aw24 : whole Tryz.prog spProg 20 30 15 [] = some (.p (.c (.bool (.n 210))), ⟨nd_aw24.reverse, vc_aw24.reverse⟩) := by kernel_rfl
theorem wf_aw24 : wfN nd_aw24.reverse = true := by kernel_rfl
set_option maxRecDepth 100000 in
theorem c_awake24 (w : World) : Calls Tryz.prog 15 #[] w fun e w' => e = .returned (.bool true) ∧ Below w.heap.size w w' := by
  refine Sx.calls (X := cxB []) hmix (spProg_ok _) wh_aw24 wf_aw24 (fun v hs => ?_) w
  have e0 : v 0 = (semB 6 [(0 : Int), (0 : Int)]).getD 0 0 := satF hs 0 rfl
  have f0 : v 0 = (1073741824 : Int) := e0.trans (by decide +kernel)
  have e1 : v 1 = (semB 6 [(0 : Int), (0 : Int)]).getD 1 0 := satF hs 1 rfl
  have f1 : v 1 = (1073741824 : Int) := e1.trans (by decide +kernel)
  have e2 : v 2 = (semB 6 [(0 : Int), (0 : Int)]).getD 2 0 := satF hs 2 rfl
  have f2 : v 2 = (0 : Int) := e2.trans (by decide +kernel)
  have e3 : v 3 = (semB 6 [(5400000 : Int), (5400000 : Int)]).getD 0 0 := satF hs 3 rfl
  have f3 : v 3 = (0 : Int) := e3.trans (by decide +kernel)
  have e4 : v 4 = (semB 6 [(5400000 : Int), (5400000 : Int)]).getD 1 0 := satF hs 4 rfl
  have f4 : v 4 = (0 : Int) := e4.trans (by decide +kernel)
  have e5 : v 5 = (semB 6 [(5400000 : Int), (5400000 : Int)]).getD 2 0 := satF hs 5 rfl
  have f5 : v 5 = (0 : Int) := e5.trans (by decide +kernel)
  have e6 : v 6 = b2i (v 2 == (0 : Int)) := satF hs 6 rfl
  have n6 : v 6 = b2i ((0 : Int) == (0 : Int)) := e6.trans (by rw [f2])
  have f6 : v 6 = (1 : Int) := n6.trans (by decide)
  have e7 : v 7 = if v 6 ≠ 0 then (0 : Int) else (1 : Int) := satF hs 7 rfl
  have n7 : v 7 = if (1 : Int) ≠ 0 then (0 : Int) else (1 : Int) := e7.trans (by rw [f6])
  have f7 : v 7 = (0 : Int) := n7.trans (if_pos (by decide))
  have e8 : v 8 = if v 6 ≠ 0 then v 5 else v 2 := satF hs 8 rfl
  have n8 : v 8 = if (1 : Int) ≠ 0 then (0 : Int) else (0 : Int) := e8.trans (by rw [f6, f5, f2])
  have f8 : v 8 = (0 : Int) := n8.trans (if_pos (by decide))
  have e9 : v 9 = (semB 0 [v 0, v 1, v 3, v 4]).getD 0 0 := satF hs 9 rfl
  have n9 : v 9 = (semB 0 [(1073741824 : Int), (1073741824 : Int), (0 : Int), (0 : Int)]).getD 0 0 := e9.trans (by rw [f0, f1, f3, f4])
  have f9 : v 9 = (0 : Int) := n9.trans (by decide +kernel)
  have e10 : v 10 = (semB 0 [v 0, v 1, v 3, v 4]).getD 1 0 := satF hs 10 rfl
  have n10 : v 10 = (semB 0 [(1073741824 : Int), (1073741824 : Int), (0 : Int), (0 : Int)]).getD 1 0 := e10.trans (by rw [f0, f1, f3, f4])
  have f10 : v 10 = (0 : Int) := n10.trans (by decide +kernel)
  have e11 : v 11 = (semB 0 [v 0, v 1, v 3, v 4]).getD 2 0 := satF hs 11 rfl
  have n11 : v 11 = (semB 0 [(1073741824 : Int), (1073741824 : Int), (0 : Int), (0 : Int)]).getD 2 0 := e11.trans (by rw [f0, f1, f3, f4])
  have f11 : v 11 = (0 : Int) := n11.trans (by decide +kernel)
  have e12 : v 12 = b2i (v 8 == (0 : Int)) := satF hs 12 rfl
  have n12 : v 12 = b2i ((0 : Int) == (0 : Int)) := e12.trans (by rw [f8])
  have f12 : v 12 = (1 : Int) := n12.trans (by decide)
  have e13 : v 13 = if v 12 ≠ 0 then (0 : Int) else (1 : Int) := satF hs 13 rfl
  have n13 : v 13 = if (1 : Int) ≠ 0 then (0 : Int) else (1 : Int) := e13.trans (by rw [f12])
  have f13 : v 13 = (0 : Int) := n13.trans (if_pos (by decide))
  have e14 : v 14 = if v 12 ≠ 0 then v 11 else v 8 := satF hs 14 rfl
  have n14 : v 14 = if (1 : Int) ≠ 0 then (0 : Int) else (0 : Int) := e14.trans (by rw [f12, f11, f8])
  have f14 : v 14 = (0 : Int) := n14.trans (if_pos (by decide))
  have e15 : v 15 = (semB 5 [(5400000 : Int), (5400000 : Int)]).getD 0 0 := satF hs 15 rfl
  have f15 : v 15 = (1073741824 : Int) := e15.trans (by decide +kernel)
  have e16 : v 16 = (semB 5 [(5400000 : Int), (5400000 : Int)]).getD 1 0 := satF hs 16 rfl
  have f16 : v 16 = (1073741824 : Int) := e16.trans (by decide +kernel)
  have e17 : v 17 = (semB 5 [(5400000 : Int), (5400000 : Int)]).getD 2 0 := satF hs 17 rfl
  have f17 : v 17 = (0 : Int) := e17.trans (by decide +kernel)
  have e18 : v 18 = b2i (v 14 == (0 : Int)) := satF hs 18 rfl
  have n18 : v 18 = b2i ((0 : Int) == (0 : Int)) := e18.trans (by rw [f14])
  have f18 : v 18 = (1 : Int) := n18.trans (by decide)
  have e19 : v 19 = if v 18 ≠ 0 then (0 : Int) else (1 : Int) := satF hs 19 rfl
  have n19 : v 19 = if (1 : Int) ≠ 0 then (0 : Int) else (1 : Int) := e19.trans (by rw [f18])
  have f19 : v 19 = (0 : Int) := n19.trans (if_pos (by decide))
  have e20 : v 20 = if v 18 ≠ 0 then v 17 else v 14 := satF hs 20 rfl
  have n20 : v 20 = if (1 : Int) ≠ 0 then (0 : Int) else (0 : Int) := e20.trans (by rw [f18, f17, f14])
  have f20 : v 20 = (0 : Int) := n20.trans (if_pos (by decide))
  have e21 : v 21 = (semB 0 [v 0, v 1, v 15, v 16]).getD 0 0 := satF hs 21 rfl
  have n21 : v 21 = (semB 0 [(1073741824 : Int), (1073741824 : Int), (1073741824 : Int), (1073741824 : Int)]).getD 0 0 := e21.trans (by rw [f0, f1, f15, f16])
  have f21 : v 21 = (1073741824 : Int) := n21.trans (by decide +kernel)
  have e22 : v 22 = (semB 0 [v 0, v 1, v 15, v 16]).getD 1 0 := satF hs 22 rfl
  have n22 : v 22 = (semB 0 [(1073741824 : Int), (1073741824 : Int), (1073741824 : Int), (1073741824 : Int)]).getD 1 0 := e22.trans (by rw [f0, f1, f15, f16])
  have f22 : v 22 = (1073741824 : Int) := n22.trans (by decide +kernel)
  have e23 : v 23 = (semB 0 [v 0, v 1, v 15, v 16]).getD 2 0 := satF hs 23 rfl
  have n23 : v 23 = (semB 0 [(1073741824 : Int), (1073741824 : Int), (1073741824 : Int), (1073741824 : Int)]).getD 2 0 := e23.trans (by rw [f0, f1, f15, f16])
  have f23 : v 23 = (0 : Int) := n23.trans (by decide +kernel)
  have e24 : v 24 = b2i (v 20 == (0 : Int)) := satF hs 24 rfl
  have n24 : v 24 = b2i ((0 : Int) == (0 : Int)) := e24.trans (by rw [f20])
  have f24 : v 24 = (1 : Int) := n24.trans (by decide)
  have e25 : v 25 = if v 24 ≠ 0 then (0 : Int) else (1 : Int) := satF hs 25 rfl
  have n25 : v 25 = if (1 : Int) ≠ 0 then (0 : Int) else (1 : Int) := e25.trans (by rw [f24])
  have f25 : v 25 = (0 : Int) := n25.trans (if_pos (by decide))
  have e26 : v 26 = if v 24 ≠ 0 then v 23 else v 20 := satF hs 26 rfl
  have n26 : v 26 = if (1 : Int) ≠ 0 then (0 : Int) else (0 : Int) := e26.trans (by rw [f24, f23, f20])
  have f26 : v 26 = (0 : Int) := n26.trans (if_pos (by decide))
  have e27 : v 27 = (semB 5 [(0 : Int), (0 : Int)]).getD 0 0 := satF hs 27 rfl
  have f27 : v 27 = (0 : Int) := e27.trans (by decide +kernel)
  have e28 : v 28 = (semB 5 [(0 : Int), (0 : Int)]).getD 1 0 := satF hs 28 rfl
  have f28 : v 28 = (0 : Int) := e28.trans (by decide +kernel)
  have e29 : v 29 = (semB 5 [(0 : Int), (0 : Int)]).getD 2 0 := satF hs 29 rfl
  have f29 : v 29 = (0 : Int) := e29.trans (by decide +kernel)
  have e30 : v 30 = b2i (v 26 == (0 : Int)) := satF hs 30 rfl
  have n30 : v 30 = b2i ((0 : Int) == (0 : Int)) := e30.trans (by rw [f26])
  have f30 : v 30 = (1 : Int) := n30.trans (by decide)
  have e31 : v 31 = if v 30 ≠ 0 then (0 : Int) else (1 : Int) := satF hs 31 rfl
  have n31 : v 31 = if (1 : Int) ≠ 0 then (0 : Int) else (1 : Int) := e31.trans (by rw [f30])
  have f31 : v 31 = (0 : Int) := n31.trans (if_pos (by decide))
  have e32 : v 32 = if v 30 ≠ 0 then v 29 else v 26 := satF hs 32 rfl
  have n32 : v 32 = if (1 : Int) ≠ 0 then (0 : Int) else (0 : Int) := e32.trans (by rw [f30, f29, f26])
  have f32 : v 32 = (0 : Int) := n32.trans (if_pos (by decide))
  have e33 : v 33 = b2i (v 32 != (0 : Int)) := satF hs 33 rfl
  have n33 : v 33 = b2i ((0 : Int) != (0 : Int)) := e33.trans (by rw [f32])
  have f33 : v 33 = (0 : Int) := n33.trans (by decide)
  have e34 : v 34 = if v 33 ≠ 0 then (0 : Int) else (1 : Int) := satF hs 34 rfl
  have n34 : v 34 = if (0 : Int) ≠ 0 then (0 : Int) else (1 : Int) := e34.trans (by rw [f33])
  have f34 : v 34 = (1 : Int) := n34.trans (if_neg (by decide))
  have e35 : v 35 = if v 33 ≠ 0 then v 32 else (0 : Int) := satF hs 35 rfl
  have n35 : v 35 = if (0 : Int) ≠ 0 then (0 : Int) else (0 : Int) := e35.trans (by rw [f33, f32])
  have f35 : v 35 = (0 : Int) := n35.trans (if_neg (by decide))
  have e36 : v 36 = if v 33 ≠ 0 then (0 : Int) else v 9 := satF hs 36 rfl
  have n36 : v 36 = if (0 : Int) ≠ 0 then (0 : Int) else (0 : Int) := e36.trans (by rw [f33, f9])
  have f36 : v 36 = (0 : Int) := n36.trans (if_neg (by decide))
  have e37 : v 37 = if v 33 ≠ 0 then (0 : Int) else v 10 := satF hs 37 rfl
  have n37 : v 37 = if (0 : Int) ≠ 0 then (0 : Int) else (0 : Int) := e37.trans (by rw [f33, f10])
  have f37 : v 37 = (0 : Int) := n37.trans (if_neg (by decide))
  have e38 : v 38 = if v 33 ≠ 0 then (0 : Int) else v 21 := satF hs 38 rfl
  have n38 : v 38 = if (0 : Int) ≠ 0 then (0 : Int) else (1073741824 : Int) := e38.trans (by rw [f33, f21])
  have f38 : v 38 = (1073741824 : Int) := n38.trans (if_neg (by decide))
  have e39 : v 39 = if v 33 ≠ 0 then (0 : Int) else v 22 := satF hs 39 rfl
  have n39 : v 39 = if (0 : Int) ≠ 0 then (0 : Int) else (1073741824 : Int) := e39.trans (by rw [f33, f22])
  have f39 : v 39 = (1073741824 : Int) := n39.trans (if_neg (by decide))
  have e40 : v 40 = if v 33 ≠ 0 then (0 : Int) else v 27 := satF hs 40 rfl
  have n40 : v 40 = if (0 : Int) ≠ 0 then (0 : Int) else (0 : Int) := e40.trans (by rw [f33, f27])
  have f40 : v 40 = (0 : Int) := n40.trans (if_neg (by decide))
  have e41 : v 41 = if v 33 ≠ 0 then (0 : Int) else v 28 := satF hs 41 rfl
  have n41 : v 41 = if (0 : Int) ≠ 0 then (0 : Int) else (0 : Int) := e41.trans (by rw [f33, f28])
  have f41 : v 41 = (0 : Int) := n41.trans (if_neg (by decide))
  have e42 : v 42 = b2i (fxV (v 36) (v 37)) := satF hs 42 rfl
  have n42 : v 42 = b2i (fxV ((0 : Int)) ((0 : Int))) := e42.trans (by rw [f36, f37])
  have f42 : v 42 = (1 : Int) := n42.trans (by decide +kernel)
  have e43 : v 43 = b2i (fxV (v 38) (v 39)) := satF hs 43 rfl
  have n43 : v 43 = b2i (fxV ((1073741824 : Int)) ((1073741824 : Int))) := e43.trans (by rw [f38, f39])
  have f43 : v 43 = (1 : Int) := n43.trans (by decide +kernel)
  have e44 : v 44 = if v 42 ≠ 0 then v 43 else (0 : Int) := satF hs 44 rfl
  have n44 : v 44 = if (1 : Int) ≠ 0 then (1 : Int) else (0 : Int) := e44.trans (by rw [f42, f43])
  have f44 : v 44 = (1 : Int) := n44.trans (if_pos (by decide))
  have e45 : v 45 = b2i (fxV (v 40) (v 41)) := satF hs 45 rfl
  have n45 : v 45 = b2i (fxV ((0 : Int)) ((0 : Int))) := e45.trans (by rw [f40, f41])
  have f45 : v 45 = (1 : Int) := n45.trans (by decide +kernel)
  have e46 : v 46 = if v 44 ≠ 0 then v 45 else (0 : Int) := satF hs 46 rfl
  have n46 : v 46 = if (1 : Int) ≠ 0 then (1 : Int) else (0 : Int) := e46.trans (by rw [f44, f45])
  have f46 : v 46 = (1 : Int) := n46.trans (if_pos (by decide))
  have e47 : v 47 = if v 46 ≠ 0 then (0 : Int) else (1 : Int) := satF hs 47 rfl
  have n47 : v 47 = if (1 : Int) ≠ 0 then (0 : Int) else (1 : Int) := e47.trans (by rw [f46])
  have f47 : v 47 = (0 : Int) := n47.trans (if_pos (by decide))
  have e48 : v 48 = b2i (fxV ((0 : Int)) ((0 : Int))) := satF hs 48 rfl
  have f48 : v 48 = (1 : Int) := e48.trans (by decide +kernel)
  have e49 : v 49 = if v 48 ≠ 0 then v 48 else (0 : Int) := satF hs 49 rfl
  have n49 : v 49 = if (1 : Int) ≠ 0 then (1 : Int) else (0 : Int) := e49.trans (by rw [f48])
  have f49 : v 49 = (1 : Int) := n49.trans (if_pos (by decide))
  have e50 : v 50 = b2i (fxV ((1073741824 : Int)) ((1073741824 : Int))) := satF hs 50 rfl
  have f50 : v 50 = (1 : Int) := e50.trans (by decide +kernel)
  have e51 : v 51 = if v 49 ≠ 0 then v 50 else (0 : Int) := satF hs 51 rfl
  have n51 : v 51 = if (1 : Int) ≠ 0 then (1 : Int) else (0 : Int) := e51.trans (by rw [f49, f50])
  have f51 : v 51 = (1 : Int) := n51.trans (if_pos (by decide))
  have e52 : v 52 = if v 51 ≠ 0 then (0 : Int) else (1 : Int) := satF hs 52 rfl
  have n52 : v 52 = if (1 : Int) ≠ 0 then (0 : Int) else (1 : Int) := e52.trans (by rw [f51])
  have f52 : v 52 = (0 : Int) := n52.trans (if_pos (by decide))
  have e53 : v 53 = if v 47 ≠ 0 then (1 : Int) else v 52 := satF hs 53 rfl
  have n53 : v 53 = if (0 : Int) ≠ 0 then (1 : Int) else (0 : Int) := e53.trans (by rw [f47, f52])
  have f53 : v 53 = (0 : Int) := n53.trans (if_neg (by decide))
  have e54 : v 54 = if v 53 ≠ 0 then (0 : Int) else (1 : Int) := satF hs 54 rfl
  have n54 : v 54 = if (0 : Int) ≠ 0 then (0 : Int) else (1 : Int) := e54.trans (by rw [f53])
  have f54 : v 54 = (1 : Int) := n54.trans (if_neg (by decide))
  have e55 : v 55 = (semB 0 [v 38, v 39, (1073741824 : Int), (1073741824 : Int)]).getD 0 0 := satF hs 55 rfl
  have n55 : v 55 = (semB 0 [(1073741824 : Int), (1073741824 : Int), (1073741824 : Int), (1073741824 : Int)]).getD 0 0 := e55.trans (by rw [f38, f39])
  have f55 : v 55 = (1073741824 : Int) := n55.trans (by decide +kernel)
  have e56 : v 56 = (semB 0 [v 38, v 39, (1073741824 : Int), (1073741824 : Int)]).getD 1 0 := satF hs 56 rfl
  have n56 : v 56 = (semB 0 [(1073741824 : Int), (1073741824 : Int), (1073741824 : Int), (1073741824 : Int)]).getD 1 0 := e56.trans (by rw [f38, f39])
  have f56 : v 56 = (1073741824 : Int) := n56.trans (by decide +kernel)
  have e57 : v 57 = (semB 0 [v 38, v 39, (1073741824 : Int), (1073741824 : Int)]).getD 2 0 := satF hs 57 rfl
  have n57 : v 57 = (semB 0 [(1073741824 : Int), (1073741824 : Int), (1073741824 : Int), (1073741824 : Int)]).getD 2 0 := e57.trans (by rw [f38, f39])
  have f57 : v 57 = (0 : Int) := n57.trans (by decide +kernel)
  have e58 : v 58 = (semB 0 [v 40, v 41, (0 : Int), (0 : Int)]).getD 0 0 := satF hs 58 rfl
  have n58 : v 58 = (semB 0 [(0 : Int), (0 : Int), (0 : Int), (0 : Int)]).getD 0 0 := e58.trans (by rw [f40, f41])
  have f58 : v 58 = (0 : Int) := n58.trans (by decide +kernel)
  have e59 : v 59 = (semB 0 [v 40, v 41, (0 : Int), (0 : Int)]).getD 1 0 := satF hs 59 rfl
  have n59 : v 59 = (semB 0 [(0 : Int), (0 : Int), (0 : Int), (0 : Int)]).getD 1 0 := e59.trans (by rw [f40, f41])
  have f59 : v 59 = (0 : Int) := n59.trans (by decide +kernel)
  have e60 : v 60 = (semB 0 [v 40, v 41, (0 : Int), (0 : Int)]).getD 2 0 := satF hs 60 rfl
  have n60 : v 60 = (semB 0 [(0 : Int), (0 : Int), (0 : Int), (0 : Int)]).getD 2 0 := e60.trans (by rw [f40, f41])
  have f60 : v 60 = (0 : Int) := n60.trans (by decide +kernel)
  have e61 : v 61 = b2i (v 57 == (0 : Int)) := satF hs 61 rfl
  have n61 : v 61 = b2i ((0 : Int) == (0 : Int)) := e61.trans (by rw [f57])
  have f61 : v 61 = (1 : Int) := n61.trans (by decide)
  have e62 : v 62 = if v 61 ≠ 0 then (0 : Int) else (1 : Int) := satF hs 62 rfl
  have n62 : v 62 = if (1 : Int) ≠ 0 then (0 : Int) else (1 : Int) := e62.trans (by rw [f61])
  have f62 : v 62 = (0 : Int) := n62.trans (if_pos (by decide))
  have e63 : v 63 = if v 61 ≠ 0 then v 60 else v 57 := satF hs 63 rfl
  have n63 : v 63 = if (1 : Int) ≠ 0 then (0 : Int) else (0 : Int) := e63.trans (by rw [f61, f60, f57])
  have f63 : v 63 = (0 : Int) := n63.trans (if_pos (by decide))
  have e64 : v 64 = (semB 2 [v 55, v 56, v 58, v 59]).getD 0 0 := satF hs 64 rfl
  have n64 : v 64 = (semB 2 [(1073741824 : Int), (1073741824 : Int), (0 : Int), (0 : Int)]).getD 0 0 := e64.trans (by rw [f55, f56, f58, f59])
  have f64 : v 64 = (1073741824 : Int) := n64.trans (by decide +kernel)
  have e65 : v 65 = (semB 2 [v 55, v 56, v 58, v 59]).getD 1 0 := satF hs 65 rfl
  have n65 : v 65 = (semB 2 [(1073741824 : Int), (1073741824 : Int), (0 : Int), (0 : Int)]).getD 1 0 := e65.trans (by rw [f55, f56, f58, f59])
  have f65 : v 65 = (1073741824 : Int) := n65.trans (by decide +kernel)
  have e66 : v 66 = (semB 2 [v 55, v 56, v 58, v 59]).getD 2 0 := satF hs 66 rfl
  have n66 : v 66 = (semB 2 [(1073741824 : Int), (1073741824 : Int), (0 : Int), (0 : Int)]).getD 2 0 := e66.trans (by rw [f55, f56, f58, f59])
  have f66 : v 66 = (0 : Int) := n66.trans (by decide +kernel)
  have e67 : v 67 = b2i (v 63 == (0 : Int)) := satF hs 67 rfl
  have n67 : v 67 = b2i ((0 : Int) == (0 : Int)) := e67.trans (by rw [f63])
  have f67 : v 67 = (1 : Int) := n67.trans (by decide)
  have e68 : v 68 = if v 67 ≠ 0 then (0 : Int) else (1 : Int) := satF hs 68 rfl
  have n68 : v 68 = if (1 : Int) ≠ 0 then (0 : Int) else (1 : Int) := e68.trans (by rw [f67])
  have f68 : v 68 = (0 : Int) := n68.trans (if_pos (by decide))
  have e69 : v 69 = if v 67 ≠ 0 then v 66 else v 63 := satF hs 69 rfl
  have n69 : v 69 = if (1 : Int) ≠ 0 then (0 : Int) else (0 : Int) := e69.trans (by rw [f67, f66, f63])
  have f69 : v 69 = (0 : Int) := n69.trans (if_pos (by decide))
  have e70 : v 70 = b2i (v 69 == (0 : Int)) := satF hs 70 rfl
  have n70 : v 70 = b2i ((0 : Int) == (0 : Int)) := e70.trans (by rw [f69])
  have f70 : v 70 = (1 : Int) := n70.trans (by decide)
  have e71 : v 71 = if v 70 ≠ 0 then (0 : Int) else (1 : Int) := satF hs 71 rfl
  have n71 : v 71 = if (1 : Int) ≠ 0 then (0 : Int) else (1 : Int) := e71.trans (by rw [f70])
  have f71 : v 71 = (0 : Int) := n71.trans (if_pos (by decide))
  have e72 : v 72 = if v 70 ≠ 0 then v 60 else v 69 := satF hs 72 rfl
  have n72 : v 72 = if (1 : Int) ≠ 0 then (0 : Int) else (0 : Int) := e72.trans (by rw [f70, f60, f69])
  have f72 : v 72 = (0 : Int) := n72.trans (if_pos (by decide))
  have e73 : v 73 = (semB 0 [v 36, v 37, (1073741824 : Int), (1073741824 : Int)]).getD 0 0 := satF hs 73 rfl
  have n73 : v 73 = (semB 0 [(0 : Int), (0 : Int), (1073741824 : Int), (1073741824 : Int)]).getD 0 0 := e73.trans (by rw [f36, f37])
  have f73 : v 73 = (0 : Int) := n73.trans (by decide +kernel)
  have e74 : v 74 = (semB 0 [v 36, v 37, (1073741824 : Int), (1073741824 : Int)]).getD 1 0 := satF hs 74 rfl
  have n74 : v 74 = (semB 0 [(0 : Int), (0 : Int), (1073741824 : Int), (1073741824 : Int)]).getD 1 0 := e74.trans (by rw [f36, f37])
  have f74 : v 74 = (0 : Int) := n74.trans (by decide +kernel)
  have e75 : v 75 = (semB 0 [v 36, v 37, (1073741824 : Int), (1073741824 : Int)]).getD 2 0 := satF hs 75 rfl
  have n75 : v 75 = (semB 0 [(0 : Int), (0 : Int), (1073741824 : Int), (1073741824 : Int)]).getD 2 0 := e75.trans (by rw [f36, f37])
  have f75 : v 75 = (0 : Int) := n75.trans (by decide +kernel)
  have e76 : v 76 = b2i (v 72 == (0 : Int)) := satF hs 76 rfl
  have n76 : v 76 = b2i ((0 : Int) == (0 : Int)) := e76.trans (by rw [f72])
  have f76 : v 76 = (1 : Int) := n76.trans (by decide)
  have e77 : v 77 = if v 76 ≠ 0 then (0 : Int) else (1 : Int) := satF hs 77 rfl
  have n77 : v 77 = if (1 : Int) ≠ 0 then (0 : Int) else (1 : Int) := e77.trans (by rw [f76])
  have f77 : v 77 = (0 : Int) := n77.trans (if_pos (by decide))
  have e78 : v 78 = if v 76 ≠ 0 then v 75 else v 72 := satF hs 78 rfl
  have n78 : v 78 = if (1 : Int) ≠ 0 then (0 : Int) else (0 : Int) := e78.trans (by rw [f76, f75, f72])
  have f78 : v 78 = (0 : Int) := n78.trans (if_pos (by decide))
  have e79 : v 79 = (semB 2 [v 58, v 59, v 73, v 74]).getD 0 0 := satF hs 79 rfl
  have n79 : v 79 = (semB 2 [(0 : Int), (0 : Int), (0 : Int), (0 : Int)]).getD 0 0 := e79.trans (by rw [f58, f59, f73, f74])
  have f79 : v 79 = (0 : Int) := n79.trans (by decide +kernel)
  have e80 : v 80 = (semB 2 [v 58, v 59, v 73, v 74]).getD 1 0 := satF hs 80 rfl
  have n80 : v 80 = (semB 2 [(0 : Int), (0 : Int), (0 : Int), (0 : Int)]).getD 1 0 := e80.trans (by rw [f58, f59, f73, f74])
  have f80 : v 80 = (0 : Int) := n80.trans (by decide +kernel)
  have e81 : v 81 = (semB 2 [v 58, v 59, v 73, v 74]).getD 2 0 := satF hs 81 rfl
  have n81 : v 81 = (semB 2 [(0 : Int), (0 : Int), (0 : Int), (0 : Int)]).getD 2 0 := e81.trans (by rw [f58, f59, f73, f74])
  have f81 : v 81 = (0 : Int) := n81.trans (by decide +kernel)
  have e82 : v 82 = b2i (v 78 == (0 : Int)) := satF hs 82 rfl
  have n82 : v 82 = b2i ((0 : Int) == (0 : Int)) := e82.trans (by rw [f78])
  have f82 : v 82 = (1 : Int) := n82.trans (by decide)
  have e83 : v 83 = if v 82 ≠ 0 then (0 : Int) else (1 : Int) := satF hs 83 rfl
  have n83 : v 83 = if (1 : Int) ≠ 0 then (0 : Int) else (1 : Int) := e83.trans (by rw [f82])
  have f83 : v 83 = (0 : Int) := n83.trans (if_pos (by decide))
  have e84 : v 84 = if v 82 ≠ 0 then v 81 else v 78 := satF hs 84 rfl
  have n84 : v 84 = if (1 : Int) ≠ 0 then (0 : Int) else (0 : Int) := e84.trans (by rw [f82, f81, f78])
  have f84 : v 84 = (0 : Int) := n84.trans (if_pos (by decide))
  have e85 : v 85 = (semB 0 [v 36, v 37, (0 : Int), (0 : Int)]).getD 0 0 := satF hs 85 rfl
  have n85 : v 85 = (semB 0 [(0 : Int), (0 : Int), (0 : Int), (0 : Int)]).getD 0 0 := e85.trans (by rw [f36, f37])
  have f85 : v 85 = (0 : Int) := n85.trans (by decide +kernel)
  have e86 : v 86 = (semB 0 [v 36, v 37, (0 : Int), (0 : Int)]).getD 1 0 := satF hs 86 rfl
  have n86 : v 86 = (semB 0 [(0 : Int), (0 : Int), (0 : Int), (0 : Int)]).getD 1 0 := e86.trans (by rw [f36, f37])
  have f86 : v 86 = (0 : Int) := n86.trans (by decide +kernel)
  have e87 : v 87 = (semB 0 [v 36, v 37, (0 : Int), (0 : Int)]).getD 2 0 := satF hs 87 rfl
  have n87 : v 87 = (semB 0 [(0 : Int), (0 : Int), (0 : Int), (0 : Int)]).getD 2 0 := e87.trans (by rw [f36, f37])
  have f87 : v 87 = (0 : Int) := n87.trans (by decide +kernel)
  have e88 : v 88 = b2i (v 84 == (0 : Int)) := satF hs 88 rfl
  have n88 : v 88 = b2i ((0 : Int) == (0 : Int)) := e88.trans (by rw [f84])
  have f88 : v 88 = (1 : Int) := n88.trans (by decide)
  have e89 : v 89 = if v 88 ≠ 0 then (0 : Int) else (1 : Int) := satF hs 89 rfl
  have n89 : v 89 = if (1 : Int) ≠ 0 then (0 : Int) else (1 : Int) := e89.trans (by rw [f88])
  have f89 : v 89 = (0 : Int) := n89.trans (if_pos (by decide))
  have e90 : v 90 = if v 88 ≠ 0 then v 87 else v 84 := satF hs 90 rfl
  have n90 : v 90 = if (1 : Int) ≠ 0 then (0 : Int) else (0 : Int) := e90.trans (by rw [f88, f87, f84])
  have f90 : v 90 = (0 : Int) := n90.trans (if_pos (by decide))
  have e91 : v 91 = (semB 0 [v 38, v 39, (0 : Int), (0 : Int)]).getD 0 0 := satF hs 91 rfl
  have n91 : v 91 = (semB 0 [(1073741824 : Int), (1073741824 : Int), (0 : Int), (0 : Int)]).getD 0 0 := e91.trans (by rw [f38, f39])
  have f91 : v 91 = (0 : Int) := n91.trans (by decide +kernel)
  have e92 : v 92 = (semB 0 [v 38, v 39, (0 : Int), (0 : Int)]).getD 1 0 := satF hs 92 rfl
  have n92 : v 92 = (semB 0 [(1073741824 : Int), (1073741824 : Int), (0 : Int), (0 : Int)]).getD 1 0 := e92.trans (by rw [f38, f39])
  have f92 : v 92 = (0 : Int) := n92.trans (by decide +kernel)
  have e93 : v 93 = (semB 0 [v 38, v 39, (0 : Int), (0 : Int)]).getD 2 0 := satF hs 93 rfl
  have n93 : v 93 = (semB 0 [(1073741824 : Int), (1073741824 : Int), (0 : Int), (0 : Int)]).getD 2 0 := e93.trans (by rw [f38, f39])
  have f93 : v 93 = (0 : Int) := n93.trans (by decide +kernel)
  have e94 : v 94 = b2i (v 90 == (0 : Int)) := satF hs 94 rfl
  have n94 : v 94 = b2i ((0 : Int) == (0 : Int)) := e94.trans (by rw [f90])
  have f94 : v 94 = (1 : Int) := n94.trans (by decide)
  have e95 : v 95 = if v 94 ≠ 0 then (0 : Int) else (1 : Int) := satF hs 95 rfl
  have n95 : v 95 = if (1 : Int) ≠ 0 then (0 : Int) else (1 : Int) := e95.trans (by rw [f94])
  have f95 : v 95 = (0 : Int) := n95.trans (if_pos (by decide))
  have e96 : v 96 = if v 94 ≠ 0 then v 93 else v 90 := satF hs 96 rfl
  have n96 : v 96 = if (1 : Int) ≠ 0 then (0 : Int) else (0 : Int) := e96.trans (by rw [f94, f93, f90])
  have f96 : v 96 = (0 : Int) := n96.trans (if_pos (by decide))
  have e97 : v 97 = (semB 2 [v 85, v 86, v 91, v 92]).getD 0 0 := satF hs 97 rfl
  have n97 : v 97 = (semB 2 [(0 : Int), (0 : Int), (0 : Int), (0 : Int)]).getD 0 0 := e97.trans (by rw [f85, f86, f91, f92])
  have f97 : v 97 = (0 : Int) := n97.trans (by decide +kernel)
  have e98 : v 98 = (semB 2 [v 85, v 86, v 91, v 92]).getD 1 0 := satF hs 98 rfl
  have n98 : v 98 = (semB 2 [(0 : Int), (0 : Int), (0 : Int), (0 : Int)]).getD 1 0 := e98.trans (by rw [f85, f86, f91, f92])
  have f98 : v 98 = (0 : Int) := n98.trans (by decide +kernel)
  have e99 : v 99 = (semB 2 [v 85, v 86, v 91, v 92]).getD 2 0 := satF hs 99 rfl
  have n99 : v 99 = (semB 2 [(0 : Int), (0 : Int), (0 : Int), (0 : Int)]).getD 2 0 := e99.trans (by rw [f85, f86, f91, f92])
  have f99 : v 99 = (0 : Int) := n99.trans (by decide +kernel)
  have e100 : v 100 = b2i (v 96 == (0 : Int)) := satF hs 100 rfl
  have n100 : v 100 = b2i ((0 : Int) == (0 : Int)) := e100.trans (by rw [f96])
  have f100 : v 100 = (1 : Int) := n100.trans (by decide)
  have e101 : v 101 = if v 100 ≠ 0 then (0 : Int) else (1 : Int) := satF hs 101 rfl
  have n101 : v 101 = if (1 : Int) ≠ 0 then (0 : Int) else (1 : Int) := e101.trans (by rw [f100])
  have f101 : v 101 = (0 : Int) := n101.trans (if_pos (by decide))
  have e102 : v 102 = if v 100 ≠ 0 then v 99 else v 96 := satF hs 102 rfl
  have n102 : v 102 = if (1 : Int) ≠ 0 then (0 : Int) else (0 : Int) := e102.trans (by rw [f100, f99, f96])
  have f102 : v 102 = (0 : Int) := n102.trans (if_pos (by decide))
  have e103 : v 103 = (semB 3 [v 64, v 65]).getD 0 0 := satF hs 103 rfl
  have n103 : v 103 = (semB 3 [(1073741824 : Int), (1073741824 : Int)]).getD 0 0 := e103.trans (by rw [f64, f65])
  have f103 : v 103 = (1073741824 : Int) := n103.trans (by decide +kernel)
  have e104 : v 104 = (semB 3 [v 64, v 65]).getD 1 0 := satF hs 104 rfl
  have n104 : v 104 = (semB 3 [(1073741824 : Int), (1073741824 : Int)]).getD 1 0 := e104.trans (by rw [f64, f65])
  have f104 : v 104 = (1073741824 : Int) := n104.trans (by decide +kernel)
  have e105 : v 105 = (semB 3 [v 64, v 65]).getD 2 0 := satF hs 105 rfl
  have n105 : v 105 = (semB 3 [(1073741824 : Int), (1073741824 : Int)]).getD 2 0 := e105.trans (by rw [f64, f65])
  have f105 : v 105 = (0 : Int) := n105.trans (by decide +kernel)
  have e106 : v 106 = b2i (v 102 == (0 : Int)) := satF hs 106 rfl
  have n106 : v 106 = b2i ((0 : Int) == (0 : Int)) := e106.trans (by rw [f102])
  have f106 : v 106 = (1 : Int) := n106.trans (by decide)
  have e107 : v 107 = if v 106 ≠ 0 then (0 : Int) else (1 : Int) := satF hs 107 rfl
  have n107 : v 107 = if (1 : Int) ≠ 0 then (0 : Int) else (1 : Int) := e107.trans (by rw [f106])
  have f107 : v 107 = (0 : Int) := n107.trans (if_pos (by decide))
  have e108 : v 108 = if v 106 ≠ 0 then v 105 else v 102 := satF hs 108 rfl
  have n108 : v 108 = if (1 : Int) ≠ 0 then (0 : Int) else (0 : Int) := e108.trans (by rw [f106, f105, f102])
  have f108 : v 108 = (0 : Int) := n108.trans (if_pos (by decide))
  have e109 : v 109 = (semB 3 [v 79, v 80]).getD 0 0 := satF hs 109 rfl
  have n109 : v 109 = (semB 3 [(0 : Int), (0 : Int)]).getD 0 0 := e109.trans (by rw [f79, f80])
  have f109 : v 109 = (0 : Int) := n109.trans (by decide +kernel)
  have e110 : v 110 = (semB 3 [v 79, v 80]).getD 1 0 := satF hs 110 rfl
  have n110 : v 110 = (semB 3 [(0 : Int), (0 : Int)]).getD 1 0 := e110.trans (by rw [f79, f80])
  have f110 : v 110 = (0 : Int) := n110.trans (by decide +kernel)
  have e111 : v 111 = (semB 3 [v 79, v 80]).getD 2 0 := satF hs 111 rfl
  have n111 : v 111 = (semB 3 [(0 : Int), (0 : Int)]).getD 2 0 := e111.trans (by rw [f79, f80])
  have f111 : v 111 = (0 : Int) := n111.trans (by decide +kernel)
  have e112 : v 112 = b2i (v 108 == (0 : Int)) := satF hs 112 rfl
  have n112 : v 112 = b2i ((0 : Int) == (0 : Int)) := e112.trans (by rw [f108])
  have f112 : v 112 = (1 : Int) := n112.trans (by decide)
  have e113 : v 113 = if v 112 ≠ 0 then (0 : Int) else (1 : Int) := satF hs 113 rfl
  have n113 : v 113 = if (1 : Int) ≠ 0 then (0 : Int) else (1 : Int) := e113.trans (by rw [f112])
  have f113 : v 113 = (0 : Int) := n113.trans (if_pos (by decide))
  have e114 : v 114 = if v 112 ≠ 0 then v 111 else v 108 := satF hs 114 rfl
  have n114 : v 114 = if (1 : Int) ≠ 0 then (0 : Int) else (0 : Int) := e114.trans (by rw [f112, f111, f108])
  have f114 : v 114 = (0 : Int) := n114.trans (if_pos (by decide))
  have e115 : v 115 = (semB 1 [v 103, v 104, v 109, v 110]).getD 0 0 := satF hs 115 rfl
  have n115 : v 115 = (semB 1 [(1073741824 : Int), (1073741824 : Int), (0 : Int), (0 : Int)]).getD 0 0 := e115.trans (by rw [f103, f104, f109, f110])
  have f115 : v 115 = (1073741824 : Int) := n115.trans (by decide +kernel)
  have e116 : v 116 = (semB 1 [v 103, v 104, v 109, v 110]).getD 1 0 := satF hs 116 rfl
  have n116 : v 116 = (semB 1 [(1073741824 : Int), (1073741824 : Int), (0 : Int), (0 : Int)]).getD 1 0 := e116.trans (by rw [f103, f104, f109, f110])
  have f116 : v 116 = (1073741824 : Int) := n116.trans (by decide +kernel)
  have e117 : v 117 = (semB 1 [v 103, v 104, v 109, v 110]).getD 2 0 := satF hs 117 rfl
  have n117 : v 117 = (semB 1 [(1073741824 : Int), (1073741824 : Int), (0 : Int), (0 : Int)]).getD 2 0 := e117.trans (by rw [f103, f104, f109, f110])
  have f117 : v 117 = (0 : Int) := n117.trans (by decide +kernel)
  have e118 : v 118 = b2i (v 114 == (0 : Int)) := satF hs 118 rfl
  have n118 : v 118 = b2i ((0 : Int) == (0 : Int)) := e118.trans (by rw [f114])
  have f118 : v 118 = (1 : Int) := n118.trans (by decide)
  have e119 : v 119 = if v 118 ≠ 0 then (0 : Int) else (1 : Int) := satF hs 119 rfl
  have n119 : v 119 = if (1 : Int) ≠ 0 then (0 : Int) else (1 : Int) := e119.trans (by rw [f118])
  have f119 : v 119 = (0 : Int) := n119.trans (if_pos (by decide))
  have e120 : v 120 = if v 118 ≠ 0 then v 117 else v 114 := satF hs 120 rfl
  have n120 : v 120 = if (1 : Int) ≠ 0 then (0 : Int) else (0 : Int) := e120.trans (by rw [f118, f117, f114])
  have f120 : v 120 = (0 : Int) := n120.trans (if_pos (by decide))
  have e121 : v 121 = (semB 3 [v 97, v 98]).getD 0 0 := satF hs 121 rfl
  have n121 : v 121 = (semB 3 [(0 : Int), (0 : Int)]).getD 0 0 := e121.trans (by rw [f97, f98])
  have f121 : v 121 = (0 : Int) := n121.trans (by decide +kernel)
  have e122 : v 122 = (semB 3 [v 97, v 98]).getD 1 0 := satF hs 122 rfl
  have n122 : v 122 = (semB 3 [(0 : Int), (0 : Int)]).getD 1 0 := e122.trans (by rw [f97, f98])
  have f122 : v 122 = (0 : Int) := n122.trans (by decide +kernel)
  have e123 : v 123 = (semB 3 [v 97, v 98]).getD 2 0 := satF hs 123 rfl
  have n123 : v 123 = (semB 3 [(0 : Int), (0 : Int)]).getD 2 0 := e123.trans (by rw [f97, f98])
  have f123 : v 123 = (0 : Int) := n123.trans (by decide +kernel)
  have e124 : v 124 = b2i (v 120 == (0 : Int)) := satF hs 124 rfl
  have n124 : v 124 = b2i ((0 : Int) == (0 : Int)) := e124.trans (by rw [f120])
  have f124 : v 124 = (1 : Int) := n124.trans (by decide)
  have e125 : v 125 = if v 124 ≠ 0 then (0 : Int) else (1 : Int) := satF hs 125 rfl
  have n125 : v 125 = if (1 : Int) ≠ 0 then (0 : Int) else (1 : Int) := e125.trans (by rw [f124])
  have f125 : v 125 = (0 : Int) := n125.trans (if_pos (by decide))
  have e126 : v 126 = if v 124 ≠ 0 then v 123 else v 120 := satF hs 126 rfl
  have n126 : v 126 = if (1 : Int) ≠ 0 then (0 : Int) else (0 : Int) := e126.trans (by rw [f124, f123, f120])
  have f126 : v 126 = (0 : Int) := n126.trans (if_pos (by decide))
  have e127 : v 127 = (semB 1 [v 115, v 116, v 121, v 122]).getD 0 0 := satF hs 127 rfl
  have n127 : v 127 = (semB 1 [(1073741824 : Int), (1073741824 : Int), (0 : Int), (0 : Int)]).getD 0 0 := e127.trans (by rw [f115, f116, f121, f122])
  have f127 : v 127 = (1073741824 : Int) := n127.trans (by decide +kernel)
  have e128 : v 128 = (semB 1 [v 115, v 116, v 121, v 122]).getD 1 0 := satF hs 128 rfl
  have n128 : v 128 = (semB 1 [(1073741824 : Int), (1073741824 : Int), (0 : Int), (0 : Int)]).getD 1 0 := e128.trans (by rw [f115, f116, f121, f122])
  have f128 : v 128 = (1073741824 : Int) := n128.trans (by decide +kernel)
  have e129 : v 129 = (semB 1 [v 115, v 116, v 121, v 122]).getD 2 0 := satF hs 129 rfl
  have n129 : v 129 = (semB 1 [(1073741824 : Int), (1073741824 : Int), (0 : Int), (0 : Int)]).getD 2 0 := e129.trans (by rw [f115, f116, f121, f122])
  have f129 : v 129 = (0 : Int) := n129.trans (by decide +kernel)
  have e130 : v 130 = b2i (v 126 == (0 : Int)) := satF hs 130 rfl
  have n130 : v 130 = b2i ((0 : Int) == (0 : Int)) := e130.trans (by rw [f126])
  have f130 : v 130 = (1 : Int) := n130.trans (by decide)
  have e131 : v 131 = if v 130 ≠ 0 then (0 : Int) else (1 : Int) := satF hs 131 rfl
  have n131 : v 131 = if (1 : Int) ≠ 0 then (0 : Int) else (1 : Int) := e131.trans (by rw [f130])
  have f131 : v 131 = (0 : Int) := n131.trans (if_pos (by decide))
  have e132 : v 132 = if v 130 ≠ 0 then v 129 else v 126 := satF hs 132 rfl
  have n132 : v 132 = if (1 : Int) ≠ 0 then (0 : Int) else (0 : Int) := e132.trans (by rw [f130, f129, f126])
  have f132 : v 132 = (0 : Int) := n132.trans (if_pos (by decide))
  have e133 : v 133 = (semB 4 [v 127, v 128]).getD 0 0 := satF hs 133 rfl
  have n133 : v 133 = (semB 4 [(1073741824 : Int), (1073741824 : Int)]).getD 0 0 := e133.trans (by rw [f127, f128])
  have f133 : v 133 = (1073741824 : Int) := n133.trans (by decide +kernel)
  have e134 : v 134 = (semB 4 [v 127, v 128]).getD 1 0 := satF hs 134 rfl
  have n134 : v 134 = (semB 4 [(1073741824 : Int), (1073741824 : Int)]).getD 1 0 := e134.trans (by rw [f127, f128])
  have f134 : v 134 = (1073741824 : Int) := n134.trans (by decide +kernel)
  have e135 : v 135 = (semB 4 [v 127, v 128]).getD 2 0 := satF hs 135 rfl
  have n135 : v 135 = (semB 4 [(1073741824 : Int), (1073741824 : Int)]).getD 2 0 := e135.trans (by rw [f127, f128])
  have f135 : v 135 = (0 : Int) := n135.trans (by decide +kernel)
  have e136 : v 136 = b2i (v 132 == (0 : Int)) := satF hs 136 rfl
  have n136 : v 136 = b2i ((0 : Int) == (0 : Int)) := e136.trans (by rw [f132])
  have f136 : v 136 = (1 : Int) := n136.trans (by decide)
  have e137 : v 137 = if v 136 ≠ 0 then (0 : Int) else (1 : Int) := satF hs 137 rfl
  have n137 : v 137 = if (1 : Int) ≠ 0 then (0 : Int) else (1 : Int) := e137.trans (by rw [f136])
  have f137 : v 137 = (0 : Int) := n137.trans (if_pos (by decide))
  have e138 : v 138 = if v 136 ≠ 0 then v 135 else v 132 := satF hs 138 rfl
  have n138 : v 138 = if (1 : Int) ≠ 0 then (0 : Int) else (0 : Int) := e138.trans (by rw [f136, f135, f132])
  have f138 : v 138 = (0 : Int) := n138.trans (if_pos (by decide))
  have e139 : v 139 = b2i (v 138 == (0 : Int)) := satF hs 139 rfl
  have n139 : v 139 = b2i ((0 : Int) == (0 : Int)) := e139.trans (by rw [f138])
  have f139 : v 139 = (1 : Int) := n139.trans (by decide)
  have e140 : v 140 = if v 139 ≠ 0 then (0 : Int) else (1 : Int) := satF hs 140 rfl
  have n140 : v 140 = if (1 : Int) ≠ 0 then (0 : Int) else (1 : Int) := e140.trans (by rw [f139])
  have f140 : v 140 = (0 : Int) := n140.trans (if_pos (by decide))
  have e141 : v 141 = if v 139 ≠ 0 then v 87 else v 138 := satF hs 141 rfl
  have n141 : v 141 = if (1 : Int) ≠ 0 then (0 : Int) else (0 : Int) := e141.trans (by rw [f139, f87, f138])
  have f141 : v 141 = (0 : Int) := n141.trans (if_pos (by decide))
  have e142 : v 142 = b2i (v 141 == (0 : Int)) := satF hs 142 rfl
  have n142 : v 142 = b2i ((0 : Int) == (0 : Int)) := e142.trans (by rw [f141])
  have f142 : v 142 = (1 : Int) := n142.trans (by decide)
  have e143 : v 143 = if v 142 ≠ 0 then (0 : Int) else (1 : Int) := satF hs 143 rfl
  have n143 : v 143 = if (1 : Int) ≠ 0 then (0 : Int) else (1 : Int) := e143.trans (by rw [f142])
  have f143 : v 143 = (0 : Int) := n143.trans (if_pos (by decide))
  have e144 : v 144 = if v 142 ≠ 0 then v 93 else v 141 := satF hs 144 rfl
  have n144 : v 144 = if (1 : Int) ≠ 0 then (0 : Int) else (0 : Int) := e144.trans (by rw [f142, f93, f141])
  have f144 : v 144 = (0 : Int) := n144.trans (if_pos (by decide))
  have e145 : v 145 = (semB 1 [v 85, v 86, v 91, v 92]).getD 0 0 := satF hs 145 rfl
  have n145 : v 145 = (semB 1 [(0 : Int), (0 : Int), (0 : Int), (0 : Int)]).getD 0 0 := e145.trans (by rw [f85, f86, f91, f92])
  have f145 : v 145 = (0 : Int) := n145.trans (by decide +kernel)
  have e146 : v 146 = (semB 1 [v 85, v 86, v 91, v 92]).getD 1 0 := satF hs 146 rfl
  have n146 : v 146 = (semB 1 [(0 : Int), (0 : Int), (0 : Int), (0 : Int)]).getD 1 0 := e146.trans (by rw [f85, f86, f91, f92])
  have f146 : v 146 = (0 : Int) := n146.trans (by decide +kernel)
  have e147 : v 147 = (semB 1 [v 85, v 86, v 91, v 92]).getD 2 0 := satF hs 147 rfl
  have n147 : v 147 = (semB 1 [(0 : Int), (0 : Int), (0 : Int), (0 : Int)]).getD 2 0 := e147.trans (by rw [f85, f86, f91, f92])
  have f147 : v 147 = (0 : Int) := n147.trans (by decide +kernel)
  have e148 : v 148 = b2i (v 144 == (0 : Int)) := satF hs 148 rfl
  have n148 : v 148 = b2i ((0 : Int) == (0 : Int)) := e148.trans (by rw [f144])
  have f148 : v 148 = (1 : Int) := n148.trans (by decide)
  have e149 : v 149 = if v 148 ≠ 0 then (0 : Int) else (1 : Int) := satF hs 149 rfl
  have n149 : v 149 = if (1 : Int) ≠ 0 then (0 : Int) else (1 : Int) := e149.trans (by rw [f148])
  have f149 : v 149 = (0 : Int) := n149.trans (if_pos (by decide))
  have e150 : v 150 = if v 148 ≠ 0 then v 147 else v 144 := satF hs 150 rfl
  have n150 : v 150 = if (1 : Int) ≠ 0 then (0 : Int) else (0 : Int) := e150.trans (by rw [f148, f147, f144])
  have f150 : v 150 = (0 : Int) := n150.trans (if_pos (by decide))
  have e151 : v 151 = (semB 0 [v 40, v 41, (1073741824 : Int), (1073741824 : Int)]).getD 0 0 := satF hs 151 rfl
  have n151 : v 151 = (semB 0 [(0 : Int), (0 : Int), (1073741824 : Int), (1073741824 : Int)]).getD 0 0 := e151.trans (by rw [f40, f41])
  have f151 : v 151 = (0 : Int) := n151.trans (by decide +kernel)
  have e152 : v 152 = (semB 0 [v 40, v 41, (1073741824 : Int), (1073741824 : Int)]).getD 1 0 := satF hs 152 rfl
  have n152 : v 152 = (semB 0 [(0 : Int), (0 : Int), (1073741824 : Int), (1073741824 : Int)]).getD 1 0 := e152.trans (by rw [f40, f41])
  have f152 : v 152 = (0 : Int) := n152.trans (by decide +kernel)
  have e153 : v 153 = (semB 0 [v 40, v 41, (1073741824 : Int), (1073741824 : Int)]).getD 2 0 := satF hs 153 rfl
  have n153 : v 153 = (semB 0 [(0 : Int), (0 : Int), (1073741824 : Int), (1073741824 : Int)]).getD 2 0 := e153.trans (by rw [f40, f41])
  have f153 : v 153 = (0 : Int) := n153.trans (by decide +kernel)
  have e154 : v 154 = b2i (v 150 == (0 : Int)) := satF hs 154 rfl
  have n154 : v 154 = b2i ((0 : Int) == (0 : Int)) := e154.trans (by rw [f150])
  have f154 : v 154 = (1 : Int) := n154.trans (by decide)
  have e155 : v 155 = if v 154 ≠ 0 then (0 : Int) else (1 : Int) := satF hs 155 rfl
  have n155 : v 155 = if (1 : Int) ≠ 0 then (0 : Int) else (1 : Int) := e155.trans (by rw [f154])
  have f155 : v 155 = (0 : Int) := n155.trans (if_pos (by decide))
  have e156 : v 156 = if v 154 ≠ 0 then v 153 else v 150 := satF hs 156 rfl
  have n156 : v 156 = if (1 : Int) ≠ 0 then (0 : Int) else (0 : Int) := e156.trans (by rw [f154, f153, f150])
  have f156 : v 156 = (0 : Int) := n156.trans (if_pos (by decide))
  have e157 : v 157 = (semB 1 [v 145, v 146, v 151, v 152]).getD 0 0 := satF hs 157 rfl
  have n157 : v 157 = (semB 1 [(0 : Int), (0 : Int), (0 : Int), (0 : Int)]).getD 0 0 := e157.trans (by rw [f145, f146, f151, f152])
  have f157 : v 157 = (0 : Int) := n157.trans (by decide +kernel)
  have e158 : v 158 = (semB 1 [v 145, v 146, v 151, v 152]).getD 1 0 := satF hs 158 rfl
  have n158 : v 158 = (semB 1 [(0 : Int), (0 : Int), (0 : Int), (0 : Int)]).getD 1 0 := e158.trans (by rw [f145, f146, f151, f152])
  have f158 : v 158 = (0 : Int) := n158.trans (by decide +kernel)
  have e159 : v 159 = (semB 1 [v 145, v 146, v 151, v 152]).getD 2 0 := satF hs 159 rfl
  have n159 : v 159 = (semB 1 [(0 : Int), (0 : Int), (0 : Int), (0 : Int)]).getD 2 0 := e159.trans (by rw [f145, f146, f151, f152])
  have f159 : v 159 = (0 : Int) := n159.trans (by decide +kernel)
  have e160 : v 160 = b2i (v 156 == (0 : Int)) := satF hs 160 rfl
  have n160 : v 160 = b2i ((0 : Int) == (0 : Int)) := e160.trans (by rw [f156])
  have f160 : v 160 = (1 : Int) := n160.trans (by decide)
  have e161 : v 161 = if v 160 ≠ 0 then (0 : Int) else (1 : Int) := satF hs 161 rfl
  have n161 : v 161 = if (1 : Int) ≠ 0 then (0 : Int) else (1 : Int) := e161.trans (by rw [f160])
  have f161 : v 161 = (0 : Int) := n161.trans (if_pos (by decide))
  have e162 : v 162 = if v 160 ≠ 0 then v 159 else v 156 := satF hs 162 rfl
  have n162 : v 162 = if (1 : Int) ≠ 0 then (0 : Int) else (0 : Int) := e162.trans (by rw [f160, f159, f156])
  have f162 : v 162 = (0 : Int) := n162.trans (if_pos (by decide))
  have e163 : v 163 = b2i (v 162 != (0 : Int)) := satF hs 163 rfl
  have n163 : v 163 = b2i ((0 : Int) != (0 : Int)) := e163.trans (by rw [f162])
  have f163 : v 163 = (0 : Int) := n163.trans (by decide)
  have e164 : v 164 = if v 163 ≠ 0 then (0 : Int) else (1 : Int) := satF hs 164 rfl
  have n164 : v 164 = if (0 : Int) ≠ 0 then (0 : Int) else (1 : Int) := e164.trans (by rw [f163])
  have f164 : v 164 = (1 : Int) := n164.trans (if_neg (by decide))
  have e165 : v 165 = (semB 7 [v 133, v 134, v 157, v 158]).getD 0 0 := satF hs 165 rfl
  have n165 : v 165 = (semB 7 [(1073741824 : Int), (1073741824 : Int), (0 : Int), (0 : Int)]).getD 0 0 := e165.trans (by rw [f133, f134, f157, f158])
  have f165 : v 165 = (5400000 : Int) := n165.trans (by decide +kernel)
  have e166 : v 166 = (semB 7 [v 133, v 134, v 157, v 158]).getD 1 0 := satF hs 166 rfl
  have n166 : v 166 = (semB 7 [(1073741824 : Int), (1073741824 : Int), (0 : Int), (0 : Int)]).getD 1 0 := e166.trans (by rw [f133, f134, f157, f158])
  have f166 : v 166 = (5400000 : Int) := n166.trans (by decide +kernel)
  have e167 : v 167 = (semB 7 [v 133, v 134, v 157, v 158]).getD 2 0 := satF hs 167 rfl
  have n167 : v 167 = (semB 7 [(1073741824 : Int), (1073741824 : Int), (0 : Int), (0 : Int)]).getD 2 0 := e167.trans (by rw [f133, f134, f157, f158])
  have f167 : v 167 = (0 : Int) := n167.trans (by decide +kernel)
  have e168 : v 168 = b2i (v 167 != (0 : Int)) := satF hs 168 rfl
  have n168 : v 168 = b2i ((0 : Int) != (0 : Int)) := e168.trans (by rw [f167])
  have f168 : v 168 = (0 : Int) := n168.trans (by decide)
  have e169 : v 169 = IntKind.i64.wrap (v 166 - v 165) := satF hs 169 rfl
  have n169 : v 169 = IntKind.i64.wrap ((5400000 : Int) - (5400000 : Int)) := e169.trans (by rw [f166, f165])
  have f169 : v 169 = (0 : Int) := n169.trans (by decide)
  have e170 : v 170 = b2i (decide (v 169 ≥ (21600000 : Int))) := satF hs 170 rfl
  have n170 : v 170 = b2i (decide ((0 : Int) ≥ (21600000 : Int))) := e170.trans (by rw [f169])
  have f170 : v 170 = (0 : Int) := n170.trans (by decide)
  have e171 : v 171 = if v 170 ≠ 0 then (0 : Int) else (1 : Int) := satF hs 171 rfl
  have n171 : v 171 = if (0 : Int) ≠ 0 then (0 : Int) else (1 : Int) := e171.trans (by rw [f170])
  have f171 : v 171 = (1 : Int) := n171.trans (if_neg (by decide))
  have e172 : v 172 = if v 168 ≠ 0 then (0 : Int) else (1 : Int) := satF hs 172 rfl
  have n172 : v 172 = if (0 : Int) ≠ 0 then (0 : Int) else (1 : Int) := e172.trans (by rw [f168])
  have f172 : v 172 = (1 : Int) := n172.trans (if_neg (by decide))
  have e173 : v 173 = if v 172 ≠ 0 then v 171 else (0 : Int) := satF hs 173 rfl
  have n173 : v 173 = if (1 : Int) ≠ 0 then (1 : Int) else (0 : Int) := e173.trans (by rw [f172, f171])
  have f173 : v 173 = (1 : Int) := n173.trans (if_pos (by decide))
  have e174 : v 174 = if v 172 ≠ 0 then v 170 else (0 : Int) := satF hs 174 rfl
  have n174 : v 174 = if (1 : Int) ≠ 0 then (0 : Int) else (0 : Int) := e174.trans (by rw [f172, f170])
  have f174 : v 174 = (0 : Int) := n174.trans (if_pos (by decide))
  have e175 : v 175 = if v 168 ≠ 0 then (1 : Int) else v 174 := satF hs 175 rfl
  have n175 : v 175 = if (0 : Int) ≠ 0 then (1 : Int) else (0 : Int) := e175.trans (by rw [f168, f174])
  have f175 : v 175 = (0 : Int) := n175.trans (if_neg (by decide))
  have e176 : v 176 = if v 168 ≠ 0 then v 167 else (24 : Int) := satF hs 176 rfl
  have n176 : v 176 = if (0 : Int) ≠ 0 then (0 : Int) else (24 : Int) := e176.trans (by rw [f168, f167])
  have f176 : v 176 = (24 : Int) := n176.trans (if_neg (by decide))
  have e177 : v 177 = if v 175 ≠ 0 then (1 : Int) else v 173 := satF hs 177 rfl
  have n177 : v 177 = if (0 : Int) ≠ 0 then (1 : Int) else (1 : Int) := e177.trans (by rw [f175, f173])
  have f177 : v 177 = (1 : Int) := n177.trans (if_neg (by decide))
  have e178 : v 178 = if v 175 ≠ 0 then v 176 else (0 : Int) := satF hs 178 rfl
  have n178 : v 178 = if (0 : Int) ≠ 0 then (24 : Int) else (0 : Int) := e178.trans (by rw [f175, f176])
  have f178 : v 178 = (0 : Int) := n178.trans (if_neg (by decide))
  have e179 : v 179 = if v 175 ≠ 0 then (0 : Int) else v 165 := satF hs 179 rfl
  have n179 : v 179 = if (0 : Int) ≠ 0 then (0 : Int) else (5400000 : Int) := e179.trans (by rw [f175, f165])
  have f179 : v 179 = (5400000 : Int) := n179.trans (if_neg (by decide))
  have e180 : v 180 = if v 175 ≠ 0 then (0 : Int) else v 166 := satF hs 180 rfl
  have n180 : v 180 = if (0 : Int) ≠ 0 then (0 : Int) else (5400000 : Int) := e180.trans (by rw [f175, f166])
  have f180 : v 180 = (5400000 : Int) := n180.trans (if_neg (by decide))
  have e181 : v 181 = if v 164 ≠ 0 then v 177 else (0 : Int) := satF hs 181 rfl
  have n181 : v 181 = if (1 : Int) ≠ 0 then (1 : Int) else (0 : Int) := e181.trans (by rw [f164, f177])
  have f181 : v 181 = (1 : Int) := n181.trans (if_pos (by decide))
  have e182 : v 182 = if v 163 ≠ 0 then (1 : Int) else v 181 := satF hs 182 rfl
  have n182 : v 182 = if (0 : Int) ≠ 0 then (1 : Int) else (1 : Int) := e182.trans (by rw [f163, f181])
  have f182 : v 182 = (1 : Int) := n182.trans (if_neg (by decide))
  have e183 : v 183 = if v 163 ≠ 0 then v 162 else v 178 := satF hs 183 rfl
  have n183 : v 183 = if (0 : Int) ≠ 0 then (0 : Int) else (0 : Int) := e183.trans (by rw [f163, f162, f178])
  have f183 : v 183 = (0 : Int) := n183.trans (if_neg (by decide))
  have e184 : v 184 = if v 163 ≠ 0 then (0 : Int) else v 179 := satF hs 184 rfl
  have n184 : v 184 = if (0 : Int) ≠ 0 then (0 : Int) else (5400000 : Int) := e184.trans (by rw [f163, f179])
  have f184 : v 184 = (5400000 : Int) := n184.trans (if_neg (by decide))
  have e185 : v 185 = if v 163 ≠ 0 then (0 : Int) else v 180 := satF hs 185 rfl
  have n185 : v 185 = if (0 : Int) ≠ 0 then (0 : Int) else (5400000 : Int) := e185.trans (by rw [f163, f180])
  have f185 : v 185 = (5400000 : Int) := n185.trans (if_neg (by decide))
  have e186 : v 186 = if v 54 ≠ 0 then v 182 else (0 : Int) := satF hs 186 rfl
  have n186 : v 186 = if (1 : Int) ≠ 0 then (1 : Int) else (0 : Int) := e186.trans (by rw [f54, f182])
  have f186 : v 186 = (1 : Int) := n186.trans (if_pos (by decide))
  have e187 : v 187 = if v 53 ≠ 0 then (1 : Int) else v 186 := satF hs 187 rfl
  have n187 : v 187 = if (0 : Int) ≠ 0 then (1 : Int) else (1 : Int) := e187.trans (by rw [f53, f186])
  have f187 : v 187 = (1 : Int) := n187.trans (if_neg (by decide))
  have e188 : v 188 = if v 53 ≠ 0 then (1 : Int) else v 183 := satF hs 188 rfl
  have n188 : v 188 = if (0 : Int) ≠ 0 then (1 : Int) else (0 : Int) := e188.trans (by rw [f53, f183])
  have f188 : v 188 = (0 : Int) := n188.trans (if_neg (by decide))
  have e189 : v 189 = if v 53 ≠ 0 then (0 : Int) else v 184 := satF hs 189 rfl
  have n189 : v 189 = if (0 : Int) ≠ 0 then (0 : Int) else (5400000 : Int) := e189.trans (by rw [f53, f184])
  have f189 : v 189 = (5400000 : Int) := n189.trans (if_neg (by decide))
  have e190 : v 190 = if v 53 ≠ 0 then (0 : Int) else v 185 := satF hs 190 rfl
  have n190 : v 190 = if (0 : Int) ≠ 0 then (0 : Int) else (5400000 : Int) := e190.trans (by rw [f53, f185])
  have f190 : v 190 = (5400000 : Int) := n190.trans (if_neg (by decide))
  have e191 : v 191 = b2i (v 35 == (0 : Int)) := satF hs 191 rfl
  have n191 : v 191 = b2i ((0 : Int) == (0 : Int)) := e191.trans (by rw [f35])
  have f191 : v 191 = (1 : Int) := n191.trans (by decide)
  have e192 : v 192 = b2i (v 36 == (0 : Int)) := satF hs 192 rfl
  have n192 : v 192 = b2i ((0 : Int) == (0 : Int)) := e192.trans (by rw [f36])
  have f192 : v 192 = (1 : Int) := n192.trans (by decide)
  have e193 : v 193 = b2i (v 37 == (0 : Int)) := satF hs 193 rfl
  have n193 : v 193 = b2i ((0 : Int) == (0 : Int)) := e193.trans (by rw [f37])
  have f193 : v 193 = (1 : Int) := n193.trans (by decide)
  have e194 : v 194 = b2i (v 38 == (1073741824 : Int)) := satF hs 194 rfl
  have n194 : v 194 = b2i ((1073741824 : Int) == (1073741824 : Int)) := e194.trans (by rw [f38])
  have f194 : v 194 = (1 : Int) := n194.trans (by decide)
  have e195 : v 195 = b2i (v 39 == (1073741824 : Int)) := satF hs 195 rfl
  have n195 : v 195 = b2i ((1073741824 : Int) == (1073741824 : Int)) := e195.trans (by rw [f39])
  have f195 : v 195 = (1 : Int) := n195.trans (by decide)
  have e196 : v 196 = b2i (v 40 == (0 : Int)) := satF hs 196 rfl
  have n196 : v 196 = b2i ((0 : Int) == (0 : Int)) := e196.trans (by rw [f40])
  have f196 : v 196 = (1 : Int) := n196.trans (by decide)
  have e197 : v 197 = b2i (v 41 == (0 : Int)) := satF hs 197 rfl
  have n197 : v 197 = b2i ((0 : Int) == (0 : Int)) := e197.trans (by rw [f41])
  have f197 : v 197 = (1 : Int) := n197.trans (by decide)
  have e198 : v 198 = if v 196 ≠ 0 then v 197 else (0 : Int) := satF hs 198 rfl
  have n198 : v 198 = if (1 : Int) ≠ 0 then (1 : Int) else (0 : Int) := e198.trans (by rw [f196, f197])
  have f198 : v 198 = (1 : Int) := n198.trans (if_pos (by decide))
  have e199 : v 199 = if v 195 ≠ 0 then v 198 else (0 : Int) := satF hs 199 rfl
  have n199 : v 199 = if (1 : Int) ≠ 0 then (1 : Int) else (0 : Int) := e199.trans (by rw [f195, f198])
  have f199 : v 199 = (1 : Int) := n199.trans (if_pos (by decide))
  have e200 : v 200 = if v 194 ≠ 0 then v 199 else (0 : Int) := satF hs 200 rfl
  have n200 : v 200 = if (1 : Int) ≠ 0 then (1 : Int) else (0 : Int) := e200.trans (by rw [f194, f199])
  have f200 : v 200 = (1 : Int) := n200.trans (if_pos (by decide))
  have e201 : v 201 = if v 193 ≠ 0 then v 200 else (0 : Int) := satF hs 201 rfl
  have n201 : v 201 = if (1 : Int) ≠ 0 then (1 : Int) else (0 : Int) := e201.trans (by rw [f193, f200])
  have f201 : v 201 = (1 : Int) := n201.trans (if_pos (by decide))
  have e202 : v 202 = if v 192 ≠ 0 then v 201 else (0 : Int) := satF hs 202 rfl
  have n202 : v 202 = if (1 : Int) ≠ 0 then (1 : Int) else (0 : Int) := e202.trans (by rw [f192, f201])
  have f202 : v 202 = (1 : Int) := n202.trans (if_pos (by decide))
  have e203 : v 203 = if v 191 ≠ 0 then v 202 else (0 : Int) := satF hs 203 rfl
  have n203 : v 203 = if (1 : Int) ≠ 0 then (1 : Int) else (0 : Int) := e203.trans (by rw [f191, f202])
  have f203 : v 203 = (1 : Int) := n203.trans (if_pos (by decide))
  have e204 : v 204 = b2i (v 188 == (0 : Int)) := satF hs 204 rfl
  have n204 : v 204 = b2i ((0 : Int) == (0 : Int)) := e204.trans (by rw [f188])
  have f204 : v 204 = (1 : Int) := n204.trans (by decide)
  have e205 : v 205 = if v 203 ≠ 0 then v 204 else (0 : Int) := satF hs 205 rfl
  have n205 : v 205 = if (1 : Int) ≠ 0 then (1 : Int) else (0 : Int) := e205.trans (by rw [f203, f204])
  have f205 : v 205 = (1 : Int) := n205.trans (if_pos (by decide))
  have e206 : v 206 = b2i (v 189 == (5400000 : Int)) := satF hs 206 rfl
  have n206 : v 206 = b2i ((5400000 : Int) == (5400000 : Int)) := e206.trans (by rw [f189])
  have f206 : v 206 = (1 : Int) := n206.trans (by decide)
  have e207 : v 207 = b2i (v 190 == (5400000 : Int)) := satF hs 207 rfl
  have n207 : v 207 = b2i ((5400000 : Int) == (5400000 : Int)) := e207.trans (by rw [f190])
  have f207 : v 207 = (1 : Int) := n207.trans (by decide)
  have e208 : v 208 = if v 206 ≠ 0 then v 207 else (0 : Int) := satF hs 208 rfl
  have n208 : v 208 = if (1 : Int) ≠ 0 then (1 : Int) else (0 : Int) := e208.trans (by rw [f206, f207])
  have f208 : v 208 = (1 : Int) := n208.trans (if_pos (by decide))
  have e209 : v 209 = if v 205 ≠ 0 then v 208 else (0 : Int) := satF hs 209 rfl
  have n209 : v 209 = if (1 : Int) ≠ 0 then (1 : Int) else (0 : Int) := e209.trans (by rw [f205, f208])
  have f209 : v 209 = (1 : Int) := n209.trans (if_pos (by decide))
  have e210 : v 210 = if v 209 ≠ 0 then v 46 else (0 : Int) := satF hs 210 rfl
  have n210 : v 210 = if (1 : Int) ≠ 0 then (1 : Int) else (0 : Int) := e210.trans (by rw [f209, f46])
  have f210 : v 210 = (1 : Int) := n210.trans (if_pos (by decide))
  refine ⟨vcs_rev ?_, ?_⟩
  · refine vcs_cons ?_ (vcs_cons ?_ (vcs_cons ?_ (vcs_cons ?_ (vcs_cons ?_ (vcs_cons ?_ (vcs_cons ?_ (vcs_cons ?_ (vcs_cons ?_ (vcs_cons ?_ (vcs_cons ?_ (vcs_cons ?_ (vcs_cons ?_ (vcs_cons ?_ (vcs_cons ?_ (vcs_cons ?_ (vcs_cons ?_ (vcs_cons ?_ (vcs_cons ?_ (vcs_cons ?_ (vcs_cons ?_ (vcs_cons ?_ (vcs_cons ?_ (vcs_cons ?_ (vcs_cons ?_ (vcs_cons ?_ (vcs_cons ?_ (vcs_cons ?_ (vcs_cons ?_ (vcs_cons ?_ (vcs_cons ?_ (vcs_cons ?_ (vcs_cons ?_ (vcs_cons ?_ (vcs_cons ?_ (vcs_cons ?_ (vcs_nil))))))))))))))))))))))))))))))))))))
    · exact fun _ => (show arcV (0) (0) = true by decide)
    · exact fun _ => (show arcV (5400000) (5400000) = true by decide)
    · exact fun _ => (show fxV (v 0) (v 1) = true ∧ fxV (v 3) (v 4) = true by rw [f0, f1, f3, f4] <;> decide)
    · exact fun _ => (show arcV (5400000) (5400000) = true by decide)
    · exact fun _ => (show fxV (v 0) (v 1) = true ∧ fxV (v 15) (v 16) = true by rw [f0, f1, f15, f16] <;> decide)
    · exact fun _ => (show arcV (0) (0) = true by decide)
    · exact fun _ => trivial
    · exact fun _ => trivial
    · exact fun _ => trivial
    · exact fun _ => trivial
    · exact fun _ => trivial
    · exact fun _ => trivial
    · exact fun _ => (show fxV (v 38) (v 39) = true ∧ fxV (1073741824) (1073741824) = true by rw [f38, f39] <;> decide)
    · exact fun _ => (show fxV (v 40) (v 41) = true ∧ fxV (0) (0) = true by rw [f40, f41] <;> decide)
    · exact fun _ => (show fxV (v 55) (v 56) = true ∧ fxV (v 58) (v 59) = true by rw [f55, f56, f58, f59] <;> decide)
    · exact fun _ => (show fxV (v 40) (v 41) = true ∧ fxV (0) (0) = true by rw [f40, f41] <;> decide)
    · exact fun _ => (show fxV (v 36) (v 37) = true ∧ fxV (1073741824) (1073741824) = true by rw [f36, f37] <;> decide)
    · exact fun _ => (show fxV (v 58) (v 59) = true ∧ fxV (v 73) (v 74) = true by rw [f58, f59, f73, f74] <;> decide)
    · exact fun _ => (show fxV (v 36) (v 37) = true ∧ fxV (0) (0) = true by rw [f36, f37] <;> decide)
    · exact fun _ => (show fxV (v 38) (v 39) = true ∧ fxV (0) (0) = true by rw [f38, f39] <;> decide)
    · exact fun _ => (show fxV (v 85) (v 86) = true ∧ fxV (v 91) (v 92) = true by rw [f85, f86, f91, f92] <;> decide)
    · exact fun _ => (show fxV (v 64) (v 65) = true by rw [f64, f65] <;> decide)
    · exact fun _ => (show fxV (v 79) (v 80) = true by rw [f79, f80] <;> decide)
    · exact fun _ => (show fxV (v 103) (v 104) = true ∧ fxV (v 109) (v 110) = true by rw [f103, f104, f109, f110] <;> decide)
    · exact fun _ => (show fxV (v 97) (v 98) = true by rw [f97, f98] <;> decide)
    · exact fun _ => (show fxV (v 115) (v 116) = true ∧ fxV (v 121) (v 122) = true by rw [f115, f116, f121, f122] <;> decide)
    · exact fun _ => (show fxV (v 127) (v 128) = true ∧ 0 ≤ v 128 by rw [f127, f128] <;> decide)
    · exact fun _ => (show fxV (v 36) (v 37) = true ∧ fxV (0) (0) = true by rw [f36, f37] <;> decide)
    · exact fun _ => (show fxV (v 38) (v 39) = true ∧ fxV (0) (0) = true by rw [f38, f39] <;> decide)
    · exact fun _ => (show fxV (v 85) (v 86) = true ∧ fxV (v 91) (v 92) = true by rw [f85, f86, f91, f92] <;> decide)
    · exact fun _ => (show fxV (v 40) (v 41) = true ∧ fxV (1073741824) (1073741824) = true by rw [f40, f41] <;> decide)
    · exact fun _ => (show fxV (v 145) (v 146) = true ∧ fxV (v 151) (v 152) = true by rw [f145, f146, f151, f152] <;> decide)
    · exact fun _ => (show fxV (v 133) (v 134) = true ∧ fxV (v 157) (v 158) = true by rw [f133, f134, f157, f158] <;> decide)
    · exact fun _ => trivial
    · exact fun _ => trivial
    · exact fun _ => trivial
  · intro x hx
    have hx' : x = .bool (decide (v 210 ≠ 0)) := hx
    rw [hx', f210]; rfl
def sAwake24 : Sx.Spec := ⟨15, 20, [], [(false, [none])]⟩
theorem sAwake24_ok (args : List Int) : SpecOK Tryz.prog (cxB args) sAwake24 := by
  refine ⟨ours _ _ _ Tryz.func15 rfl (by kernel_rfl), fun xs hp w => ?_⟩
  rw [pre0 hp]
  exact c_awake24 w
end Go.Proofs.YtfffpodaabdpfaaGreat
