/- The law VectorsProducts: Dot and Cross return the specified products, or the specified errors. -/
import Derived.Test.YtlloiallkcfomaaSp
import Derived.Test.YtlloiallkcfomaaAwake24
set_option linter.unusedVariables false
set_option linter.unusedSimpArgs false
namespace Go.Proofs.Ytlloiallkcfomaa
open Go.RowKit Alm Sx
def spProd : List Sx.Spec := spProg ++ spRef4 ++ [sAwake24]
theorem spProd_ok (args : List Int) : ∀ s ∈ spProd, SpecOK Try.prog (cxB args) s := by
  intro s hs
  rcases List.mem_append.1 hs with h | h
  · exact spBoth_ok args s h
  · rw [List.mem_singleton.1 h]; exact sAwake24_ok args
def nd_prod : List Nd := [
  .arg 0,
  .arg 1,
  .arg 2,
  .arg 3,
  .arg 4,
  .arg 5,
  .arg 6,
  .arg 7,
  .arg 8,
  .arg 9,
  .arg 10,
  .arg 11,
  .app 20 0 [],
  .ite (.n 12) (.c 0) (.c 1),
  .ite (.n 13) (.c 0) (.c 1),
  .app 8 0 [.n 0, .n 1],
  .app 8 0 [.n 2, .n 3],
  .ite (.n 15) (.n 16) (.c 0),
  .app 8 0 [.n 4, .n 5],
  .ite (.n 17) (.n 18) (.c 0),
  .ite (.n 19) (.c 0) (.c 1),
  .app 8 0 [.n 6, .n 7],
  .app 8 0 [.n 8, .n 9],
  .ite (.n 21) (.n 22) (.c 0),
  .app 8 0 [.n 10, .n 11],
  .ite (.n 23) (.n 24) (.c 0),
  .ite (.n 25) (.c 0) (.c 1),
  .ite (.n 20) (.c 1) (.n 26),
  .ite (.n 27) (.c 0) (.c 1),
  .app 0 0 [.n 0, .n 1, .n 6, .n 7],
  .app 0 1 [.n 0, .n 1, .n 6, .n 7],
  .app 0 2 [.n 0, .n 1, .n 6, .n 7],
  .app 0 0 [.n 2, .n 3, .n 8, .n 9],
  .app 0 1 [.n 2, .n 3, .n 8, .n 9],
  .app 0 2 [.n 2, .n 3, .n 8, .n 9],
  .bin .eql .i64 (.n 31) (.c 0),
  .ite (.n 35) (.c 0) (.c 1),
  .ite (.n 35) (.n 34) (.n 31),
  .app 1 0 [.n 29, .n 30, .n 32, .n 33],
  .app 1 1 [.n 29, .n 30, .n 32, .n 33],
  .app 1 2 [.n 29, .n 30, .n 32, .n 33],
  .bin .eql .i64 (.n 37) (.c 0),
  .ite (.n 41) (.c 0) (.c 1),
  .ite (.n 41) (.n 40) (.n 37),
  .app 0 0 [.n 4, .n 5, .n 10, .n 11],
  .app 0 1 [.n 4, .n 5, .n 10, .n 11],
  .app 0 2 [.n 4, .n 5, .n 10, .n 11],
  .bin .eql .i64 (.n 43) (.c 0),
  .ite (.n 47) (.c 0) (.c 1),
  .ite (.n 47) (.n 46) (.n 43),
  .app 1 0 [.n 38, .n 39, .n 44, .n 45],
  .app 1 1 [.n 38, .n 39, .n 44, .n 45],
  .app 1 2 [.n 38, .n 39, .n 44, .n 45],
  .bin .eql .i64 (.n 49) (.c 0),
  .ite (.n 53) (.c 0) (.c 1),
  .ite (.n 53) (.n 52) (.n 49),
  .bin .neq .i64 (.n 55) (.c 0),
  .ite (.n 56) (.c 0) (.c 1),
  .ite (.n 56) (.n 55) (.c 0),
  .ite (.n 56) (.c 0) (.n 50),
  .ite (.n 56) (.c 0) (.n 51),
  .ite (.n 27) (.c 1) (.n 58),
  .ite (.n 27) (.c 0) (.n 59),
  .ite (.n 27) (.c 0) (.n 60),
  .app 0 0 [.n 2, .n 3, .n 10, .n 11],
  .app 0 1 [.n 2, .n 3, .n 10, .n 11],
  .app 0 2 [.n 2, .n 3, .n 10, .n 11],
  .app 0 0 [.n 4, .n 5, .n 8, .n 9],
  .app 0 1 [.n 4, .n 5, .n 8, .n 9],
  .app 0 2 [.n 4, .n 5, .n 8, .n 9],
  .bin .eql .i64 (.n 66) (.c 0),
  .ite (.n 70) (.c 0) (.c 1),
  .ite (.n 70) (.n 69) (.n 66),
  .app 2 0 [.n 64, .n 65, .n 67, .n 68],
  .app 2 1 [.n 64, .n 65, .n 67, .n 68],
  .app 2 2 [.n 64, .n 65, .n 67, .n 68],
  .bin .eql .i64 (.n 72) (.c 0),
  .ite (.n 76) (.c 0) (.c 1),
  .ite (.n 76) (.n 75) (.n 72),
  .app 0 0 [.n 4, .n 5, .n 6, .n 7],
  .app 0 1 [.n 4, .n 5, .n 6, .n 7],
  .app 0 2 [.n 4, .n 5, .n 6, .n 7],
  .bin .eql .i64 (.n 78) (.c 0),
  .ite (.n 82) (.c 0) (.c 1),
  .ite (.n 82) (.n 81) (.n 78),
  .app 0 0 [.n 0, .n 1, .n 10, .n 11],
  .app 0 1 [.n 0, .n 1, .n 10, .n 11],
  .app 0 2 [.n 0, .n 1, .n 10, .n 11],
  .bin .eql .i64 (.n 84) (.c 0),
  .ite (.n 88) (.c 0) (.c 1),
  .ite (.n 88) (.n 87) (.n 84),
  .app 2 0 [.n 79, .n 80, .n 85, .n 86],
  .app 2 1 [.n 79, .n 80, .n 85, .n 86],
  .app 2 2 [.n 79, .n 80, .n 85, .n 86],
  .bin .eql .i64 (.n 90) (.c 0),
  .ite (.n 94) (.c 0) (.c 1),
  .ite (.n 94) (.n 93) (.n 90),
  .app 0 0 [.n 0, .n 1, .n 8, .n 9],
  .app 0 1 [.n 0, .n 1, .n 8, .n 9],
  .app 0 2 [.n 0, .n 1, .n 8, .n 9],
  .bin .eql .i64 (.n 96) (.c 0),
  .ite (.n 100) (.c 0) (.c 1),
  .ite (.n 100) (.n 99) (.n 96),
  .app 0 0 [.n 2, .n 3, .n 6, .n 7],
  .app 0 1 [.n 2, .n 3, .n 6, .n 7],
  .app 0 2 [.n 2, .n 3, .n 6, .n 7],
  .bin .eql .i64 (.n 102) (.c 0),
  .ite (.n 106) (.c 0) (.c 1),
  .ite (.n 106) (.n 105) (.n 102),
  .app 2 0 [.n 97, .n 98, .n 103, .n 104],
  .app 2 1 [.n 97, .n 98, .n 103, .n 104],
  .app 2 2 [.n 97, .n 98, .n 103, .n 104],
  .bin .eql .i64 (.n 108) (.c 0),
  .ite (.n 112) (.c 0) (.c 1),
  .ite (.n 112) (.n 111) (.n 108),
  .bin .neq .i64 (.n 114) (.c 0),
  .ite (.n 115) (.c 0) (.c 1),
  .ite (.n 115) (.n 114) (.c 0),
  .ite (.n 115) (.c 0) (.n 73),
  .ite (.n 115) (.c 0) (.n 74),
  .ite (.n 115) (.c 0) (.n 91),
  .ite (.n 115) (.c 0) (.n 92),
  .ite (.n 115) (.c 0) (.n 109),
  .ite (.n 115) (.c 0) (.n 110),
  .ite (.n 27) (.c 1) (.n 117),
  .ite (.n 27) (.c 0) (.n 118),
  .ite (.n 27) (.c 0) (.n 119),
  .ite (.n 27) (.c 0) (.n 120),
  .ite (.n 27) (.c 0) (.n 121),
  .ite (.n 27) (.c 0) (.n 122),
  .ite (.n 27) (.c 0) (.n 123),
  .bin .eql .i64 (.n 62) (.c 0),
  .bin .eql .i64 (.n 63) (.c 0),
  .ite (.n 131) (.n 132) (.c 0),
  .bin .eql .i64 (.n 61) (.c 1),
  .ite (.n 133) (.n 134) (.c 0),
  .bin .eql .i64 (.n 125) (.c 0),
  .bin .eql .i64 (.n 126) (.c 0),
  .bin .eql .i64 (.n 127) (.c 0),
  .bin .eql .i64 (.n 128) (.c 0),
  .bin .eql .i64 (.n 129) (.c 0),
  .bin .eql .i64 (.n 130) (.c 0),
  .ite (.n 140) (.n 141) (.c 0),
  .ite (.n 139) (.n 142) (.c 0),
  .ite (.n 138) (.n 143) (.c 0),
  .ite (.n 137) (.n 144) (.c 0),
  .ite (.n 136) (.n 145) (.c 0),
  .bin .eql .i64 (.n 124) (.c 1),
  .ite (.n 146) (.n 147) (.c 0),
  .ite (.n 135) (.n 148) (.c 0),
  .bin .neq .i64 (.n 31) (.c 0),
  .ite (.n 150) (.c 0) (.c 1),
  .ite (.n 150) (.c 0) (.n 29),
  .ite (.n 150) (.c 0) (.n 30),
  .bin .neq .i64 (.n 34) (.c 0),
  .ite (.n 154) (.c 0) (.c 1),
  .ite (.n 154) (.c 0) (.n 32),
  .ite (.n 154) (.c 0) (.n 33),
  .app 1 0 [.n 152, .n 153, .n 156, .n 157],
  .app 1 1 [.n 152, .n 153, .n 156, .n 157],
  .app 1 2 [.n 152, .n 153, .n 156, .n 157],
  .ite (.n 41) (.n 160) (.n 37),
  .bin .neq .i64 (.n 160) (.c 0),
  .ite (.n 162) (.c 0) (.c 1),
  .ite (.n 162) (.c 0) (.n 158),
  .ite (.n 162) (.c 0) (.n 159),
  .bin .eql .i64 (.n 161) (.c 0),
  .ite (.n 166) (.c 0) (.c 1),
  .ite (.n 166) (.n 46) (.n 161),
  .bin .neq .i64 (.n 46) (.c 0),
  .ite (.n 169) (.c 0) (.c 1),
  .ite (.n 169) (.c 0) (.n 44),
  .ite (.n 169) (.c 0) (.n 45),
  .app 1 0 [.n 164, .n 165, .n 171, .n 172],
  .app 1 1 [.n 164, .n 165, .n 171, .n 172],
  .app 1 2 [.n 164, .n 165, .n 171, .n 172],
  .bin .eql .i64 (.n 168) (.c 0),
  .ite (.n 176) (.c 0) (.c 1),
  .ite (.n 176) (.n 175) (.n 168),
  .bin .neq .i64 (.n 175) (.c 0),
  .ite (.n 179) (.c 0) (.c 1),
  .ite (.n 179) (.c 0) (.n 173),
  .ite (.n 179) (.c 0) (.n 174),
  .bin .neq .i64 (.n 178) (.c 0),
  .ite (.n 183) (.c 0) (.c 1),
  .ite (.n 183) (.n 178) (.c 0),
  .ite (.n 183) (.c 0) (.n 181),
  .ite (.n 183) (.c 0) (.n 182),
  .bin .neq .i64 (.n 66) (.c 0),
  .ite (.n 188) (.c 0) (.c 1),
  .ite (.n 188) (.c 0) (.n 64),
  .ite (.n 188) (.c 0) (.n 65),
  .bin .neq .i64 (.n 69) (.c 0),
  .ite (.n 192) (.c 0) (.c 1),
  .ite (.n 192) (.c 0) (.n 67),
  .ite (.n 192) (.c 0) (.n 68),
  .app 2 0 [.n 190, .n 191, .n 194, .n 195],
  .app 2 1 [.n 190, .n 191, .n 194, .n 195],
  .app 2 2 [.n 190, .n 191, .n 194, .n 195],
  .ite (.n 76) (.n 198) (.n 72),
  .bin .neq .i64 (.n 198) (.c 0),
  .ite (.n 200) (.c 0) (.c 1),
  .ite (.n 200) (.c 0) (.n 196),
  .ite (.n 200) (.c 0) (.n 197),
  .bin .eql .i64 (.n 199) (.c 0),
  .ite (.n 204) (.c 0) (.c 1),
  .ite (.n 204) (.n 81) (.n 199),
  .bin .neq .i64 (.n 81) (.c 0),
  .ite (.n 207) (.c 0) (.c 1),
  .ite (.n 207) (.c 0) (.n 79),
  .ite (.n 207) (.c 0) (.n 80),
  .bin .eql .i64 (.n 206) (.c 0),
  .ite (.n 211) (.c 0) (.c 1),
  .ite (.n 211) (.n 87) (.n 206),
  .bin .neq .i64 (.n 87) (.c 0),
  .ite (.n 214) (.c 0) (.c 1),
  .ite (.n 214) (.c 0) (.n 85),
  .ite (.n 214) (.c 0) (.n 86),
  .app 2 0 [.n 209, .n 210, .n 216, .n 217],
  .app 2 1 [.n 209, .n 210, .n 216, .n 217],
  .app 2 2 [.n 209, .n 210, .n 216, .n 217],
  .bin .eql .i64 (.n 213) (.c 0),
  .ite (.n 221) (.c 0) (.c 1),
  .ite (.n 221) (.n 220) (.n 213),
  .bin .neq .i64 (.n 220) (.c 0),
  .ite (.n 224) (.c 0) (.c 1),
  .ite (.n 224) (.c 0) (.n 218),
  .ite (.n 224) (.c 0) (.n 219),
  .bin .eql .i64 (.n 223) (.c 0),
  .ite (.n 228) (.c 0) (.c 1),
  .ite (.n 228) (.n 99) (.n 223),
  .bin .neq .i64 (.n 99) (.c 0),
  .ite (.n 231) (.c 0) (.c 1),
  .ite (.n 231) (.c 0) (.n 97),
  .ite (.n 231) (.c 0) (.n 98),
  .bin .eql .i64 (.n 230) (.c 0),
  .ite (.n 235) (.c 0) (.c 1),
  .ite (.n 235) (.n 105) (.n 230),
  .bin .neq .i64 (.n 105) (.c 0),
  .ite (.n 238) (.c 0) (.c 1),
  .ite (.n 238) (.c 0) (.n 103),
  .ite (.n 238) (.c 0) (.n 104),
  .app 2 0 [.n 233, .n 234, .n 240, .n 241],
  .app 2 1 [.n 233, .n 234, .n 240, .n 241],
  .app 2 2 [.n 233, .n 234, .n 240, .n 241],
  .bin .eql .i64 (.n 237) (.c 0),
  .ite (.n 245) (.c 0) (.c 1),
  .ite (.n 245) (.n 244) (.n 237),
  .bin .neq .i64 (.n 244) (.c 0),
  .ite (.n 248) (.c 0) (.c 1),
  .ite (.n 248) (.c 0) (.n 242),
  .ite (.n 248) (.c 0) (.n 243),
  .bin .neq .i64 (.n 247) (.c 0),
  .ite (.n 252) (.c 0) (.c 1),
  .ite (.n 252) (.n 247) (.c 0),
  .ite (.n 252) (.c 0) (.n 202),
  .ite (.n 252) (.c 0) (.n 203),
  .ite (.n 252) (.c 0) (.n 226),
  .ite (.n 252) (.c 0) (.n 227),
  .ite (.n 252) (.c 0) (.n 250),
  .ite (.n 252) (.c 0) (.n 251),
  .bin .eql .i64 (.n 62) (.n 186),
  .bin .eql .i64 (.n 63) (.n 187),
  .ite (.n 261) (.n 262) (.c 0),
  .bin .eql .i64 (.n 61) (.n 185),
  .ite (.n 263) (.n 264) (.c 0),
  .bin .eql .i64 (.n 125) (.n 255),
  .bin .eql .i64 (.n 126) (.n 256),
  .bin .eql .i64 (.n 127) (.n 257),
  .bin .eql .i64 (.n 128) (.n 258),
  .bin .eql .i64 (.n 129) (.n 259),
  .bin .eql .i64 (.n 130) (.n 260),
  .ite (.n 270) (.n 271) (.c 0),
  .ite (.n 269) (.n 272) (.c 0),
  .ite (.n 268) (.n 273) (.c 0),
  .ite (.n 267) (.n 274) (.c 0),
  .ite (.n 266) (.n 275) (.c 0),
  .bin .eql .i64 (.n 124) (.n 254),
  .ite (.n 276) (.n 277) (.c 0),
  .ite (.n 265) (.n 278) (.c 0),
  .ite (.n 27) (.n 149) (.n 279),
  .ite (.n 13) (.c 0) (.n 280)]
def vc_prod : List Vc := [
  ⟨[], .pre 20 []⟩,
  ⟨[(.n 14, true)], .pre 8 [.n 0, .n 1]⟩,
  ⟨[(.n 14, true), (.n 15, true)], .pre 8 [.n 2, .n 3]⟩,
  ⟨[(.n 14, true), (.n 17, true)], .pre 8 [.n 4, .n 5]⟩,
  ⟨[(.n 14, true), (.n 20, false)], .pre 8 [.n 6, .n 7]⟩,
  ⟨[(.n 14, true), (.n 20, false), (.n 21, true)], .pre 8 [.n 8, .n 9]⟩,
  ⟨[(.n 14, true), (.n 20, false), (.n 23, true)], .pre 8 [.n 10, .n 11]⟩,
  ⟨[(.n 28, true), (.n 14, true)], .pre 0 [.n 0, .n 1, .n 6, .n 7]⟩,
  ⟨[(.n 28, true), (.n 14, true)], .pre 0 [.n 2, .n 3, .n 8, .n 9]⟩,
  ⟨[(.n 28, true), (.n 14, true)], .pre 1 [.n 29, .n 30, .n 32, .n 33]⟩,
  ⟨[(.n 28, true), (.n 14, true)], .pre 0 [.n 4, .n 5, .n 10, .n 11]⟩,
  ⟨[(.n 28, true), (.n 14, true)], .pre 1 [.n 38, .n 39, .n 44, .n 45]⟩,
  ⟨[(.n 14, true)], .pre 8 [.n 0, .n 1]⟩,
  ⟨[(.n 14, true), (.n 15, true)], .pre 8 [.n 2, .n 3]⟩,
  ⟨[(.n 14, true), (.n 17, true)], .pre 8 [.n 4, .n 5]⟩,
  ⟨[(.n 14, true), (.n 20, false)], .pre 8 [.n 6, .n 7]⟩,
  ⟨[(.n 14, true), (.n 20, false), (.n 21, true)], .pre 8 [.n 8, .n 9]⟩,
  ⟨[(.n 14, true), (.n 20, false), (.n 23, true)], .pre 8 [.n 10, .n 11]⟩,
  ⟨[(.n 28, true), (.n 14, true)], .pre 0 [.n 2, .n 3, .n 10, .n 11]⟩,
  ⟨[(.n 28, true), (.n 14, true)], .pre 0 [.n 4, .n 5, .n 8, .n 9]⟩,
  ⟨[(.n 28, true), (.n 14, true)], .pre 2 [.n 64, .n 65, .n 67, .n 68]⟩,
  ⟨[(.n 28, true), (.n 14, true)], .pre 0 [.n 4, .n 5, .n 6, .n 7]⟩,
  ⟨[(.n 28, true), (.n 14, true)], .pre 0 [.n 0, .n 1, .n 10, .n 11]⟩,
  ⟨[(.n 28, true), (.n 14, true)], .pre 2 [.n 79, .n 80, .n 85, .n 86]⟩,
  ⟨[(.n 28, true), (.n 14, true)], .pre 0 [.n 0, .n 1, .n 8, .n 9]⟩,
  ⟨[(.n 28, true), (.n 14, true)], .pre 0 [.n 2, .n 3, .n 6, .n 7]⟩,
  ⟨[(.n 28, true), (.n 14, true)], .pre 2 [.n 97, .n 98, .n 103, .n 104]⟩,
  ⟨[(.n 14, true)], .pre 8 [.n 0, .n 1]⟩,
  ⟨[(.n 14, true), (.n 15, true)], .pre 8 [.n 2, .n 3]⟩,
  ⟨[(.n 14, true), (.n 17, true)], .pre 8 [.n 4, .n 5]⟩,
  ⟨[(.n 14, true), (.n 20, false)], .pre 8 [.n 6, .n 7]⟩,
  ⟨[(.n 14, true), (.n 20, false), (.n 21, true)], .pre 8 [.n 8, .n 9]⟩,
  ⟨[(.n 14, true), (.n 20, false), (.n 23, true)], .pre 8 [.n 10, .n 11]⟩,
  ⟨[(.n 28, true), (.n 14, true)], .pre 0 [.n 0, .n 1, .n 6, .n 7]⟩,
  ⟨[(.n 28, true), (.n 14, true)], .pre 0 [.n 2, .n 3, .n 8, .n 9]⟩,
  ⟨[(.n 28, true), (.n 14, true)], .pre 1 [.n 152, .n 153, .n 156, .n 157]⟩,
  ⟨[(.n 28, true), (.n 14, true)], .pre 0 [.n 4, .n 5, .n 10, .n 11]⟩,
  ⟨[(.n 28, true), (.n 14, true)], .pre 1 [.n 164, .n 165, .n 171, .n 172]⟩,
  ⟨[(.n 28, true), (.n 14, true)], .pre 0 [.n 2, .n 3, .n 10, .n 11]⟩,
  ⟨[(.n 28, true), (.n 14, true)], .pre 0 [.n 4, .n 5, .n 8, .n 9]⟩,
  ⟨[(.n 28, true), (.n 14, true)], .pre 2 [.n 190, .n 191, .n 194, .n 195]⟩,
  ⟨[(.n 28, true), (.n 14, true)], .pre 0 [.n 4, .n 5, .n 6, .n 7]⟩,
  ⟨[(.n 28, true), (.n 14, true)], .pre 0 [.n 0, .n 1, .n 10, .n 11]⟩,
  ⟨[(.n 28, true), (.n 14, true)], .pre 2 [.n 209, .n 210, .n 216, .n 217]⟩,
  ⟨[(.n 28, true), (.n 14, true)], .pre 0 [.n 0, .n 1, .n 8, .n 9]⟩,
  ⟨[(.n 28, true), (.n 14, true)], .pre 0 [.n 2, .n 3, .n 6, .n 7]⟩,
  ⟨[(.n 28, true), (.n 14, true)], .pre 2 [.n 233, .n 234, .n 240, .n 241]⟩]
theorem wh_prod : whole Try.prog spProd 20 30 6 [(true, [some .i64, some .i64, some .i64, some .i64, some .i64, some .i64]), (true, [some .i64, some .i64, some .i64, some .i64, some .i64, some .i64])] = some (.p (.c (.bool (.n 281))), ⟨nd_prod.reverse, vc_prod.reverse⟩) := by kernel_rfl
theorem wf_prod : wfN nd_prod.reverse = true := by kernel_rfl
set_option maxRecDepth 100000 in
theorem c_lawProd (ax1 ax2 ay1 ay2 az1 az2 bx1 bx2 by1 by2 bz1 bz2 : Int) (w : World) : Calls Try.prog 6 #[.agg #[.int .i64 ax1, .int .i64 ax2, .int .i64 ay1, .int .i64 ay2, .int .i64 az1, .int .i64 az2], .agg #[.int .i64 bx1, .int .i64 bx2, .int .i64 by1, .int .i64 by2, .int .i64 bz1, .int .i64 bz2]] w fun e w' => e = .returned (.bool true) ∧ Below w.heap.size w w' := by
  refine Sx.calls (X := cxB [ax1, ax2, ay1, ay2, az1, az2, bx1, bx2, by1, by2, bz1, bz2]) hmix (spProd_ok _) wh_prod wf_prod (fun v hs => ?_) w
  have e15 : v 15 = b2i (fxV (v 0) (v 1)) := satF hs 15 rfl
  have e16 : v 16 = b2i (fxV (v 2) (v 3)) := satF hs 16 rfl
  have e17 : v 17 = if v 15 ≠ 0 then v 16 else (0 : Int) := satF hs 17 rfl
  have e18 : v 18 = b2i (fxV (v 4) (v 5)) := satF hs 18 rfl
  have e19 : v 19 = if v 17 ≠ 0 then v 18 else (0 : Int) := satF hs 19 rfl
  have e20 : v 20 = if v 19 ≠ 0 then (0 : Int) else (1 : Int) := satF hs 20 rfl
  have e21 : v 21 = b2i (fxV (v 6) (v 7)) := satF hs 21 rfl
  have e22 : v 22 = b2i (fxV (v 8) (v 9)) := satF hs 22 rfl
  have e23 : v 23 = if v 21 ≠ 0 then v 22 else (0 : Int) := satF hs 23 rfl
  have e24 : v 24 = b2i (fxV (v 10) (v 11)) := satF hs 24 rfl
  have e25 : v 25 = if v 23 ≠ 0 then v 24 else (0 : Int) := satF hs 25 rfl
  have e26 : v 26 = if v 25 ≠ 0 then (0 : Int) else (1 : Int) := satF hs 26 rfl
  have e27 : v 27 = if v 20 ≠ 0 then (1 : Int) else v 26 := satF hs 27 rfl
  have e28 : v 28 = if v 27 ≠ 0 then (0 : Int) else (1 : Int) := satF hs 28 rfl
  have e29 : v 29 = (semB 0 [v 0, v 1, v 6, v 7]).getD 0 0 := satF hs 29 rfl
  have e30 : v 30 = (semB 0 [v 0, v 1, v 6, v 7]).getD 1 0 := satF hs 30 rfl
  have e31 : v 31 = (semB 0 [v 0, v 1, v 6, v 7]).getD 2 0 := satF hs 31 rfl
  have e32 : v 32 = (semB 0 [v 2, v 3, v 8, v 9]).getD 0 0 := satF hs 32 rfl
  have e33 : v 33 = (semB 0 [v 2, v 3, v 8, v 9]).getD 1 0 := satF hs 33 rfl
  have e34 : v 34 = (semB 0 [v 2, v 3, v 8, v 9]).getD 2 0 := satF hs 34 rfl
  have e38 : v 38 = (semB 1 [v 29, v 30, v 32, v 33]).getD 0 0 := satF hs 38 rfl
  have e39 : v 39 = (semB 1 [v 29, v 30, v 32, v 33]).getD 1 0 := satF hs 39 rfl
  have e40 : v 40 = (semB 1 [v 29, v 30, v 32, v 33]).getD 2 0 := satF hs 40 rfl
  have e44 : v 44 = (semB 0 [v 4, v 5, v 10, v 11]).getD 0 0 := satF hs 44 rfl
  have e45 : v 45 = (semB 0 [v 4, v 5, v 10, v 11]).getD 1 0 := satF hs 45 rfl
  have e46 : v 46 = (semB 0 [v 4, v 5, v 10, v 11]).getD 2 0 := satF hs 46 rfl
  have e64 : v 64 = (semB 0 [v 2, v 3, v 10, v 11]).getD 0 0 := satF hs 64 rfl
  have e65 : v 65 = (semB 0 [v 2, v 3, v 10, v 11]).getD 1 0 := satF hs 65 rfl
  have e66 : v 66 = (semB 0 [v 2, v 3, v 10, v 11]).getD 2 0 := satF hs 66 rfl
  have e67 : v 67 = (semB 0 [v 4, v 5, v 8, v 9]).getD 0 0 := satF hs 67 rfl
  have e68 : v 68 = (semB 0 [v 4, v 5, v 8, v 9]).getD 1 0 := satF hs 68 rfl
  have e69 : v 69 = (semB 0 [v 4, v 5, v 8, v 9]).getD 2 0 := satF hs 69 rfl
  have e79 : v 79 = (semB 0 [v 4, v 5, v 6, v 7]).getD 0 0 := satF hs 79 rfl
  have e80 : v 80 = (semB 0 [v 4, v 5, v 6, v 7]).getD 1 0 := satF hs 80 rfl
  have e81 : v 81 = (semB 0 [v 4, v 5, v 6, v 7]).getD 2 0 := satF hs 81 rfl
  have e85 : v 85 = (semB 0 [v 0, v 1, v 10, v 11]).getD 0 0 := satF hs 85 rfl
  have e86 : v 86 = (semB 0 [v 0, v 1, v 10, v 11]).getD 1 0 := satF hs 86 rfl
  have e87 : v 87 = (semB 0 [v 0, v 1, v 10, v 11]).getD 2 0 := satF hs 87 rfl
  have e97 : v 97 = (semB 0 [v 0, v 1, v 8, v 9]).getD 0 0 := satF hs 97 rfl
  have e98 : v 98 = (semB 0 [v 0, v 1, v 8, v 9]).getD 1 0 := satF hs 98 rfl
  have e99 : v 99 = (semB 0 [v 0, v 1, v 8, v 9]).getD 2 0 := satF hs 99 rfl
  have e103 : v 103 = (semB 0 [v 2, v 3, v 6, v 7]).getD 0 0 := satF hs 103 rfl
  have e104 : v 104 = (semB 0 [v 2, v 3, v 6, v 7]).getD 1 0 := satF hs 104 rfl
  have e105 : v 105 = (semB 0 [v 2, v 3, v 6, v 7]).getD 2 0 := satF hs 105 rfl
  have e150 : v 150 = b2i (v 31 != (0 : Int)) := satF hs 150 rfl
  have e152 : v 152 = if v 150 ≠ 0 then (0 : Int) else v 29 := satF hs 152 rfl
  have f152 : v 152 = v 29 := e152.trans (fit_ite e150 (fun q => e29.trans ((sem_fit0 _ _ _ _ (fun u => q (e31.trans u))).1)))
  have e153 : v 153 = if v 150 ≠ 0 then (0 : Int) else v 30 := satF hs 153 rfl
  have f153 : v 153 = v 30 := e153.trans (fit_ite e150 (fun q => e30.trans ((sem_fit0 _ _ _ _ (fun u => q (e31.trans u))).2)))
  have e154 : v 154 = b2i (v 34 != (0 : Int)) := satF hs 154 rfl
  have e156 : v 156 = if v 154 ≠ 0 then (0 : Int) else v 32 := satF hs 156 rfl
  have f156 : v 156 = v 32 := e156.trans (fit_ite e154 (fun q => e32.trans ((sem_fit0 _ _ _ _ (fun u => q (e34.trans u))).1)))
  have e157 : v 157 = if v 154 ≠ 0 then (0 : Int) else v 33 := satF hs 157 rfl
  have f157 : v 157 = v 33 := e157.trans (fit_ite e154 (fun q => e33.trans ((sem_fit0 _ _ _ _ (fun u => q (e34.trans u))).2)))
  have e158 : v 158 = (semB 1 [v 152, v 153, v 156, v 157]).getD 0 0 := satF hs 158 rfl
  have n158 : v 158 = (semB 1 [v 29, v 30, v 32, v 33]).getD 0 0 := e158.trans (by rw [f152, f153, f156, f157])
  have f158 : v 158 = v 38 := n158.trans e38.symm
  have e159 : v 159 = (semB 1 [v 152, v 153, v 156, v 157]).getD 1 0 := satF hs 159 rfl
  have n159 : v 159 = (semB 1 [v 29, v 30, v 32, v 33]).getD 1 0 := e159.trans (by rw [f152, f153, f156, f157])
  have f159 : v 159 = v 39 := n159.trans e39.symm
  have e160 : v 160 = (semB 1 [v 152, v 153, v 156, v 157]).getD 2 0 := satF hs 160 rfl
  have n160 : v 160 = (semB 1 [v 29, v 30, v 32, v 33]).getD 2 0 := e160.trans (by rw [f152, f153, f156, f157])
  have f160 : v 160 = v 40 := n160.trans e40.symm
  have e162 : v 162 = b2i (v 160 != (0 : Int)) := satF hs 162 rfl
  have n162 : v 162 = b2i (v 40 != (0 : Int)) := e162.trans (by rw [f160])
  have e164 : v 164 = if v 162 ≠ 0 then (0 : Int) else v 158 := satF hs 164 rfl
  have n164 : v 164 = if v 162 ≠ 0 then (0 : Int) else v 38 := e164.trans (by rw [f158])
  have f164 : v 164 = v 38 := n164.trans (fit_ite n162 (fun q => e38.trans ((sem_fit1 _ _ _ _ (fun u => q (e40.trans u))).1)))
  have e165 : v 165 = if v 162 ≠ 0 then (0 : Int) else v 159 := satF hs 165 rfl
  have n165 : v 165 = if v 162 ≠ 0 then (0 : Int) else v 39 := e165.trans (by rw [f159])
  have f165 : v 165 = v 39 := n165.trans (fit_ite n162 (fun q => e39.trans ((sem_fit1 _ _ _ _ (fun u => q (e40.trans u))).2)))
  have e169 : v 169 = b2i (v 46 != (0 : Int)) := satF hs 169 rfl
  have e171 : v 171 = if v 169 ≠ 0 then (0 : Int) else v 44 := satF hs 171 rfl
  have f171 : v 171 = v 44 := e171.trans (fit_ite e169 (fun q => e44.trans ((sem_fit0 _ _ _ _ (fun u => q (e46.trans u))).1)))
  have e172 : v 172 = if v 169 ≠ 0 then (0 : Int) else v 45 := satF hs 172 rfl
  have f172 : v 172 = v 45 := e172.trans (fit_ite e169 (fun q => e45.trans ((sem_fit0 _ _ _ _ (fun u => q (e46.trans u))).2)))
  have e188 : v 188 = b2i (v 66 != (0 : Int)) := satF hs 188 rfl
  have e190 : v 190 = if v 188 ≠ 0 then (0 : Int) else v 64 := satF hs 190 rfl
  have f190 : v 190 = v 64 := e190.trans (fit_ite e188 (fun q => e64.trans ((sem_fit0 _ _ _ _ (fun u => q (e66.trans u))).1)))
  have e191 : v 191 = if v 188 ≠ 0 then (0 : Int) else v 65 := satF hs 191 rfl
  have f191 : v 191 = v 65 := e191.trans (fit_ite e188 (fun q => e65.trans ((sem_fit0 _ _ _ _ (fun u => q (e66.trans u))).2)))
  have e192 : v 192 = b2i (v 69 != (0 : Int)) := satF hs 192 rfl
  have e194 : v 194 = if v 192 ≠ 0 then (0 : Int) else v 67 := satF hs 194 rfl
  have f194 : v 194 = v 67 := e194.trans (fit_ite e192 (fun q => e67.trans ((sem_fit0 _ _ _ _ (fun u => q (e69.trans u))).1)))
  have e195 : v 195 = if v 192 ≠ 0 then (0 : Int) else v 68 := satF hs 195 rfl
  have f195 : v 195 = v 68 := e195.trans (fit_ite e192 (fun q => e68.trans ((sem_fit0 _ _ _ _ (fun u => q (e69.trans u))).2)))
  have e207 : v 207 = b2i (v 81 != (0 : Int)) := satF hs 207 rfl
  have e209 : v 209 = if v 207 ≠ 0 then (0 : Int) else v 79 := satF hs 209 rfl
  have f209 : v 209 = v 79 := e209.trans (fit_ite e207 (fun q => e79.trans ((sem_fit0 _ _ _ _ (fun u => q (e81.trans u))).1)))
  have e210 : v 210 = if v 207 ≠ 0 then (0 : Int) else v 80 := satF hs 210 rfl
  have f210 : v 210 = v 80 := e210.trans (fit_ite e207 (fun q => e80.trans ((sem_fit0 _ _ _ _ (fun u => q (e81.trans u))).2)))
  have e214 : v 214 = b2i (v 87 != (0 : Int)) := satF hs 214 rfl
  have e216 : v 216 = if v 214 ≠ 0 then (0 : Int) else v 85 := satF hs 216 rfl
  have f216 : v 216 = v 85 := e216.trans (fit_ite e214 (fun q => e85.trans ((sem_fit0 _ _ _ _ (fun u => q (e87.trans u))).1)))
  have e217 : v 217 = if v 214 ≠ 0 then (0 : Int) else v 86 := satF hs 217 rfl
  have f217 : v 217 = v 86 := e217.trans (fit_ite e214 (fun q => e86.trans ((sem_fit0 _ _ _ _ (fun u => q (e87.trans u))).2)))
  have e231 : v 231 = b2i (v 99 != (0 : Int)) := satF hs 231 rfl
  have e233 : v 233 = if v 231 ≠ 0 then (0 : Int) else v 97 := satF hs 233 rfl
  have f233 : v 233 = v 97 := e233.trans (fit_ite e231 (fun q => e97.trans ((sem_fit0 _ _ _ _ (fun u => q (e99.trans u))).1)))
  have e234 : v 234 = if v 231 ≠ 0 then (0 : Int) else v 98 := satF hs 234 rfl
  have f234 : v 234 = v 98 := e234.trans (fit_ite e231 (fun q => e98.trans ((sem_fit0 _ _ _ _ (fun u => q (e99.trans u))).2)))
  have e238 : v 238 = b2i (v 105 != (0 : Int)) := satF hs 238 rfl
  have e240 : v 240 = if v 238 ≠ 0 then (0 : Int) else v 103 := satF hs 240 rfl
  have f240 : v 240 = v 103 := e240.trans (fit_ite e238 (fun q => e103.trans ((sem_fit0 _ _ _ _ (fun u => q (e105.trans u))).1)))
  have e241 : v 241 = if v 238 ≠ 0 then (0 : Int) else v 104 := satF hs 241 rfl
  have f241 : v 241 = v 104 := e241.trans (fit_ite e238 (fun q => e104.trans ((sem_fit0 _ _ _ _ (fun u => q (e105.trans u))).2)))
  have H : v 28 ≠ 0 → fxV (v 0) (v 1) = true ∧ fxV (v 2) (v 3) = true ∧ fxV (v 4) (v 5) = true ∧ fxV (v 6) (v 7) = true ∧ fxV (v 8) (v 9) = true ∧ fxV (v 10) (v 11) = true := by
    rw [e28, e27, e26, e25, e24, e23, e22, e21, e20, e19, e18, e17, e16, e15]
    generalize fxV (v 0) (v 1) = q0; generalize fxV (v 2) (v 3) = q1; generalize fxV (v 4) (v 5) = q2
    generalize fxV (v 6) (v 7) = q3; generalize fxV (v 8) (v 9) = q4; generalize fxV (v 10) (v 11) = q5
    revert q0 q1 q2 q3 q4 q5; decide
  refine ⟨vcs_rev ?_, ?_⟩
  · refine vcs_cons ?_ (vcs_cons ?_ (vcs_cons ?_ (vcs_cons ?_ (vcs_cons ?_ (vcs_cons ?_ (vcs_cons ?_ (vcs_cons ?_ (vcs_cons ?_ (vcs_cons ?_ (vcs_cons ?_ (vcs_cons ?_ (vcs_cons ?_ (vcs_cons ?_ (vcs_cons ?_ (vcs_cons ?_ (vcs_cons ?_ (vcs_cons ?_ (vcs_cons ?_ (vcs_cons ?_ (vcs_cons ?_ (vcs_cons ?_ (vcs_cons ?_ (vcs_cons ?_ (vcs_cons ?_ (vcs_cons ?_ (vcs_cons ?_ (vcs_cons ?_ (vcs_cons ?_ (vcs_cons ?_ (vcs_cons ?_ (vcs_cons ?_ (vcs_cons ?_ (vcs_cons ?_ (vcs_cons ?_ (vcs_cons ?_ (vcs_cons ?_ (vcs_cons ?_ (vcs_cons ?_ (vcs_cons ?_ (vcs_cons ?_ (vcs_cons ?_ (vcs_cons ?_ (vcs_cons ?_ (vcs_cons ?_ (vcs_cons ?_ (vcs_cons ?_ (vcs_nil)))))))))))))))))))))))))))))))))))))))))))))))
    · exact fun _ => trivial
    · exact fun _ => trivial
    · exact fun _ => trivial
    · exact fun _ => trivial
    · exact fun _ => trivial
    · exact fun _ => trivial
    · exact fun _ => trivial
    · exact fun hp => (show fxV (v 0) (v 1) = true ∧ fxV (v 6) (v 7) = true from ⟨(H (pt_true hp).1).1, (H (pt_true hp).1).2.2.2.1⟩)
    · exact fun hp => (show fxV (v 2) (v 3) = true ∧ fxV (v 8) (v 9) = true from ⟨(H (pt_true hp).1).2.1, (H (pt_true hp).1).2.2.2.2.1⟩)
    · exact fun hp => (show fxV (v 29) (v 30) = true ∧ fxV (v 32) (v 33) = true from ⟨(by rw [e29, e30]; exact sem_fitV0 _ _ _ _), (by rw [e32, e33]; exact sem_fitV0 _ _ _ _)⟩)
    · exact fun hp => (show fxV (v 4) (v 5) = true ∧ fxV (v 10) (v 11) = true from ⟨(H (pt_true hp).1).2.2.1, (H (pt_true hp).1).2.2.2.2.2⟩)
    · exact fun hp => (show fxV (v 38) (v 39) = true ∧ fxV (v 44) (v 45) = true from ⟨(by rw [e38, e39]; exact sem_fitV1 _ _ _ _), (by rw [e44, e45]; exact sem_fitV0 _ _ _ _)⟩)
    · exact fun _ => trivial
    · exact fun _ => trivial
    · exact fun _ => trivial
    · exact fun _ => trivial
    · exact fun _ => trivial
    · exact fun _ => trivial
    · exact fun hp => (show fxV (v 2) (v 3) = true ∧ fxV (v 10) (v 11) = true from ⟨(H (pt_true hp).1).2.1, (H (pt_true hp).1).2.2.2.2.2⟩)
    · exact fun hp => (show fxV (v 4) (v 5) = true ∧ fxV (v 8) (v 9) = true from ⟨(H (pt_true hp).1).2.2.1, (H (pt_true hp).1).2.2.2.2.1⟩)
    · exact fun hp => (show fxV (v 64) (v 65) = true ∧ fxV (v 67) (v 68) = true from ⟨(by rw [e64, e65]; exact sem_fitV0 _ _ _ _), (by rw [e67, e68]; exact sem_fitV0 _ _ _ _)⟩)
    · exact fun hp => (show fxV (v 4) (v 5) = true ∧ fxV (v 6) (v 7) = true from ⟨(H (pt_true hp).1).2.2.1, (H (pt_true hp).1).2.2.2.1⟩)
    · exact fun hp => (show fxV (v 0) (v 1) = true ∧ fxV (v 10) (v 11) = true from ⟨(H (pt_true hp).1).1, (H (pt_true hp).1).2.2.2.2.2⟩)
    · exact fun hp => (show fxV (v 79) (v 80) = true ∧ fxV (v 85) (v 86) = true from ⟨(by rw [e79, e80]; exact sem_fitV0 _ _ _ _), (by rw [e85, e86]; exact sem_fitV0 _ _ _ _)⟩)
    · exact fun hp => (show fxV (v 0) (v 1) = true ∧ fxV (v 8) (v 9) = true from ⟨(H (pt_true hp).1).1, (H (pt_true hp).1).2.2.2.2.1⟩)
    · exact fun hp => (show fxV (v 2) (v 3) = true ∧ fxV (v 6) (v 7) = true from ⟨(H (pt_true hp).1).2.1, (H (pt_true hp).1).2.2.2.1⟩)
    · exact fun hp => (show fxV (v 97) (v 98) = true ∧ fxV (v 103) (v 104) = true from ⟨(by rw [e97, e98]; exact sem_fitV0 _ _ _ _), (by rw [e103, e104]; exact sem_fitV0 _ _ _ _)⟩)
    · exact fun _ => trivial
    · exact fun _ => trivial
    · exact fun _ => trivial
    · exact fun _ => trivial
    · exact fun _ => trivial
    · exact fun _ => trivial
    · exact fun hp => (show fxV (v 0) (v 1) = true ∧ fxV (v 6) (v 7) = true from ⟨(H (pt_true hp).1).1, (H (pt_true hp).1).2.2.2.1⟩)
    · exact fun hp => (show fxV (v 2) (v 3) = true ∧ fxV (v 8) (v 9) = true from ⟨(H (pt_true hp).1).2.1, (H (pt_true hp).1).2.2.2.2.1⟩)
    · exact fun hp => (show fxV (v 152) (v 153) = true ∧ fxV (v 156) (v 157) = true from ⟨(by rw [f152, f153]; exact (by rw [e29, e30]; exact sem_fitV0 _ _ _ _)), (by rw [f156, f157]; exact (by rw [e32, e33]; exact sem_fitV0 _ _ _ _))⟩)
    · exact fun hp => (show fxV (v 4) (v 5) = true ∧ fxV (v 10) (v 11) = true from ⟨(H (pt_true hp).1).2.2.1, (H (pt_true hp).1).2.2.2.2.2⟩)
    · exact fun hp => (show fxV (v 164) (v 165) = true ∧ fxV (v 171) (v 172) = true from ⟨(by rw [f164, f165]; exact (by rw [e38, e39]; exact sem_fitV1 _ _ _ _)), (by rw [f171, f172]; exact (by rw [e44, e45]; exact sem_fitV0 _ _ _ _))⟩)
    · exact fun hp => (show fxV (v 2) (v 3) = true ∧ fxV (v 10) (v 11) = true from ⟨(H (pt_true hp).1).2.1, (H (pt_true hp).1).2.2.2.2.2⟩)
    · exact fun hp => (show fxV (v 4) (v 5) = true ∧ fxV (v 8) (v 9) = true from ⟨(H (pt_true hp).1).2.2.1, (H (pt_true hp).1).2.2.2.2.1⟩)
    · exact fun hp => (show fxV (v 190) (v 191) = true ∧ fxV (v 194) (v 195) = true from ⟨(by rw [f190, f191]; exact (by rw [e64, e65]; exact sem_fitV0 _ _ _ _)), (by rw [f194, f195]; exact (by rw [e67, e68]; exact sem_fitV0 _ _ _ _))⟩)
    · exact fun hp => (show fxV (v 4) (v 5) = true ∧ fxV (v 6) (v 7) = true from ⟨(H (pt_true hp).1).2.2.1, (H (pt_true hp).1).2.2.2.1⟩)
    · exact fun hp => (show fxV (v 0) (v 1) = true ∧ fxV (v 10) (v 11) = true from ⟨(H (pt_true hp).1).1, (H (pt_true hp).1).2.2.2.2.2⟩)
    · exact fun hp => (show fxV (v 209) (v 210) = true ∧ fxV (v 216) (v 217) = true from ⟨(by rw [f209, f210]; exact (by rw [e79, e80]; exact sem_fitV0 _ _ _ _)), (by rw [f216, f217]; exact (by rw [e85, e86]; exact sem_fitV0 _ _ _ _))⟩)
    · exact fun hp => (show fxV (v 0) (v 1) = true ∧ fxV (v 8) (v 9) = true from ⟨(H (pt_true hp).1).1, (H (pt_true hp).1).2.2.2.2.1⟩)
    · exact fun hp => (show fxV (v 2) (v 3) = true ∧ fxV (v 6) (v 7) = true from ⟨(H (pt_true hp).1).2.1, (H (pt_true hp).1).2.2.2.1⟩)
    · exact fun hp => (show fxV (v 233) (v 234) = true ∧ fxV (v 240) (v 241) = true from ⟨(by rw [f233, f234]; exact (by rw [e97, e98]; exact sem_fitV0 _ _ _ _)), (by rw [f240, f241]; exact (by rw [e103, e104]; exact sem_fitV0 _ _ _ _))⟩)
  · intro x hx
    have hx' : x = .bool (decide (v 281 ≠ 0)) := hx
    suffices hr : v 281 = 1 by rw [hx', hr]; rfl
    by_cases h27 : v 27 = 0
    · have e12 : v 12 = (semB 20 []).getD 0 0 := satF hs 12 rfl
      have f12 : v 12 = (1 : Int) := e12.trans (by decide +kernel)
      have e13 : v 13 = if v 12 ≠ 0 then (0 : Int) else (1 : Int) := satF hs 13 rfl
      have n13 : v 13 = if (1 : Int) ≠ 0 then (0 : Int) else (1 : Int) := e13.trans (by rw [f12])
      have f13 : v 13 = (0 : Int) := n13.trans (if_pos (by decide))
      have e29 : v 29 = (semB 0 [v 0, v 1, v 6, v 7]).getD 0 0 := satF hs 29 rfl
      have e30 : v 30 = (semB 0 [v 0, v 1, v 6, v 7]).getD 1 0 := satF hs 30 rfl
      have e31 : v 31 = (semB 0 [v 0, v 1, v 6, v 7]).getD 2 0 := satF hs 31 rfl
      have e32 : v 32 = (semB 0 [v 2, v 3, v 8, v 9]).getD 0 0 := satF hs 32 rfl
      have e33 : v 33 = (semB 0 [v 2, v 3, v 8, v 9]).getD 1 0 := satF hs 33 rfl
      have e34 : v 34 = (semB 0 [v 2, v 3, v 8, v 9]).getD 2 0 := satF hs 34 rfl
      have e38 : v 38 = (semB 1 [v 29, v 30, v 32, v 33]).getD 0 0 := satF hs 38 rfl
      have e39 : v 39 = (semB 1 [v 29, v 30, v 32, v 33]).getD 1 0 := satF hs 39 rfl
      have e40 : v 40 = (semB 1 [v 29, v 30, v 32, v 33]).getD 2 0 := satF hs 40 rfl
      have e43 : v 43 = if v 41 ≠ 0 then v 40 else v 37 := satF hs 43 rfl
      have e44 : v 44 = (semB 0 [v 4, v 5, v 10, v 11]).getD 0 0 := satF hs 44 rfl
      have e45 : v 45 = (semB 0 [v 4, v 5, v 10, v 11]).getD 1 0 := satF hs 45 rfl
      have e46 : v 46 = (semB 0 [v 4, v 5, v 10, v 11]).getD 2 0 := satF hs 46 rfl
      have e47 : v 47 = b2i (v 43 == (0 : Int)) := satF hs 47 rfl
      have e49 : v 49 = if v 47 ≠ 0 then v 46 else v 43 := satF hs 49 rfl
      have e50 : v 50 = (semB 1 [v 38, v 39, v 44, v 45]).getD 0 0 := satF hs 50 rfl
      have e51 : v 51 = (semB 1 [v 38, v 39, v 44, v 45]).getD 1 0 := satF hs 51 rfl
      have e52 : v 52 = (semB 1 [v 38, v 39, v 44, v 45]).getD 2 0 := satF hs 52 rfl
      have e53 : v 53 = b2i (v 49 == (0 : Int)) := satF hs 53 rfl
      have e55 : v 55 = if v 53 ≠ 0 then v 52 else v 49 := satF hs 55 rfl
      have e56 : v 56 = b2i (v 55 != (0 : Int)) := satF hs 56 rfl
      have e58 : v 58 = if v 56 ≠ 0 then v 55 else (0 : Int) := satF hs 58 rfl
      have f58 : v 58 = v 55 := e58.trans (keep_ite e56)
      have e59 : v 59 = if v 56 ≠ 0 then (0 : Int) else v 50 := satF hs 59 rfl
      have e60 : v 60 = if v 56 ≠ 0 then (0 : Int) else v 51 := satF hs 60 rfl
      have e61 : v 61 = if v 27 ≠ 0 then (1 : Int) else v 58 := satF hs 61 rfl
      have n61 : v 61 = if v 27 ≠ 0 then (1 : Int) else v 55 := e61.trans (by rw [f58])
      have f61 : v 61 = v 55 := n61.trans (if_neg (fun q => q h27))
      have e62 : v 62 = if v 27 ≠ 0 then (0 : Int) else v 59 := satF hs 62 rfl
      have f62 : v 62 = v 59 := e62.trans (if_neg (fun q => q h27))
      have e63 : v 63 = if v 27 ≠ 0 then (0 : Int) else v 60 := satF hs 63 rfl
      have f63 : v 63 = v 60 := e63.trans (if_neg (fun q => q h27))
      have e64 : v 64 = (semB 0 [v 2, v 3, v 10, v 11]).getD 0 0 := satF hs 64 rfl
      have e65 : v 65 = (semB 0 [v 2, v 3, v 10, v 11]).getD 1 0 := satF hs 65 rfl
      have e66 : v 66 = (semB 0 [v 2, v 3, v 10, v 11]).getD 2 0 := satF hs 66 rfl
      have e67 : v 67 = (semB 0 [v 4, v 5, v 8, v 9]).getD 0 0 := satF hs 67 rfl
      have e68 : v 68 = (semB 0 [v 4, v 5, v 8, v 9]).getD 1 0 := satF hs 68 rfl
      have e69 : v 69 = (semB 0 [v 4, v 5, v 8, v 9]).getD 2 0 := satF hs 69 rfl
      have e73 : v 73 = (semB 2 [v 64, v 65, v 67, v 68]).getD 0 0 := satF hs 73 rfl
      have e74 : v 74 = (semB 2 [v 64, v 65, v 67, v 68]).getD 1 0 := satF hs 74 rfl
      have e75 : v 75 = (semB 2 [v 64, v 65, v 67, v 68]).getD 2 0 := satF hs 75 rfl
      have e78 : v 78 = if v 76 ≠ 0 then v 75 else v 72 := satF hs 78 rfl
      have e79 : v 79 = (semB 0 [v 4, v 5, v 6, v 7]).getD 0 0 := satF hs 79 rfl
      have e80 : v 80 = (semB 0 [v 4, v 5, v 6, v 7]).getD 1 0 := satF hs 80 rfl
      have e81 : v 81 = (semB 0 [v 4, v 5, v 6, v 7]).getD 2 0 := satF hs 81 rfl
      have e82 : v 82 = b2i (v 78 == (0 : Int)) := satF hs 82 rfl
      have e84 : v 84 = if v 82 ≠ 0 then v 81 else v 78 := satF hs 84 rfl
      have e85 : v 85 = (semB 0 [v 0, v 1, v 10, v 11]).getD 0 0 := satF hs 85 rfl
      have e86 : v 86 = (semB 0 [v 0, v 1, v 10, v 11]).getD 1 0 := satF hs 86 rfl
      have e87 : v 87 = (semB 0 [v 0, v 1, v 10, v 11]).getD 2 0 := satF hs 87 rfl
      have e88 : v 88 = b2i (v 84 == (0 : Int)) := satF hs 88 rfl
      have e90 : v 90 = if v 88 ≠ 0 then v 87 else v 84 := satF hs 90 rfl
      have e91 : v 91 = (semB 2 [v 79, v 80, v 85, v 86]).getD 0 0 := satF hs 91 rfl
      have e92 : v 92 = (semB 2 [v 79, v 80, v 85, v 86]).getD 1 0 := satF hs 92 rfl
      have e93 : v 93 = (semB 2 [v 79, v 80, v 85, v 86]).getD 2 0 := satF hs 93 rfl
      have e94 : v 94 = b2i (v 90 == (0 : Int)) := satF hs 94 rfl
      have e96 : v 96 = if v 94 ≠ 0 then v 93 else v 90 := satF hs 96 rfl
      have e97 : v 97 = (semB 0 [v 0, v 1, v 8, v 9]).getD 0 0 := satF hs 97 rfl
      have e98 : v 98 = (semB 0 [v 0, v 1, v 8, v 9]).getD 1 0 := satF hs 98 rfl
      have e99 : v 99 = (semB 0 [v 0, v 1, v 8, v 9]).getD 2 0 := satF hs 99 rfl
      have e100 : v 100 = b2i (v 96 == (0 : Int)) := satF hs 100 rfl
      have e102 : v 102 = if v 100 ≠ 0 then v 99 else v 96 := satF hs 102 rfl
      have e103 : v 103 = (semB 0 [v 2, v 3, v 6, v 7]).getD 0 0 := satF hs 103 rfl
      have e104 : v 104 = (semB 0 [v 2, v 3, v 6, v 7]).getD 1 0 := satF hs 104 rfl
      have e105 : v 105 = (semB 0 [v 2, v 3, v 6, v 7]).getD 2 0 := satF hs 105 rfl
      have e106 : v 106 = b2i (v 102 == (0 : Int)) := satF hs 106 rfl
      have e108 : v 108 = if v 106 ≠ 0 then v 105 else v 102 := satF hs 108 rfl
      have e109 : v 109 = (semB 2 [v 97, v 98, v 103, v 104]).getD 0 0 := satF hs 109 rfl
      have e110 : v 110 = (semB 2 [v 97, v 98, v 103, v 104]).getD 1 0 := satF hs 110 rfl
      have e111 : v 111 = (semB 2 [v 97, v 98, v 103, v 104]).getD 2 0 := satF hs 111 rfl
      have e112 : v 112 = b2i (v 108 == (0 : Int)) := satF hs 112 rfl
      have e114 : v 114 = if v 112 ≠ 0 then v 111 else v 108 := satF hs 114 rfl
      have e115 : v 115 = b2i (v 114 != (0 : Int)) := satF hs 115 rfl
      have e117 : v 117 = if v 115 ≠ 0 then v 114 else (0 : Int) := satF hs 117 rfl
      have f117 : v 117 = v 114 := e117.trans (keep_ite e115)
      have e118 : v 118 = if v 115 ≠ 0 then (0 : Int) else v 73 := satF hs 118 rfl
      have e119 : v 119 = if v 115 ≠ 0 then (0 : Int) else v 74 := satF hs 119 rfl
      have e120 : v 120 = if v 115 ≠ 0 then (0 : Int) else v 91 := satF hs 120 rfl
      have e121 : v 121 = if v 115 ≠ 0 then (0 : Int) else v 92 := satF hs 121 rfl
      have e122 : v 122 = if v 115 ≠ 0 then (0 : Int) else v 109 := satF hs 122 rfl
      have e123 : v 123 = if v 115 ≠ 0 then (0 : Int) else v 110 := satF hs 123 rfl
      have e124 : v 124 = if v 27 ≠ 0 then (1 : Int) else v 117 := satF hs 124 rfl
      have n124 : v 124 = if v 27 ≠ 0 then (1 : Int) else v 114 := e124.trans (by rw [f117])
      have f124 : v 124 = v 114 := n124.trans (if_neg (fun q => q h27))
      have e125 : v 125 = if v 27 ≠ 0 then (0 : Int) else v 118 := satF hs 125 rfl
      have f125 : v 125 = v 118 := e125.trans (if_neg (fun q => q h27))
      have e126 : v 126 = if v 27 ≠ 0 then (0 : Int) else v 119 := satF hs 126 rfl
      have f126 : v 126 = v 119 := e126.trans (if_neg (fun q => q h27))
      have e127 : v 127 = if v 27 ≠ 0 then (0 : Int) else v 120 := satF hs 127 rfl
      have f127 : v 127 = v 120 := e127.trans (if_neg (fun q => q h27))
      have e128 : v 128 = if v 27 ≠ 0 then (0 : Int) else v 121 := satF hs 128 rfl
      have f128 : v 128 = v 121 := e128.trans (if_neg (fun q => q h27))
      have e129 : v 129 = if v 27 ≠ 0 then (0 : Int) else v 122 := satF hs 129 rfl
      have f129 : v 129 = v 122 := e129.trans (if_neg (fun q => q h27))
      have e130 : v 130 = if v 27 ≠ 0 then (0 : Int) else v 123 := satF hs 130 rfl
      have f130 : v 130 = v 123 := e130.trans (if_neg (fun q => q h27))
      have e150 : v 150 = b2i (v 31 != (0 : Int)) := satF hs 150 rfl
      have e152 : v 152 = if v 150 ≠ 0 then (0 : Int) else v 29 := satF hs 152 rfl
      have f152 : v 152 = v 29 := e152.trans (fit_ite e150 (fun q => e29.trans ((sem_fit0 _ _ _ _ (fun u => q (e31.trans u))).1)))
      have e153 : v 153 = if v 150 ≠ 0 then (0 : Int) else v 30 := satF hs 153 rfl
      have f153 : v 153 = v 30 := e153.trans (fit_ite e150 (fun q => e30.trans ((sem_fit0 _ _ _ _ (fun u => q (e31.trans u))).2)))
      have e154 : v 154 = b2i (v 34 != (0 : Int)) := satF hs 154 rfl
      have e156 : v 156 = if v 154 ≠ 0 then (0 : Int) else v 32 := satF hs 156 rfl
      have f156 : v 156 = v 32 := e156.trans (fit_ite e154 (fun q => e32.trans ((sem_fit0 _ _ _ _ (fun u => q (e34.trans u))).1)))
      have e157 : v 157 = if v 154 ≠ 0 then (0 : Int) else v 33 := satF hs 157 rfl
      have f157 : v 157 = v 33 := e157.trans (fit_ite e154 (fun q => e33.trans ((sem_fit0 _ _ _ _ (fun u => q (e34.trans u))).2)))
      have e158 : v 158 = (semB 1 [v 152, v 153, v 156, v 157]).getD 0 0 := satF hs 158 rfl
      have n158 : v 158 = (semB 1 [v 29, v 30, v 32, v 33]).getD 0 0 := e158.trans (by rw [f152, f153, f156, f157])
      have f158 : v 158 = v 38 := n158.trans e38.symm
      have e159 : v 159 = (semB 1 [v 152, v 153, v 156, v 157]).getD 1 0 := satF hs 159 rfl
      have n159 : v 159 = (semB 1 [v 29, v 30, v 32, v 33]).getD 1 0 := e159.trans (by rw [f152, f153, f156, f157])
      have f159 : v 159 = v 39 := n159.trans e39.symm
      have e160 : v 160 = (semB 1 [v 152, v 153, v 156, v 157]).getD 2 0 := satF hs 160 rfl
      have n160 : v 160 = (semB 1 [v 29, v 30, v 32, v 33]).getD 2 0 := e160.trans (by rw [f152, f153, f156, f157])
      have f160 : v 160 = v 40 := n160.trans e40.symm
      have e161 : v 161 = if v 41 ≠ 0 then v 160 else v 37 := satF hs 161 rfl
      have n161 : v 161 = if v 41 ≠ 0 then v 40 else v 37 := e161.trans (by rw [f160])
      have f161 : v 161 = v 43 := n161.trans e43.symm
      have e162 : v 162 = b2i (v 160 != (0 : Int)) := satF hs 162 rfl
      have n162 : v 162 = b2i (v 40 != (0 : Int)) := e162.trans (by rw [f160])
      have e164 : v 164 = if v 162 ≠ 0 then (0 : Int) else v 158 := satF hs 164 rfl
      have n164 : v 164 = if v 162 ≠ 0 then (0 : Int) else v 38 := e164.trans (by rw [f158])
      have f164 : v 164 = v 38 := n164.trans (fit_ite n162 (fun q => e38.trans ((sem_fit1 _ _ _ _ (fun u => q (e40.trans u))).1)))
      have e165 : v 165 = if v 162 ≠ 0 then (0 : Int) else v 159 := satF hs 165 rfl
      have n165 : v 165 = if v 162 ≠ 0 then (0 : Int) else v 39 := e165.trans (by rw [f159])
      have f165 : v 165 = v 39 := n165.trans (fit_ite n162 (fun q => e39.trans ((sem_fit1 _ _ _ _ (fun u => q (e40.trans u))).2)))
      have e166 : v 166 = b2i (v 161 == (0 : Int)) := satF hs 166 rfl
      have n166 : v 166 = b2i (v 43 == (0 : Int)) := e166.trans (by rw [f161])
      have f166 : v 166 = v 47 := n166.trans e47.symm
      have e168 : v 168 = if v 166 ≠ 0 then v 46 else v 161 := satF hs 168 rfl
      have n168 : v 168 = if v 47 ≠ 0 then v 46 else v 43 := e168.trans (by rw [f166, f161])
      have f168 : v 168 = v 49 := n168.trans e49.symm
      have e169 : v 169 = b2i (v 46 != (0 : Int)) := satF hs 169 rfl
      have e171 : v 171 = if v 169 ≠ 0 then (0 : Int) else v 44 := satF hs 171 rfl
      have f171 : v 171 = v 44 := e171.trans (fit_ite e169 (fun q => e44.trans ((sem_fit0 _ _ _ _ (fun u => q (e46.trans u))).1)))
      have e172 : v 172 = if v 169 ≠ 0 then (0 : Int) else v 45 := satF hs 172 rfl
      have f172 : v 172 = v 45 := e172.trans (fit_ite e169 (fun q => e45.trans ((sem_fit0 _ _ _ _ (fun u => q (e46.trans u))).2)))
      have e173 : v 173 = (semB 1 [v 164, v 165, v 171, v 172]).getD 0 0 := satF hs 173 rfl
      have n173 : v 173 = (semB 1 [v 38, v 39, v 44, v 45]).getD 0 0 := e173.trans (by rw [f164, f165, f171, f172])
      have f173 : v 173 = v 50 := n173.trans e50.symm
      have e174 : v 174 = (semB 1 [v 164, v 165, v 171, v 172]).getD 1 0 := satF hs 174 rfl
      have n174 : v 174 = (semB 1 [v 38, v 39, v 44, v 45]).getD 1 0 := e174.trans (by rw [f164, f165, f171, f172])
      have f174 : v 174 = v 51 := n174.trans e51.symm
      have e175 : v 175 = (semB 1 [v 164, v 165, v 171, v 172]).getD 2 0 := satF hs 175 rfl
      have n175 : v 175 = (semB 1 [v 38, v 39, v 44, v 45]).getD 2 0 := e175.trans (by rw [f164, f165, f171, f172])
      have f175 : v 175 = v 52 := n175.trans e52.symm
      have e176 : v 176 = b2i (v 168 == (0 : Int)) := satF hs 176 rfl
      have n176 : v 176 = b2i (v 49 == (0 : Int)) := e176.trans (by rw [f168])
      have f176 : v 176 = v 53 := n176.trans e53.symm
      have e178 : v 178 = if v 176 ≠ 0 then v 175 else v 168 := satF hs 178 rfl
      have n178 : v 178 = if v 53 ≠ 0 then v 52 else v 49 := e178.trans (by rw [f176, f175, f168])
      have f178 : v 178 = v 55 := n178.trans e55.symm
      have e179 : v 179 = b2i (v 175 != (0 : Int)) := satF hs 179 rfl
      have n179 : v 179 = b2i (v 52 != (0 : Int)) := e179.trans (by rw [f175])
      have e181 : v 181 = if v 179 ≠ 0 then (0 : Int) else v 173 := satF hs 181 rfl
      have n181 : v 181 = if v 179 ≠ 0 then (0 : Int) else v 50 := e181.trans (by rw [f173])
      have f181 : v 181 = v 50 := n181.trans (fit_ite n179 (fun q => e50.trans ((sem_fit1 _ _ _ _ (fun u => q (e52.trans u))).1)))
      have e182 : v 182 = if v 179 ≠ 0 then (0 : Int) else v 174 := satF hs 182 rfl
      have n182 : v 182 = if v 179 ≠ 0 then (0 : Int) else v 51 := e182.trans (by rw [f174])
      have f182 : v 182 = v 51 := n182.trans (fit_ite n179 (fun q => e51.trans ((sem_fit1 _ _ _ _ (fun u => q (e52.trans u))).2)))
      have e183 : v 183 = b2i (v 178 != (0 : Int)) := satF hs 183 rfl
      have n183 : v 183 = b2i (v 55 != (0 : Int)) := e183.trans (by rw [f178])
      have f183 : v 183 = v 56 := n183.trans e56.symm
      have e185 : v 185 = if v 183 ≠ 0 then v 178 else (0 : Int) := satF hs 185 rfl
      have n185 : v 185 = if v 56 ≠ 0 then v 55 else (0 : Int) := e185.trans (by rw [f183, f178])
      have f185 : v 185 = v 55 := n185.trans (keep_ite e56)
      have e186 : v 186 = if v 183 ≠ 0 then (0 : Int) else v 181 := satF hs 186 rfl
      have n186 : v 186 = if v 56 ≠ 0 then (0 : Int) else v 50 := e186.trans (by rw [f183, f181])
      have f186 : v 186 = v 59 := n186.trans e59.symm
      have e187 : v 187 = if v 183 ≠ 0 then (0 : Int) else v 182 := satF hs 187 rfl
      have n187 : v 187 = if v 56 ≠ 0 then (0 : Int) else v 51 := e187.trans (by rw [f183, f182])
      have f187 : v 187 = v 60 := n187.trans e60.symm
      have e188 : v 188 = b2i (v 66 != (0 : Int)) := satF hs 188 rfl
      have e190 : v 190 = if v 188 ≠ 0 then (0 : Int) else v 64 := satF hs 190 rfl
      have f190 : v 190 = v 64 := e190.trans (fit_ite e188 (fun q => e64.trans ((sem_fit0 _ _ _ _ (fun u => q (e66.trans u))).1)))
      have e191 : v 191 = if v 188 ≠ 0 then (0 : Int) else v 65 := satF hs 191 rfl
      have f191 : v 191 = v 65 := e191.trans (fit_ite e188 (fun q => e65.trans ((sem_fit0 _ _ _ _ (fun u => q (e66.trans u))).2)))
      have e192 : v 192 = b2i (v 69 != (0 : Int)) := satF hs 192 rfl
      have e194 : v 194 = if v 192 ≠ 0 then (0 : Int) else v 67 := satF hs 194 rfl
      have f194 : v 194 = v 67 := e194.trans (fit_ite e192 (fun q => e67.trans ((sem_fit0 _ _ _ _ (fun u => q (e69.trans u))).1)))
      have e195 : v 195 = if v 192 ≠ 0 then (0 : Int) else v 68 := satF hs 195 rfl
      have f195 : v 195 = v 68 := e195.trans (fit_ite e192 (fun q => e68.trans ((sem_fit0 _ _ _ _ (fun u => q (e69.trans u))).2)))
      have e196 : v 196 = (semB 2 [v 190, v 191, v 194, v 195]).getD 0 0 := satF hs 196 rfl
      have n196 : v 196 = (semB 2 [v 64, v 65, v 67, v 68]).getD 0 0 := e196.trans (by rw [f190, f191, f194, f195])
      have f196 : v 196 = v 73 := n196.trans e73.symm
      have e197 : v 197 = (semB 2 [v 190, v 191, v 194, v 195]).getD 1 0 := satF hs 197 rfl
      have n197 : v 197 = (semB 2 [v 64, v 65, v 67, v 68]).getD 1 0 := e197.trans (by rw [f190, f191, f194, f195])
      have f197 : v 197 = v 74 := n197.trans e74.symm
      have e198 : v 198 = (semB 2 [v 190, v 191, v 194, v 195]).getD 2 0 := satF hs 198 rfl
      have n198 : v 198 = (semB 2 [v 64, v 65, v 67, v 68]).getD 2 0 := e198.trans (by rw [f190, f191, f194, f195])
      have f198 : v 198 = v 75 := n198.trans e75.symm
      have e199 : v 199 = if v 76 ≠ 0 then v 198 else v 72 := satF hs 199 rfl
      have n199 : v 199 = if v 76 ≠ 0 then v 75 else v 72 := e199.trans (by rw [f198])
      have f199 : v 199 = v 78 := n199.trans e78.symm
      have e200 : v 200 = b2i (v 198 != (0 : Int)) := satF hs 200 rfl
      have n200 : v 200 = b2i (v 75 != (0 : Int)) := e200.trans (by rw [f198])
      have e202 : v 202 = if v 200 ≠ 0 then (0 : Int) else v 196 := satF hs 202 rfl
      have n202 : v 202 = if v 200 ≠ 0 then (0 : Int) else v 73 := e202.trans (by rw [f196])
      have f202 : v 202 = v 73 := n202.trans (fit_ite n200 (fun q => e73.trans ((sem_fit2 _ _ _ _ (fun u => q (e75.trans u))).1)))
      have e203 : v 203 = if v 200 ≠ 0 then (0 : Int) else v 197 := satF hs 203 rfl
      have n203 : v 203 = if v 200 ≠ 0 then (0 : Int) else v 74 := e203.trans (by rw [f197])
      have f203 : v 203 = v 74 := n203.trans (fit_ite n200 (fun q => e74.trans ((sem_fit2 _ _ _ _ (fun u => q (e75.trans u))).2)))
      have e204 : v 204 = b2i (v 199 == (0 : Int)) := satF hs 204 rfl
      have n204 : v 204 = b2i (v 78 == (0 : Int)) := e204.trans (by rw [f199])
      have f204 : v 204 = v 82 := n204.trans e82.symm
      have e206 : v 206 = if v 204 ≠ 0 then v 81 else v 199 := satF hs 206 rfl
      have n206 : v 206 = if v 82 ≠ 0 then v 81 else v 78 := e206.trans (by rw [f204, f199])
      have f206 : v 206 = v 84 := n206.trans e84.symm
      have e207 : v 207 = b2i (v 81 != (0 : Int)) := satF hs 207 rfl
      have e209 : v 209 = if v 207 ≠ 0 then (0 : Int) else v 79 := satF hs 209 rfl
      have f209 : v 209 = v 79 := e209.trans (fit_ite e207 (fun q => e79.trans ((sem_fit0 _ _ _ _ (fun u => q (e81.trans u))).1)))
      have e210 : v 210 = if v 207 ≠ 0 then (0 : Int) else v 80 := satF hs 210 rfl
      have f210 : v 210 = v 80 := e210.trans (fit_ite e207 (fun q => e80.trans ((sem_fit0 _ _ _ _ (fun u => q (e81.trans u))).2)))
      have e211 : v 211 = b2i (v 206 == (0 : Int)) := satF hs 211 rfl
      have n211 : v 211 = b2i (v 84 == (0 : Int)) := e211.trans (by rw [f206])
      have f211 : v 211 = v 88 := n211.trans e88.symm
      have e213 : v 213 = if v 211 ≠ 0 then v 87 else v 206 := satF hs 213 rfl
      have n213 : v 213 = if v 88 ≠ 0 then v 87 else v 84 := e213.trans (by rw [f211, f206])
      have f213 : v 213 = v 90 := n213.trans e90.symm
      have e214 : v 214 = b2i (v 87 != (0 : Int)) := satF hs 214 rfl
      have e216 : v 216 = if v 214 ≠ 0 then (0 : Int) else v 85 := satF hs 216 rfl
      have f216 : v 216 = v 85 := e216.trans (fit_ite e214 (fun q => e85.trans ((sem_fit0 _ _ _ _ (fun u => q (e87.trans u))).1)))
      have e217 : v 217 = if v 214 ≠ 0 then (0 : Int) else v 86 := satF hs 217 rfl
      have f217 : v 217 = v 86 := e217.trans (fit_ite e214 (fun q => e86.trans ((sem_fit0 _ _ _ _ (fun u => q (e87.trans u))).2)))
      have e218 : v 218 = (semB 2 [v 209, v 210, v 216, v 217]).getD 0 0 := satF hs 218 rfl
      have n218 : v 218 = (semB 2 [v 79, v 80, v 85, v 86]).getD 0 0 := e218.trans (by rw [f209, f210, f216, f217])
      have f218 : v 218 = v 91 := n218.trans e91.symm
      have e219 : v 219 = (semB 2 [v 209, v 210, v 216, v 217]).getD 1 0 := satF hs 219 rfl
      have n219 : v 219 = (semB 2 [v 79, v 80, v 85, v 86]).getD 1 0 := e219.trans (by rw [f209, f210, f216, f217])
      have f219 : v 219 = v 92 := n219.trans e92.symm
      have e220 : v 220 = (semB 2 [v 209, v 210, v 216, v 217]).getD 2 0 := satF hs 220 rfl
      have n220 : v 220 = (semB 2 [v 79, v 80, v 85, v 86]).getD 2 0 := e220.trans (by rw [f209, f210, f216, f217])
      have f220 : v 220 = v 93 := n220.trans e93.symm
      have e221 : v 221 = b2i (v 213 == (0 : Int)) := satF hs 221 rfl
      have n221 : v 221 = b2i (v 90 == (0 : Int)) := e221.trans (by rw [f213])
      have f221 : v 221 = v 94 := n221.trans e94.symm
      have e223 : v 223 = if v 221 ≠ 0 then v 220 else v 213 := satF hs 223 rfl
      have n223 : v 223 = if v 94 ≠ 0 then v 93 else v 90 := e223.trans (by rw [f221, f220, f213])
      have f223 : v 223 = v 96 := n223.trans e96.symm
      have e224 : v 224 = b2i (v 220 != (0 : Int)) := satF hs 224 rfl
      have n224 : v 224 = b2i (v 93 != (0 : Int)) := e224.trans (by rw [f220])
      have e226 : v 226 = if v 224 ≠ 0 then (0 : Int) else v 218 := satF hs 226 rfl
      have n226 : v 226 = if v 224 ≠ 0 then (0 : Int) else v 91 := e226.trans (by rw [f218])
      have f226 : v 226 = v 91 := n226.trans (fit_ite n224 (fun q => e91.trans ((sem_fit2 _ _ _ _ (fun u => q (e93.trans u))).1)))
      have e227 : v 227 = if v 224 ≠ 0 then (0 : Int) else v 219 := satF hs 227 rfl
      have n227 : v 227 = if v 224 ≠ 0 then (0 : Int) else v 92 := e227.trans (by rw [f219])
      have f227 : v 227 = v 92 := n227.trans (fit_ite n224 (fun q => e92.trans ((sem_fit2 _ _ _ _ (fun u => q (e93.trans u))).2)))
      have e228 : v 228 = b2i (v 223 == (0 : Int)) := satF hs 228 rfl
      have n228 : v 228 = b2i (v 96 == (0 : Int)) := e228.trans (by rw [f223])
      have f228 : v 228 = v 100 := n228.trans e100.symm
      have e230 : v 230 = if v 228 ≠ 0 then v 99 else v 223 := satF hs 230 rfl
      have n230 : v 230 = if v 100 ≠ 0 then v 99 else v 96 := e230.trans (by rw [f228, f223])
      have f230 : v 230 = v 102 := n230.trans e102.symm
      have e231 : v 231 = b2i (v 99 != (0 : Int)) := satF hs 231 rfl
      have e233 : v 233 = if v 231 ≠ 0 then (0 : Int) else v 97 := satF hs 233 rfl
      have f233 : v 233 = v 97 := e233.trans (fit_ite e231 (fun q => e97.trans ((sem_fit0 _ _ _ _ (fun u => q (e99.trans u))).1)))
      have e234 : v 234 = if v 231 ≠ 0 then (0 : Int) else v 98 := satF hs 234 rfl
      have f234 : v 234 = v 98 := e234.trans (fit_ite e231 (fun q => e98.trans ((sem_fit0 _ _ _ _ (fun u => q (e99.trans u))).2)))
      have e235 : v 235 = b2i (v 230 == (0 : Int)) := satF hs 235 rfl
      have n235 : v 235 = b2i (v 102 == (0 : Int)) := e235.trans (by rw [f230])
      have f235 : v 235 = v 106 := n235.trans e106.symm
      have e237 : v 237 = if v 235 ≠ 0 then v 105 else v 230 := satF hs 237 rfl
      have n237 : v 237 = if v 106 ≠ 0 then v 105 else v 102 := e237.trans (by rw [f235, f230])
      have f237 : v 237 = v 108 := n237.trans e108.symm
      have e238 : v 238 = b2i (v 105 != (0 : Int)) := satF hs 238 rfl
      have e240 : v 240 = if v 238 ≠ 0 then (0 : Int) else v 103 := satF hs 240 rfl
      have f240 : v 240 = v 103 := e240.trans (fit_ite e238 (fun q => e103.trans ((sem_fit0 _ _ _ _ (fun u => q (e105.trans u))).1)))
      have e241 : v 241 = if v 238 ≠ 0 then (0 : Int) else v 104 := satF hs 241 rfl
      have f241 : v 241 = v 104 := e241.trans (fit_ite e238 (fun q => e104.trans ((sem_fit0 _ _ _ _ (fun u => q (e105.trans u))).2)))
      have e242 : v 242 = (semB 2 [v 233, v 234, v 240, v 241]).getD 0 0 := satF hs 242 rfl
      have n242 : v 242 = (semB 2 [v 97, v 98, v 103, v 104]).getD 0 0 := e242.trans (by rw [f233, f234, f240, f241])
      have f242 : v 242 = v 109 := n242.trans e109.symm
      have e243 : v 243 = (semB 2 [v 233, v 234, v 240, v 241]).getD 1 0 := satF hs 243 rfl
      have n243 : v 243 = (semB 2 [v 97, v 98, v 103, v 104]).getD 1 0 := e243.trans (by rw [f233, f234, f240, f241])
      have f243 : v 243 = v 110 := n243.trans e110.symm
      have e244 : v 244 = (semB 2 [v 233, v 234, v 240, v 241]).getD 2 0 := satF hs 244 rfl
      have n244 : v 244 = (semB 2 [v 97, v 98, v 103, v 104]).getD 2 0 := e244.trans (by rw [f233, f234, f240, f241])
      have f244 : v 244 = v 111 := n244.trans e111.symm
      have e245 : v 245 = b2i (v 237 == (0 : Int)) := satF hs 245 rfl
      have n245 : v 245 = b2i (v 108 == (0 : Int)) := e245.trans (by rw [f237])
      have f245 : v 245 = v 112 := n245.trans e112.symm
      have e247 : v 247 = if v 245 ≠ 0 then v 244 else v 237 := satF hs 247 rfl
      have n247 : v 247 = if v 112 ≠ 0 then v 111 else v 108 := e247.trans (by rw [f245, f244, f237])
      have f247 : v 247 = v 114 := n247.trans e114.symm
      have e248 : v 248 = b2i (v 244 != (0 : Int)) := satF hs 248 rfl
      have n248 : v 248 = b2i (v 111 != (0 : Int)) := e248.trans (by rw [f244])
      have e250 : v 250 = if v 248 ≠ 0 then (0 : Int) else v 242 := satF hs 250 rfl
      have n250 : v 250 = if v 248 ≠ 0 then (0 : Int) else v 109 := e250.trans (by rw [f242])
      have f250 : v 250 = v 109 := n250.trans (fit_ite n248 (fun q => e109.trans ((sem_fit2 _ _ _ _ (fun u => q (e111.trans u))).1)))
      have e251 : v 251 = if v 248 ≠ 0 then (0 : Int) else v 243 := satF hs 251 rfl
      have n251 : v 251 = if v 248 ≠ 0 then (0 : Int) else v 110 := e251.trans (by rw [f243])
      have f251 : v 251 = v 110 := n251.trans (fit_ite n248 (fun q => e110.trans ((sem_fit2 _ _ _ _ (fun u => q (e111.trans u))).2)))
      have e252 : v 252 = b2i (v 247 != (0 : Int)) := satF hs 252 rfl
      have n252 : v 252 = b2i (v 114 != (0 : Int)) := e252.trans (by rw [f247])
      have f252 : v 252 = v 115 := n252.trans e115.symm
      have e254 : v 254 = if v 252 ≠ 0 then v 247 else (0 : Int) := satF hs 254 rfl
      have n254 : v 254 = if v 115 ≠ 0 then v 114 else (0 : Int) := e254.trans (by rw [f252, f247])
      have f254 : v 254 = v 114 := n254.trans (keep_ite e115)
      have e255 : v 255 = if v 252 ≠ 0 then (0 : Int) else v 202 := satF hs 255 rfl
      have n255 : v 255 = if v 115 ≠ 0 then (0 : Int) else v 73 := e255.trans (by rw [f252, f202])
      have f255 : v 255 = v 118 := n255.trans e118.symm
      have e256 : v 256 = if v 252 ≠ 0 then (0 : Int) else v 203 := satF hs 256 rfl
      have n256 : v 256 = if v 115 ≠ 0 then (0 : Int) else v 74 := e256.trans (by rw [f252, f203])
      have f256 : v 256 = v 119 := n256.trans e119.symm
      have e257 : v 257 = if v 252 ≠ 0 then (0 : Int) else v 226 := satF hs 257 rfl
      have n257 : v 257 = if v 115 ≠ 0 then (0 : Int) else v 91 := e257.trans (by rw [f252, f226])
      have f257 : v 257 = v 120 := n257.trans e120.symm
      have e258 : v 258 = if v 252 ≠ 0 then (0 : Int) else v 227 := satF hs 258 rfl
      have n258 : v 258 = if v 115 ≠ 0 then (0 : Int) else v 92 := e258.trans (by rw [f252, f227])
      have f258 : v 258 = v 121 := n258.trans e121.symm
      have e259 : v 259 = if v 252 ≠ 0 then (0 : Int) else v 250 := satF hs 259 rfl
      have n259 : v 259 = if v 115 ≠ 0 then (0 : Int) else v 109 := e259.trans (by rw [f252, f250])
      have f259 : v 259 = v 122 := n259.trans e122.symm
      have e260 : v 260 = if v 252 ≠ 0 then (0 : Int) else v 251 := satF hs 260 rfl
      have n260 : v 260 = if v 115 ≠ 0 then (0 : Int) else v 110 := e260.trans (by rw [f252, f251])
      have f260 : v 260 = v 123 := n260.trans e123.symm
      have e261 : v 261 = b2i (v 62 == v 186) := satF hs 261 rfl
      have n261 : v 261 = b2i (v 59 == v 59) := e261.trans (by rw [f62, f186])
      have f261 : v 261 = (1 : Int) := n261.trans (by simp [b2i])
      have e262 : v 262 = b2i (v 63 == v 187) := satF hs 262 rfl
      have n262 : v 262 = b2i (v 60 == v 60) := e262.trans (by rw [f63, f187])
      have f262 : v 262 = (1 : Int) := n262.trans (by simp [b2i])
      have e263 : v 263 = if v 261 ≠ 0 then v 262 else (0 : Int) := satF hs 263 rfl
      have n263 : v 263 = if (1 : Int) ≠ 0 then (1 : Int) else (0 : Int) := e263.trans (by rw [f261, f262])
      have f263 : v 263 = (1 : Int) := n263.trans (if_pos (by decide))
      have e264 : v 264 = b2i (v 61 == v 185) := satF hs 264 rfl
      have n264 : v 264 = b2i (v 55 == v 55) := e264.trans (by rw [f61, f185])
      have f264 : v 264 = (1 : Int) := n264.trans (by simp [b2i])
      have e265 : v 265 = if v 263 ≠ 0 then v 264 else (0 : Int) := satF hs 265 rfl
      have n265 : v 265 = if (1 : Int) ≠ 0 then (1 : Int) else (0 : Int) := e265.trans (by rw [f263, f264])
      have f265 : v 265 = (1 : Int) := n265.trans (if_pos (by decide))
      have e266 : v 266 = b2i (v 125 == v 255) := satF hs 266 rfl
      have n266 : v 266 = b2i (v 118 == v 118) := e266.trans (by rw [f125, f255])
      have f266 : v 266 = (1 : Int) := n266.trans (by simp [b2i])
      have e267 : v 267 = b2i (v 126 == v 256) := satF hs 267 rfl
      have n267 : v 267 = b2i (v 119 == v 119) := e267.trans (by rw [f126, f256])
      have f267 : v 267 = (1 : Int) := n267.trans (by simp [b2i])
      have e268 : v 268 = b2i (v 127 == v 257) := satF hs 268 rfl
      have n268 : v 268 = b2i (v 120 == v 120) := e268.trans (by rw [f127, f257])
      have f268 : v 268 = (1 : Int) := n268.trans (by simp [b2i])
      have e269 : v 269 = b2i (v 128 == v 258) := satF hs 269 rfl
      have n269 : v 269 = b2i (v 121 == v 121) := e269.trans (by rw [f128, f258])
      have f269 : v 269 = (1 : Int) := n269.trans (by simp [b2i])
      have e270 : v 270 = b2i (v 129 == v 259) := satF hs 270 rfl
      have n270 : v 270 = b2i (v 122 == v 122) := e270.trans (by rw [f129, f259])
      have f270 : v 270 = (1 : Int) := n270.trans (by simp [b2i])
      have e271 : v 271 = b2i (v 130 == v 260) := satF hs 271 rfl
      have n271 : v 271 = b2i (v 123 == v 123) := e271.trans (by rw [f130, f260])
      have f271 : v 271 = (1 : Int) := n271.trans (by simp [b2i])
      have e272 : v 272 = if v 270 ≠ 0 then v 271 else (0 : Int) := satF hs 272 rfl
      have n272 : v 272 = if (1 : Int) ≠ 0 then (1 : Int) else (0 : Int) := e272.trans (by rw [f270, f271])
      have f272 : v 272 = (1 : Int) := n272.trans (if_pos (by decide))
      have e273 : v 273 = if v 269 ≠ 0 then v 272 else (0 : Int) := satF hs 273 rfl
      have n273 : v 273 = if (1 : Int) ≠ 0 then (1 : Int) else (0 : Int) := e273.trans (by rw [f269, f272])
      have f273 : v 273 = (1 : Int) := n273.trans (if_pos (by decide))
      have e274 : v 274 = if v 268 ≠ 0 then v 273 else (0 : Int) := satF hs 274 rfl
      have n274 : v 274 = if (1 : Int) ≠ 0 then (1 : Int) else (0 : Int) := e274.trans (by rw [f268, f273])
      have f274 : v 274 = (1 : Int) := n274.trans (if_pos (by decide))
      have e275 : v 275 = if v 267 ≠ 0 then v 274 else (0 : Int) := satF hs 275 rfl
      have n275 : v 275 = if (1 : Int) ≠ 0 then (1 : Int) else (0 : Int) := e275.trans (by rw [f267, f274])
      have f275 : v 275 = (1 : Int) := n275.trans (if_pos (by decide))
      have e276 : v 276 = if v 266 ≠ 0 then v 275 else (0 : Int) := satF hs 276 rfl
      have n276 : v 276 = if (1 : Int) ≠ 0 then (1 : Int) else (0 : Int) := e276.trans (by rw [f266, f275])
      have f276 : v 276 = (1 : Int) := n276.trans (if_pos (by decide))
      have e277 : v 277 = b2i (v 124 == v 254) := satF hs 277 rfl
      have n277 : v 277 = b2i (v 114 == v 114) := e277.trans (by rw [f124, f254])
      have f277 : v 277 = (1 : Int) := n277.trans (by simp [b2i])
      have e278 : v 278 = if v 276 ≠ 0 then v 277 else (0 : Int) := satF hs 278 rfl
      have n278 : v 278 = if (1 : Int) ≠ 0 then (1 : Int) else (0 : Int) := e278.trans (by rw [f276, f277])
      have f278 : v 278 = (1 : Int) := n278.trans (if_pos (by decide))
      have e279 : v 279 = if v 265 ≠ 0 then v 278 else (0 : Int) := satF hs 279 rfl
      have n279 : v 279 = if (1 : Int) ≠ 0 then (1 : Int) else (0 : Int) := e279.trans (by rw [f265, f278])
      have f279 : v 279 = (1 : Int) := n279.trans (if_pos (by decide))
      have e280 : v 280 = if v 27 ≠ 0 then v 149 else v 279 := satF hs 280 rfl
      have n280 : v 280 = if v 27 ≠ 0 then v 149 else (1 : Int) := e280.trans (by rw [f279])
      have f280 : v 280 = (1 : Int) := n280.trans (if_neg (fun q => q h27))
      have e281 : v 281 = if v 13 ≠ 0 then (0 : Int) else v 280 := satF hs 281 rfl
      have n281 : v 281 = if (0 : Int) ≠ 0 then (0 : Int) else (1 : Int) := e281.trans (by rw [f13, f280])
      have f281 : v 281 = (1 : Int) := n281.trans (if_neg (by decide))
      exact f281
    · have e12 : v 12 = (semB 20 []).getD 0 0 := satF hs 12 rfl
      have f12 : v 12 = (1 : Int) := e12.trans (by decide +kernel)
      have e13 : v 13 = if v 12 ≠ 0 then (0 : Int) else (1 : Int) := satF hs 13 rfl
      have n13 : v 13 = if (1 : Int) ≠ 0 then (0 : Int) else (1 : Int) := e13.trans (by rw [f12])
      have f13 : v 13 = (0 : Int) := n13.trans (if_pos (by decide))
      have e56 : v 56 = b2i (v 55 != (0 : Int)) := satF hs 56 rfl
      have e58 : v 58 = if v 56 ≠ 0 then v 55 else (0 : Int) := satF hs 58 rfl
      have f58 : v 58 = v 55 := e58.trans (keep_ite e56)
      have e61 : v 61 = if v 27 ≠ 0 then (1 : Int) else v 58 := satF hs 61 rfl
      have n61 : v 61 = if v 27 ≠ 0 then (1 : Int) else v 55 := e61.trans (by rw [f58])
      have f61 : v 61 = (1 : Int) := n61.trans (if_pos h27)
      have e62 : v 62 = if v 27 ≠ 0 then (0 : Int) else v 59 := satF hs 62 rfl
      have f62 : v 62 = (0 : Int) := e62.trans (if_pos h27)
      have e63 : v 63 = if v 27 ≠ 0 then (0 : Int) else v 60 := satF hs 63 rfl
      have f63 : v 63 = (0 : Int) := e63.trans (if_pos h27)
      have e115 : v 115 = b2i (v 114 != (0 : Int)) := satF hs 115 rfl
      have e117 : v 117 = if v 115 ≠ 0 then v 114 else (0 : Int) := satF hs 117 rfl
      have f117 : v 117 = v 114 := e117.trans (keep_ite e115)
      have e124 : v 124 = if v 27 ≠ 0 then (1 : Int) else v 117 := satF hs 124 rfl
      have n124 : v 124 = if v 27 ≠ 0 then (1 : Int) else v 114 := e124.trans (by rw [f117])
      have f124 : v 124 = (1 : Int) := n124.trans (if_pos h27)
      have e125 : v 125 = if v 27 ≠ 0 then (0 : Int) else v 118 := satF hs 125 rfl
      have f125 : v 125 = (0 : Int) := e125.trans (if_pos h27)
      have e126 : v 126 = if v 27 ≠ 0 then (0 : Int) else v 119 := satF hs 126 rfl
      have f126 : v 126 = (0 : Int) := e126.trans (if_pos h27)
      have e127 : v 127 = if v 27 ≠ 0 then (0 : Int) else v 120 := satF hs 127 rfl
      have f127 : v 127 = (0 : Int) := e127.trans (if_pos h27)
      have e128 : v 128 = if v 27 ≠ 0 then (0 : Int) else v 121 := satF hs 128 rfl
      have f128 : v 128 = (0 : Int) := e128.trans (if_pos h27)
      have e129 : v 129 = if v 27 ≠ 0 then (0 : Int) else v 122 := satF hs 129 rfl
      have f129 : v 129 = (0 : Int) := e129.trans (if_pos h27)
      have e130 : v 130 = if v 27 ≠ 0 then (0 : Int) else v 123 := satF hs 130 rfl
      have f130 : v 130 = (0 : Int) := e130.trans (if_pos h27)
      have e131 : v 131 = b2i (v 62 == (0 : Int)) := satF hs 131 rfl
      have n131 : v 131 = b2i ((0 : Int) == (0 : Int)) := e131.trans (by rw [f62])
      have f131 : v 131 = (1 : Int) := n131.trans (by decide)
      have e132 : v 132 = b2i (v 63 == (0 : Int)) := satF hs 132 rfl
      have n132 : v 132 = b2i ((0 : Int) == (0 : Int)) := e132.trans (by rw [f63])
      have f132 : v 132 = (1 : Int) := n132.trans (by decide)
      have e133 : v 133 = if v 131 ≠ 0 then v 132 else (0 : Int) := satF hs 133 rfl
      have n133 : v 133 = if (1 : Int) ≠ 0 then (1 : Int) else (0 : Int) := e133.trans (by rw [f131, f132])
      have f133 : v 133 = (1 : Int) := n133.trans (if_pos (by decide))
      have e134 : v 134 = b2i (v 61 == (1 : Int)) := satF hs 134 rfl
      have n134 : v 134 = b2i ((1 : Int) == (1 : Int)) := e134.trans (by rw [f61])
      have f134 : v 134 = (1 : Int) := n134.trans (by decide)
      have e135 : v 135 = if v 133 ≠ 0 then v 134 else (0 : Int) := satF hs 135 rfl
      have n135 : v 135 = if (1 : Int) ≠ 0 then (1 : Int) else (0 : Int) := e135.trans (by rw [f133, f134])
      have f135 : v 135 = (1 : Int) := n135.trans (if_pos (by decide))
      have e136 : v 136 = b2i (v 125 == (0 : Int)) := satF hs 136 rfl
      have n136 : v 136 = b2i ((0 : Int) == (0 : Int)) := e136.trans (by rw [f125])
      have f136 : v 136 = (1 : Int) := n136.trans (by decide)
      have e137 : v 137 = b2i (v 126 == (0 : Int)) := satF hs 137 rfl
      have n137 : v 137 = b2i ((0 : Int) == (0 : Int)) := e137.trans (by rw [f126])
      have f137 : v 137 = (1 : Int) := n137.trans (by decide)
      have e138 : v 138 = b2i (v 127 == (0 : Int)) := satF hs 138 rfl
      have n138 : v 138 = b2i ((0 : Int) == (0 : Int)) := e138.trans (by rw [f127])
      have f138 : v 138 = (1 : Int) := n138.trans (by decide)
      have e139 : v 139 = b2i (v 128 == (0 : Int)) := satF hs 139 rfl
      have n139 : v 139 = b2i ((0 : Int) == (0 : Int)) := e139.trans (by rw [f128])
      have f139 : v 139 = (1 : Int) := n139.trans (by decide)
      have e140 : v 140 = b2i (v 129 == (0 : Int)) := satF hs 140 rfl
      have n140 : v 140 = b2i ((0 : Int) == (0 : Int)) := e140.trans (by rw [f129])
      have f140 : v 140 = (1 : Int) := n140.trans (by decide)
      have e141 : v 141 = b2i (v 130 == (0 : Int)) := satF hs 141 rfl
      have n141 : v 141 = b2i ((0 : Int) == (0 : Int)) := e141.trans (by rw [f130])
      have f141 : v 141 = (1 : Int) := n141.trans (by decide)
      have e142 : v 142 = if v 140 ≠ 0 then v 141 else (0 : Int) := satF hs 142 rfl
      have n142 : v 142 = if (1 : Int) ≠ 0 then (1 : Int) else (0 : Int) := e142.trans (by rw [f140, f141])
      have f142 : v 142 = (1 : Int) := n142.trans (if_pos (by decide))
      have e143 : v 143 = if v 139 ≠ 0 then v 142 else (0 : Int) := satF hs 143 rfl
      have n143 : v 143 = if (1 : Int) ≠ 0 then (1 : Int) else (0 : Int) := e143.trans (by rw [f139, f142])
      have f143 : v 143 = (1 : Int) := n143.trans (if_pos (by decide))
      have e144 : v 144 = if v 138 ≠ 0 then v 143 else (0 : Int) := satF hs 144 rfl
      have n144 : v 144 = if (1 : Int) ≠ 0 then (1 : Int) else (0 : Int) := e144.trans (by rw [f138, f143])
      have f144 : v 144 = (1 : Int) := n144.trans (if_pos (by decide))
      have e145 : v 145 = if v 137 ≠ 0 then v 144 else (0 : Int) := satF hs 145 rfl
      have n145 : v 145 = if (1 : Int) ≠ 0 then (1 : Int) else (0 : Int) := e145.trans (by rw [f137, f144])
      have f145 : v 145 = (1 : Int) := n145.trans (if_pos (by decide))
      have e146 : v 146 = if v 136 ≠ 0 then v 145 else (0 : Int) := satF hs 146 rfl
      have n146 : v 146 = if (1 : Int) ≠ 0 then (1 : Int) else (0 : Int) := e146.trans (by rw [f136, f145])
      have f146 : v 146 = (1 : Int) := n146.trans (if_pos (by decide))
      have e147 : v 147 = b2i (v 124 == (1 : Int)) := satF hs 147 rfl
      have n147 : v 147 = b2i ((1 : Int) == (1 : Int)) := e147.trans (by rw [f124])
      have f147 : v 147 = (1 : Int) := n147.trans (by decide)
      have e148 : v 148 = if v 146 ≠ 0 then v 147 else (0 : Int) := satF hs 148 rfl
      have n148 : v 148 = if (1 : Int) ≠ 0 then (1 : Int) else (0 : Int) := e148.trans (by rw [f146, f147])
      have f148 : v 148 = (1 : Int) := n148.trans (if_pos (by decide))
      have e149 : v 149 = if v 135 ≠ 0 then v 148 else (0 : Int) := satF hs 149 rfl
      have n149 : v 149 = if (1 : Int) ≠ 0 then (1 : Int) else (0 : Int) := e149.trans (by rw [f135, f148])
      have f149 : v 149 = (1 : Int) := n149.trans (if_pos (by decide))
      have e280 : v 280 = if v 27 ≠ 0 then v 149 else v 279 := satF hs 280 rfl
      have n280 : v 280 = if v 27 ≠ 0 then (1 : Int) else v 279 := e280.trans (by rw [f149])
      have f280 : v 280 = (1 : Int) := n280.trans (if_pos h27)
      have e281 : v 281 = if v 13 ≠ 0 then (0 : Int) else v 280 := satF hs 281 rfl
      have n281 : v 281 = if (0 : Int) ≠ 0 then (0 : Int) else (1 : Int) := e281.trans (by rw [f13, f280])
      have f281 : v 281 = (1 : Int) := n281.trans (if_neg (by decide))
      exact f281
end Go.Proofs.Ytlloiallkcfomaa
