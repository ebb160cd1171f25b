/- The law VectorsOf: Valid, Of, Rotate and Local return what is specified, or the specified errors. -/
import Derived.Test.YtlloiallkcfomaaGreatSpR
import Derived.Test.YtlloiallkcfomaaGreatAwake24
set_option linter.unusedVariables false
set_option linter.unusedSimpArgs false
namespace Go.Proofs.YtlloiallkcfomaaGreat
open Go.RowKit Alm Sx
def spOf : List Sx.Spec := spProg ++ spRef4 ++ spRef6 ++ [sAwake24]
theorem spOf_ok (args : List Int) : ∀ s ∈ spOf, SpecOK Tryz.prog (cxB args) s := by
  intro s hs
  rcases List.mem_append.1 hs with h | h
  · rcases List.mem_append.1 h with h | h
    · exact spBoth_ok args s h
    · exact spRef6_ok args s h
  · rw [List.mem_singleton.1 h]; exact sAwake24_ok args
def nd_of : List Nd := [
  .arg 0,
  .arg 1,
  .arg 2,
  .arg 3,
  .arg 4,
  .arg 5,
  .arg 6,
  .arg 7,
  .arg 8,
  .arg 9,
  .app 20 0 [],
  .ite (.n 10) (.c 0) (.c 1),
  .ite (.n 11) (.c 0) (.c 1),
  .bin .leq .i64 (.n 6) (.n 7),
  .bin .geq .i64 (.n 6) (.c (-1099511627776)),
  .bin .leq .i64 (.n 6) (.c 1099511627776),
  .ite (.n 14) (.n 15) (.c 0),
  .ite (.n 13) (.n 16) (.c 0),
  .bin .geq .i64 (.n 7) (.c (-1099511627776)),
  .bin .leq .i64 (.n 7) (.c 1099511627776),
  .ite (.n 18) (.n 19) (.c 0),
  .ite (.n 17) (.n 20) (.c 0),
  .ite (.n 21) (.c 0) (.c 1),
  .bin .leq .i64 (.n 8) (.n 9),
  .bin .geq .i64 (.n 8) (.c (-1099511627776)),
  .bin .leq .i64 (.n 8) (.c 1099511627776),
  .ite (.n 24) (.n 25) (.c 0),
  .ite (.n 23) (.n 26) (.c 0),
  .bin .geq .i64 (.n 9) (.c (-1099511627776)),
  .bin .leq .i64 (.n 9) (.c 1099511627776),
  .ite (.n 28) (.n 29) (.c 0),
  .ite (.n 27) (.n 30) (.c 0),
  .ite (.n 31) (.c 0) (.c 1),
  .ite (.n 22) (.c 1) (.n 32),
  .ite (.n 33) (.c 0) (.c 1),
  .app 6 0 [.n 6, .n 7],
  .app 6 1 [.n 6, .n 7],
  .app 6 2 [.n 6, .n 7],
  .app 6 0 [.n 8, .n 9],
  .app 6 1 [.n 8, .n 9],
  .app 6 2 [.n 8, .n 9],
  .bin .eql .i64 (.n 37) (.c 0),
  .ite (.n 41) (.c 0) (.c 1),
  .ite (.n 41) (.n 40) (.n 37),
  .app 0 0 [.n 35, .n 36, .n 38, .n 39],
  .app 0 1 [.n 35, .n 36, .n 38, .n 39],
  .app 0 2 [.n 35, .n 36, .n 38, .n 39],
  .bin .eql .i64 (.n 43) (.c 0),
  .ite (.n 47) (.c 0) (.c 1),
  .ite (.n 47) (.n 46) (.n 43),
  .app 5 0 [.n 8, .n 9],
  .app 5 1 [.n 8, .n 9],
  .app 5 2 [.n 8, .n 9],
  .bin .eql .i64 (.n 49) (.c 0),
  .ite (.n 53) (.c 0) (.c 1),
  .ite (.n 53) (.n 52) (.n 49),
  .app 0 0 [.n 35, .n 36, .n 50, .n 51],
  .app 0 1 [.n 35, .n 36, .n 50, .n 51],
  .app 0 2 [.n 35, .n 36, .n 50, .n 51],
  .bin .eql .i64 (.n 55) (.c 0),
  .ite (.n 59) (.c 0) (.c 1),
  .ite (.n 59) (.n 58) (.n 55),
  .app 5 0 [.n 6, .n 7],
  .app 5 1 [.n 6, .n 7],
  .app 5 2 [.n 6, .n 7],
  .bin .eql .i64 (.n 61) (.c 0),
  .ite (.n 65) (.c 0) (.c 1),
  .ite (.n 65) (.n 64) (.n 61),
  .bin .neq .i64 (.n 67) (.c 0),
  .ite (.n 68) (.c 0) (.c 1),
  .ite (.n 68) (.n 67) (.c 0),
  .ite (.n 68) (.c 0) (.n 44),
  .ite (.n 68) (.c 0) (.n 45),
  .ite (.n 68) (.c 0) (.n 56),
  .ite (.n 68) (.c 0) (.n 57),
  .ite (.n 68) (.c 0) (.n 62),
  .ite (.n 68) (.c 0) (.n 63),
  .ite (.n 33) (.c 1) (.n 70),
  .ite (.n 33) (.c 0) (.n 71),
  .ite (.n 33) (.c 0) (.n 72),
  .ite (.n 33) (.c 0) (.n 73),
  .ite (.n 33) (.c 0) (.n 74),
  .ite (.n 33) (.c 0) (.n 75),
  .ite (.n 33) (.c 0) (.n 76),
  .app 8 0 [.n 0, .n 1],
  .app 8 0 [.n 2, .n 3],
  .ite (.n 84) (.n 85) (.c 0),
  .app 8 0 [.n 4, .n 5],
  .ite (.n 86) (.n 87) (.c 0),
  .ite (.n 88) (.c 0) (.c 1),
  .ite (.n 89) (.c 1) (.n 22),
  .ite (.n 90) (.c 0) (.c 1),
  .ite (.n 41) (.n 64) (.n 37),
  .app 0 0 [.n 0, .n 1, .n 35, .n 36],
  .app 0 1 [.n 0, .n 1, .n 35, .n 36],
  .app 0 2 [.n 0, .n 1, .n 35, .n 36],
  .bin .eql .i64 (.n 92) (.c 0),
  .ite (.n 96) (.c 0) (.c 1),
  .ite (.n 96) (.n 95) (.n 92),
  .app 0 0 [.n 2, .n 3, .n 62, .n 63],
  .app 0 1 [.n 2, .n 3, .n 62, .n 63],
  .app 0 2 [.n 2, .n 3, .n 62, .n 63],
  .bin .eql .i64 (.n 98) (.c 0),
  .ite (.n 102) (.c 0) (.c 1),
  .ite (.n 102) (.n 101) (.n 98),
  .app 2 0 [.n 93, .n 94, .n 99, .n 100],
  .app 2 1 [.n 93, .n 94, .n 99, .n 100],
  .app 2 2 [.n 93, .n 94, .n 99, .n 100],
  .bin .eql .i64 (.n 104) (.c 0),
  .ite (.n 108) (.c 0) (.c 1),
  .ite (.n 108) (.n 107) (.n 104),
  .app 0 0 [.n 0, .n 1, .n 62, .n 63],
  .app 0 1 [.n 0, .n 1, .n 62, .n 63],
  .app 0 2 [.n 0, .n 1, .n 62, .n 63],
  .bin .eql .i64 (.n 110) (.c 0),
  .ite (.n 114) (.c 0) (.c 1),
  .ite (.n 114) (.n 113) (.n 110),
  .app 0 0 [.n 2, .n 3, .n 35, .n 36],
  .app 0 1 [.n 2, .n 3, .n 35, .n 36],
  .app 0 2 [.n 2, .n 3, .n 35, .n 36],
  .bin .eql .i64 (.n 116) (.c 0),
  .ite (.n 120) (.c 0) (.c 1),
  .ite (.n 120) (.n 119) (.n 116),
  .app 1 0 [.n 111, .n 112, .n 117, .n 118],
  .app 1 1 [.n 111, .n 112, .n 117, .n 118],
  .app 1 2 [.n 111, .n 112, .n 117, .n 118],
  .bin .eql .i64 (.n 122) (.c 0),
  .ite (.n 126) (.c 0) (.c 1),
  .ite (.n 126) (.n 125) (.n 122),
  .bin .neq .i64 (.n 128) (.c 0),
  .ite (.n 129) (.c 0) (.c 1),
  .ite (.n 129) (.n 128) (.c 0),
  .ite (.n 129) (.c 0) (.n 105),
  .ite (.n 129) (.c 0) (.n 106),
  .ite (.n 129) (.c 0) (.n 123),
  .ite (.n 129) (.c 0) (.n 124),
  .ite (.n 129) (.c 0) (.n 4),
  .ite (.n 129) (.c 0) (.n 5),
  .ite (.n 90) (.c 1) (.n 131),
  .ite (.n 90) (.c 0) (.n 132),
  .ite (.n 90) (.c 0) (.n 133),
  .ite (.n 90) (.c 0) (.n 134),
  .ite (.n 90) (.c 0) (.n 135),
  .ite (.n 90) (.c 0) (.n 136),
  .ite (.n 90) (.c 0) (.n 137),
  .ite (.n 90) (.c 1) (.n 32),
  .ite (.n 145) (.c 0) (.c 1),
  .ite (.n 96) (.n 40) (.n 92),
  .bin .eql .i64 (.n 147) (.c 0),
  .ite (.n 148) (.c 0) (.c 1),
  .ite (.n 148) (.n 52) (.n 147),
  .app 0 0 [.n 2, .n 3, .n 38, .n 39],
  .app 0 1 [.n 2, .n 3, .n 38, .n 39],
  .app 0 2 [.n 2, .n 3, .n 38, .n 39],
  .bin .eql .i64 (.n 150) (.c 0),
  .ite (.n 154) (.c 0) (.c 1),
  .ite (.n 154) (.n 153) (.n 150),
  .app 0 0 [.n 0, .n 1, .n 50, .n 51],
  .app 0 1 [.n 0, .n 1, .n 50, .n 51],
  .app 0 2 [.n 0, .n 1, .n 50, .n 51],
  .bin .eql .i64 (.n 156) (.c 0),
  .ite (.n 160) (.c 0) (.c 1),
  .ite (.n 160) (.n 159) (.n 156),
  .app 2 0 [.n 151, .n 152, .n 157, .n 158],
  .app 2 1 [.n 151, .n 152, .n 157, .n 158],
  .app 2 2 [.n 151, .n 152, .n 157, .n 158],
  .bin .eql .i64 (.n 162) (.c 0),
  .ite (.n 166) (.c 0) (.c 1),
  .ite (.n 166) (.n 165) (.n 162),
  .app 0 0 [.n 0, .n 1, .n 38, .n 39],
  .app 0 1 [.n 0, .n 1, .n 38, .n 39],
  .app 0 2 [.n 0, .n 1, .n 38, .n 39],
  .bin .eql .i64 (.n 168) (.c 0),
  .ite (.n 172) (.c 0) (.c 1),
  .ite (.n 172) (.n 171) (.n 168),
  .app 0 0 [.n 2, .n 3, .n 50, .n 51],
  .app 0 1 [.n 2, .n 3, .n 50, .n 51],
  .app 0 2 [.n 2, .n 3, .n 50, .n 51],
  .bin .eql .i64 (.n 174) (.c 0),
  .ite (.n 178) (.c 0) (.c 1),
  .ite (.n 178) (.n 177) (.n 174),
  .app 1 0 [.n 169, .n 170, .n 175, .n 176],
  .app 1 1 [.n 169, .n 170, .n 175, .n 176],
  .app 1 2 [.n 169, .n 170, .n 175, .n 176],
  .bin .eql .i64 (.n 180) (.c 0),
  .ite (.n 184) (.c 0) (.c 1),
  .ite (.n 184) (.n 183) (.n 180),
  .app 0 0 [.n 4, .n 5, .n 35, .n 36],
  .app 0 1 [.n 4, .n 5, .n 35, .n 36],
  .app 0 2 [.n 4, .n 5, .n 35, .n 36],
  .bin .eql .i64 (.n 186) (.c 0),
  .ite (.n 190) (.c 0) (.c 1),
  .ite (.n 190) (.n 189) (.n 186),
  .app 0 0 [.n 181, .n 182, .n 62, .n 63],
  .app 0 1 [.n 181, .n 182, .n 62, .n 63],
  .app 0 2 [.n 181, .n 182, .n 62, .n 63],
  .bin .eql .i64 (.n 192) (.c 0),
  .ite (.n 196) (.c 0) (.c 1),
  .ite (.n 196) (.n 195) (.n 192),
  .app 2 0 [.n 187, .n 188, .n 193, .n 194],
  .app 2 1 [.n 187, .n 188, .n 193, .n 194],
  .app 2 2 [.n 187, .n 188, .n 193, .n 194],
  .bin .eql .i64 (.n 198) (.c 0),
  .ite (.n 202) (.c 0) (.c 1),
  .ite (.n 202) (.n 201) (.n 198),
  .app 0 0 [.n 4, .n 5, .n 62, .n 63],
  .app 0 1 [.n 4, .n 5, .n 62, .n 63],
  .app 0 2 [.n 4, .n 5, .n 62, .n 63],
  .bin .eql .i64 (.n 204) (.c 0),
  .ite (.n 208) (.c 0) (.c 1),
  .ite (.n 208) (.n 207) (.n 204),
  .app 0 0 [.n 181, .n 182, .n 35, .n 36],
  .app 0 1 [.n 181, .n 182, .n 35, .n 36],
  .app 0 2 [.n 181, .n 182, .n 35, .n 36],
  .bin .eql .i64 (.n 210) (.c 0),
  .ite (.n 214) (.c 0) (.c 1),
  .ite (.n 214) (.n 213) (.n 210),
  .app 1 0 [.n 205, .n 206, .n 211, .n 212],
  .app 1 1 [.n 205, .n 206, .n 211, .n 212],
  .app 1 2 [.n 205, .n 206, .n 211, .n 212],
  .bin .eql .i64 (.n 216) (.c 0),
  .ite (.n 220) (.c 0) (.c 1),
  .ite (.n 220) (.n 219) (.n 216),
  .bin .neq .i64 (.n 222) (.c 0),
  .ite (.n 223) (.c 0) (.c 1),
  .ite (.n 223) (.n 222) (.c 0),
  .ite (.n 223) (.c 0) (.n 163),
  .ite (.n 223) (.c 0) (.n 164),
  .ite (.n 223) (.c 0) (.n 199),
  .ite (.n 223) (.c 0) (.n 200),
  .ite (.n 223) (.c 0) (.n 217),
  .ite (.n 223) (.c 0) (.n 218),
  .ite (.n 145) (.c 1) (.n 225),
  .ite (.n 145) (.c 0) (.n 226),
  .ite (.n 145) (.c 0) (.n 227),
  .ite (.n 145) (.c 0) (.n 228),
  .ite (.n 145) (.c 0) (.n 229),
  .ite (.n 145) (.c 0) (.n 230),
  .ite (.n 145) (.c 0) (.n 231),
  .ite (.n 88) (.c 1) (.c 0),
  .ite (.n 13) (.n 14) (.c 0),
  .ite (.n 240) (.n 19) (.c 0),
  .ite (.n 23) (.n 24) (.c 0),
  .ite (.n 242) (.n 29) (.c 0),
  .ite (.n 241) (.n 243) (.c 0),
  .ite (.n 244) (.c 0) (.c 1),
  .bin .eql .i64 (.n 78) (.c 0),
  .bin .eql .i64 (.n 79) (.c 0),
  .bin .eql .i64 (.n 80) (.c 0),
  .bin .eql .i64 (.n 81) (.c 0),
  .bin .eql .i64 (.n 82) (.c 0),
  .bin .eql .i64 (.n 83) (.c 0),
  .ite (.n 250) (.n 251) (.c 0),
  .ite (.n 249) (.n 252) (.c 0),
  .ite (.n 248) (.n 253) (.c 0),
  .ite (.n 247) (.n 254) (.c 0),
  .ite (.n 246) (.n 255) (.c 0),
  .bin .eql .i64 (.n 77) (.c 1),
  .ite (.n 256) (.n 257) (.c 0),
  .ite (.n 258) (.c 0) (.c 1),
  .bin .eql .i64 (.n 233) (.c 0),
  .bin .eql .i64 (.n 234) (.c 0),
  .bin .eql .i64 (.n 235) (.c 0),
  .bin .eql .i64 (.n 236) (.c 0),
  .bin .eql .i64 (.n 237) (.c 0),
  .bin .eql .i64 (.n 238) (.c 0),
  .ite (.n 264) (.n 265) (.c 0),
  .ite (.n 263) (.n 266) (.c 0),
  .ite (.n 262) (.n 267) (.c 0),
  .ite (.n 261) (.n 268) (.c 0),
  .ite (.n 260) (.n 269) (.c 0),
  .bin .eql .i64 (.n 232) (.c 1),
  .ite (.n 270) (.n 271) (.c 0),
  .ite (.n 272) (.c 0) (.c 1),
  .ite (.n 259) (.c 1) (.n 273),
  .ite (.n 274) (.c 0) (.c 1),
  .bin .neq .i64 (.n 46) (.c 0),
  .ite (.n 276) (.c 0) (.c 1),
  .ite (.n 276) (.c 0) (.n 44),
  .ite (.n 276) (.c 0) (.n 45),
  .bin .eql .i64 (.n 46) (.c 0),
  .ite (.n 280) (.c 0) (.c 1),
  .ite (.n 280) (.n 58) (.n 46),
  .bin .neq .i64 (.n 58) (.c 0),
  .ite (.n 283) (.c 0) (.c 1),
  .ite (.n 283) (.c 0) (.n 56),
  .ite (.n 283) (.c 0) (.n 57),
  .bin .neq .i64 (.n 282) (.c 0),
  .ite (.n 287) (.c 0) (.c 1),
  .ite (.n 287) (.n 282) (.c 0),
  .ite (.n 287) (.c 0) (.n 278),
  .ite (.n 287) (.c 0) (.n 279),
  .ite (.n 287) (.c 0) (.n 285),
  .ite (.n 287) (.c 0) (.n 286),
  .ite (.n 287) (.c 0) (.n 62),
  .ite (.n 287) (.c 0) (.n 63),
  .bin .eql .i64 (.n 78) (.n 290),
  .bin .eql .i64 (.n 79) (.n 291),
  .bin .eql .i64 (.n 80) (.n 292),
  .bin .eql .i64 (.n 81) (.n 293),
  .bin .eql .i64 (.n 82) (.n 294),
  .bin .eql .i64 (.n 83) (.n 295),
  .ite (.n 300) (.n 301) (.c 0),
  .ite (.n 299) (.n 302) (.c 0),
  .ite (.n 298) (.n 303) (.c 0),
  .ite (.n 297) (.n 304) (.c 0),
  .ite (.n 296) (.n 305) (.c 0),
  .bin .eql .i64 (.n 77) (.n 289),
  .ite (.n 306) (.n 307) (.c 0),
  .ite (.n 308) (.c 0) (.c 1),
  .ite (.n 245) (.n 275) (.c 0),
  .ite (.n 245) (.n 274) (.c 0),
  .ite (.n 244) (.n 308) (.c 0),
  .ite (.n 244) (.n 309) (.c 0),
  .ite (.n 310) (.c 1) (.n 312),
  .ite (.n 311) (.c 1) (.n 313),
  .bin .eql .i64 (.n 139) (.c 0),
  .bin .eql .i64 (.n 140) (.c 0),
  .bin .eql .i64 (.n 141) (.c 0),
  .bin .eql .i64 (.n 142) (.c 0),
  .bin .eql .i64 (.n 143) (.c 0),
  .bin .eql .i64 (.n 144) (.c 0),
  .ite (.n 320) (.n 321) (.c 0),
  .ite (.n 319) (.n 322) (.c 0),
  .ite (.n 318) (.n 323) (.c 0),
  .ite (.n 317) (.n 324) (.c 0),
  .ite (.n 316) (.n 325) (.c 0),
  .bin .eql .i64 (.n 138) (.c 1),
  .ite (.n 326) (.n 327) (.c 0),
  .ite (.n 328) (.n 272) (.c 0),
  .ite (.n 89) (.c 0) (.c 1),
  .ite (.n 241) (.c 0) (.c 1),
  .bin .neq .i64 (.n 95) (.c 0),
  .ite (.n 332) (.c 0) (.c 1),
  .ite (.n 332) (.c 0) (.n 93),
  .ite (.n 332) (.c 0) (.n 94),
  .bin .eql .i64 (.n 95) (.c 0),
  .ite (.n 336) (.c 0) (.c 1),
  .ite (.n 336) (.n 101) (.n 95),
  .bin .neq .i64 (.n 101) (.c 0),
  .ite (.n 339) (.c 0) (.c 1),
  .ite (.n 339) (.c 0) (.n 99),
  .ite (.n 339) (.c 0) (.n 100),
  .app 2 0 [.n 334, .n 335, .n 341, .n 342],
  .app 2 1 [.n 334, .n 335, .n 341, .n 342],
  .app 2 2 [.n 334, .n 335, .n 341, .n 342],
  .bin .eql .i64 (.n 338) (.c 0),
  .ite (.n 346) (.c 0) (.c 1),
  .ite (.n 346) (.n 345) (.n 338),
  .bin .neq .i64 (.n 345) (.c 0),
  .ite (.n 349) (.c 0) (.c 1),
  .ite (.n 349) (.c 0) (.n 343),
  .ite (.n 349) (.c 0) (.n 344),
  .bin .eql .i64 (.n 348) (.c 0),
  .ite (.n 353) (.c 0) (.c 1),
  .ite (.n 353) (.n 113) (.n 348),
  .bin .neq .i64 (.n 113) (.c 0),
  .ite (.n 356) (.c 0) (.c 1),
  .ite (.n 356) (.c 0) (.n 111),
  .ite (.n 356) (.c 0) (.n 112),
  .bin .eql .i64 (.n 355) (.c 0),
  .ite (.n 360) (.c 0) (.c 1),
  .ite (.n 360) (.n 119) (.n 355),
  .bin .neq .i64 (.n 119) (.c 0),
  .ite (.n 363) (.c 0) (.c 1),
  .ite (.n 363) (.c 0) (.n 117),
  .ite (.n 363) (.c 0) (.n 118),
  .app 1 0 [.n 358, .n 359, .n 365, .n 366],
  .app 1 1 [.n 358, .n 359, .n 365, .n 366],
  .app 1 2 [.n 358, .n 359, .n 365, .n 366],
  .bin .eql .i64 (.n 362) (.c 0),
  .ite (.n 370) (.c 0) (.c 1),
  .ite (.n 370) (.n 369) (.n 362),
  .bin .neq .i64 (.n 369) (.c 0),
  .ite (.n 373) (.c 0) (.c 1),
  .ite (.n 373) (.c 0) (.n 367),
  .ite (.n 373) (.c 0) (.n 368),
  .bin .neq .i64 (.n 372) (.c 0),
  .ite (.n 377) (.c 0) (.c 1),
  .ite (.n 377) (.n 372) (.c 0),
  .ite (.n 377) (.c 0) (.n 351),
  .ite (.n 377) (.c 0) (.n 352),
  .ite (.n 377) (.c 0) (.n 375),
  .ite (.n 377) (.c 0) (.n 376),
  .ite (.n 377) (.c 0) (.n 4),
  .ite (.n 377) (.c 0) (.n 5),
  .bin .eql .i64 (.n 139) (.n 380),
  .bin .eql .i64 (.n 140) (.n 381),
  .bin .eql .i64 (.n 141) (.n 382),
  .bin .eql .i64 (.n 142) (.n 383),
  .bin .eql .i64 (.n 143) (.n 384),
  .bin .eql .i64 (.n 144) (.n 385),
  .ite (.n 390) (.n 391) (.c 0),
  .ite (.n 389) (.n 392) (.c 0),
  .ite (.n 388) (.n 393) (.c 0),
  .ite (.n 387) (.n 394) (.c 0),
  .ite (.n 386) (.n 395) (.c 0),
  .bin .eql .i64 (.n 138) (.n 379),
  .ite (.n 396) (.n 397) (.c 0),
  .ite (.n 398) (.c 0) (.c 1),
  .bin .neq .i64 (.n 153) (.c 0),
  .ite (.n 400) (.c 0) (.c 1),
  .ite (.n 400) (.c 0) (.n 151),
  .ite (.n 400) (.c 0) (.n 152),
  .bin .eql .i64 (.n 153) (.c 0),
  .ite (.n 404) (.c 0) (.c 1),
  .ite (.n 404) (.n 159) (.n 153),
  .bin .neq .i64 (.n 159) (.c 0),
  .ite (.n 407) (.c 0) (.c 1),
  .ite (.n 407) (.c 0) (.n 157),
  .ite (.n 407) (.c 0) (.n 158),
  .app 2 0 [.n 402, .n 403, .n 409, .n 410],
  .app 2 1 [.n 402, .n 403, .n 409, .n 410],
  .app 2 2 [.n 402, .n 403, .n 409, .n 410],
  .bin .eql .i64 (.n 406) (.c 0),
  .ite (.n 414) (.c 0) (.c 1),
  .ite (.n 414) (.n 413) (.n 406),
  .bin .neq .i64 (.n 413) (.c 0),
  .ite (.n 417) (.c 0) (.c 1),
  .ite (.n 417) (.c 0) (.n 411),
  .ite (.n 417) (.c 0) (.n 412),
  .bin .eql .i64 (.n 416) (.c 0),
  .ite (.n 421) (.c 0) (.c 1),
  .ite (.n 421) (.n 171) (.n 416),
  .bin .neq .i64 (.n 171) (.c 0),
  .ite (.n 424) (.c 0) (.c 1),
  .ite (.n 424) (.c 0) (.n 169),
  .ite (.n 424) (.c 0) (.n 170),
  .bin .eql .i64 (.n 423) (.c 0),
  .ite (.n 428) (.c 0) (.c 1),
  .ite (.n 428) (.n 177) (.n 423),
  .bin .neq .i64 (.n 177) (.c 0),
  .ite (.n 431) (.c 0) (.c 1),
  .ite (.n 431) (.c 0) (.n 175),
  .ite (.n 431) (.c 0) (.n 176),
  .app 1 0 [.n 426, .n 427, .n 433, .n 434],
  .app 1 1 [.n 426, .n 427, .n 433, .n 434],
  .app 1 2 [.n 426, .n 427, .n 433, .n 434],
  .bin .eql .i64 (.n 430) (.c 0),
  .ite (.n 438) (.c 0) (.c 1),
  .ite (.n 438) (.n 437) (.n 430),
  .bin .neq .i64 (.n 437) (.c 0),
  .ite (.n 441) (.c 0) (.c 1),
  .ite (.n 441) (.c 0) (.n 435),
  .ite (.n 441) (.c 0) (.n 436),
  .bin .eql .i64 (.n 440) (.c 0),
  .ite (.n 445) (.c 0) (.c 1),
  .ite (.n 445) (.n 189) (.n 440),
  .bin .neq .i64 (.n 189) (.c 0),
  .ite (.n 448) (.c 0) (.c 1),
  .ite (.n 448) (.c 0) (.n 187),
  .ite (.n 448) (.c 0) (.n 188),
  .app 0 0 [.n 443, .n 444, .n 62, .n 63],
  .app 0 1 [.n 443, .n 444, .n 62, .n 63],
  .app 0 2 [.n 443, .n 444, .n 62, .n 63],
  .bin .eql .i64 (.n 447) (.c 0),
  .ite (.n 455) (.c 0) (.c 1),
  .ite (.n 455) (.n 454) (.n 447),
  .bin .neq .i64 (.n 454) (.c 0),
  .ite (.n 458) (.c 0) (.c 1),
  .ite (.n 458) (.c 0) (.n 452),
  .ite (.n 458) (.c 0) (.n 453),
  .app 2 0 [.n 450, .n 451, .n 460, .n 461],
  .app 2 1 [.n 450, .n 451, .n 460, .n 461],
  .app 2 2 [.n 450, .n 451, .n 460, .n 461],
  .bin .eql .i64 (.n 457) (.c 0),
  .ite (.n 465) (.c 0) (.c 1),
  .ite (.n 465) (.n 464) (.n 457),
  .bin .neq .i64 (.n 464) (.c 0),
  .ite (.n 468) (.c 0) (.c 1),
  .ite (.n 468) (.c 0) (.n 462),
  .ite (.n 468) (.c 0) (.n 463),
  .bin .eql .i64 (.n 467) (.c 0),
  .ite (.n 472) (.c 0) (.c 1),
  .ite (.n 472) (.n 207) (.n 467),
  .bin .neq .i64 (.n 207) (.c 0),
  .ite (.n 475) (.c 0) (.c 1),
  .ite (.n 475) (.c 0) (.n 205),
  .ite (.n 475) (.c 0) (.n 206),
  .app 0 0 [.n 443, .n 444, .n 35, .n 36],
  .app 0 1 [.n 443, .n 444, .n 35, .n 36],
  .app 0 2 [.n 443, .n 444, .n 35, .n 36],
  .bin .eql .i64 (.n 474) (.c 0),
  .ite (.n 482) (.c 0) (.c 1),
  .ite (.n 482) (.n 481) (.n 474),
  .bin .neq .i64 (.n 481) (.c 0),
  .ite (.n 485) (.c 0) (.c 1),
  .ite (.n 485) (.c 0) (.n 479),
  .ite (.n 485) (.c 0) (.n 480),
  .app 1 0 [.n 477, .n 478, .n 487, .n 488],
  .app 1 1 [.n 477, .n 478, .n 487, .n 488],
  .app 1 2 [.n 477, .n 478, .n 487, .n 488],
  .bin .eql .i64 (.n 484) (.c 0),
  .ite (.n 492) (.c 0) (.c 1),
  .ite (.n 492) (.n 491) (.n 484),
  .bin .neq .i64 (.n 491) (.c 0),
  .ite (.n 495) (.c 0) (.c 1),
  .ite (.n 495) (.c 0) (.n 489),
  .ite (.n 495) (.c 0) (.n 490),
  .bin .neq .i64 (.n 494) (.c 0),
  .ite (.n 499) (.c 0) (.c 1),
  .ite (.n 499) (.n 494) (.c 0),
  .ite (.n 499) (.c 0) (.n 419),
  .ite (.n 499) (.c 0) (.n 420),
  .ite (.n 499) (.c 0) (.n 470),
  .ite (.n 499) (.c 0) (.n 471),
  .ite (.n 499) (.c 0) (.n 497),
  .ite (.n 499) (.c 0) (.n 498),
  .bin .eql .i64 (.n 233) (.n 502),
  .bin .eql .i64 (.n 234) (.n 503),
  .bin .eql .i64 (.n 235) (.n 504),
  .bin .eql .i64 (.n 236) (.n 505),
  .bin .eql .i64 (.n 237) (.n 506),
  .bin .eql .i64 (.n 238) (.n 507),
  .ite (.n 512) (.n 513) (.c 0),
  .ite (.n 511) (.n 514) (.c 0),
  .ite (.n 510) (.n 515) (.c 0),
  .ite (.n 509) (.n 516) (.c 0),
  .ite (.n 508) (.n 517) (.c 0),
  .bin .eql .i64 (.n 232) (.n 501),
  .ite (.n 518) (.n 519) (.c 0),
  .ite (.n 245) (.c 1) (.n 520),
  .ite (.n 399) (.c 0) (.n 521),
  .ite (.n 331) (.n 328) (.n 522),
  .ite (.n 89) (.n 329) (.n 523),
  .ite (.n 315) (.c 1) (.n 314),
  .ite (.n 315) (.c 0) (.n 524),
  .ite (.n 12) (.n 525) (.c 0),
  .ite (.n 11) (.c 1) (.n 527),
  .ite (.n 11) (.c 0) (.n 526)]
def vc_of : List Vc := [
  ⟨[], .pre 20 []⟩,
  ⟨[(.n 34, true), (.n 12, true)], .pre 6 [.n 6, .n 7]⟩,
  ⟨[(.n 34, true), (.n 12, true)], .pre 6 [.n 8, .n 9]⟩,
  ⟨[(.n 34, true), (.n 12, true)], .pre 0 [.n 35, .n 36, .n 38, .n 39]⟩,
  ⟨[(.n 34, true), (.n 12, true)], .pre 5 [.n 8, .n 9]⟩,
  ⟨[(.n 34, true), (.n 12, true)], .pre 0 [.n 35, .n 36, .n 50, .n 51]⟩,
  ⟨[(.n 34, true), (.n 12, true)], .pre 5 [.n 6, .n 7]⟩,
  ⟨[(.n 12, true)], .pre 8 [.n 0, .n 1]⟩,
  ⟨[(.n 12, true), (.n 84, true)], .pre 8 [.n 2, .n 3]⟩,
  ⟨[(.n 12, true), (.n 86, true)], .pre 8 [.n 4, .n 5]⟩,
  ⟨[(.n 91, true), (.n 12, true)], .pre 6 [.n 6, .n 7]⟩,
  ⟨[(.n 91, true), (.n 12, true)], .pre 5 [.n 6, .n 7]⟩,
  ⟨[(.n 91, true), (.n 12, true)], .pre 0 [.n 0, .n 1, .n 35, .n 36]⟩,
  ⟨[(.n 91, true), (.n 12, true)], .pre 0 [.n 2, .n 3, .n 62, .n 63]⟩,
  ⟨[(.n 91, true), (.n 12, true)], .pre 2 [.n 93, .n 94, .n 99, .n 100]⟩,
  ⟨[(.n 91, true), (.n 12, true)], .pre 0 [.n 0, .n 1, .n 62, .n 63]⟩,
  ⟨[(.n 91, true), (.n 12, true)], .pre 0 [.n 2, .n 3, .n 35, .n 36]⟩,
  ⟨[(.n 91, true), (.n 12, true)], .pre 1 [.n 111, .n 112, .n 117, .n 118]⟩,
  ⟨[(.n 12, true)], .pre 8 [.n 0, .n 1]⟩,
  ⟨[(.n 12, true), (.n 84, true)], .pre 8 [.n 2, .n 3]⟩,
  ⟨[(.n 12, true), (.n 86, true)], .pre 8 [.n 4, .n 5]⟩,
  ⟨[(.n 146, true), (.n 12, true)], .pre 6 [.n 6, .n 7]⟩,
  ⟨[(.n 146, true), (.n 12, true)], .pre 5 [.n 6, .n 7]⟩,
  ⟨[(.n 146, true), (.n 12, true)], .pre 6 [.n 8, .n 9]⟩,
  ⟨[(.n 146, true), (.n 12, true)], .pre 5 [.n 8, .n 9]⟩,
  ⟨[(.n 146, true), (.n 12, true)], .pre 0 [.n 2, .n 3, .n 38, .n 39]⟩,
  ⟨[(.n 146, true), (.n 12, true)], .pre 0 [.n 0, .n 1, .n 50, .n 51]⟩,
  ⟨[(.n 146, true), (.n 12, true)], .pre 2 [.n 151, .n 152, .n 157, .n 158]⟩,
  ⟨[(.n 146, true), (.n 12, true)], .pre 0 [.n 0, .n 1, .n 38, .n 39]⟩,
  ⟨[(.n 146, true), (.n 12, true)], .pre 0 [.n 2, .n 3, .n 50, .n 51]⟩,
  ⟨[(.n 146, true), (.n 12, true)], .pre 1 [.n 169, .n 170, .n 175, .n 176]⟩,
  ⟨[(.n 146, true), (.n 12, true)], .pre 0 [.n 4, .n 5, .n 35, .n 36]⟩,
  ⟨[(.n 146, true), (.n 12, true)], .pre 0 [.n 181, .n 182, .n 62, .n 63]⟩,
  ⟨[(.n 146, true), (.n 12, true)], .pre 2 [.n 187, .n 188, .n 193, .n 194]⟩,
  ⟨[(.n 146, true), (.n 12, true)], .pre 0 [.n 4, .n 5, .n 62, .n 63]⟩,
  ⟨[(.n 146, true), (.n 12, true)], .pre 0 [.n 181, .n 182, .n 35, .n 36]⟩,
  ⟨[(.n 146, true), (.n 12, true)], .pre 1 [.n 205, .n 206, .n 211, .n 212]⟩,
  ⟨[(.n 12, true)], .pre 8 [.n 0, .n 1]⟩,
  ⟨[(.n 12, true), (.n 84, true)], .pre 8 [.n 2, .n 3]⟩,
  ⟨[(.n 12, true), (.n 86, true)], .pre 8 [.n 4, .n 5]⟩,
  ⟨[(.n 12, true)], .pre 8 [.n 0, .n 1]⟩,
  ⟨[(.n 12, true), (.n 84, true)], .pre 8 [.n 2, .n 3]⟩,
  ⟨[(.n 12, true), (.n 86, true)], .pre 8 [.n 4, .n 5]⟩,
  ⟨[(.n 245, false), (.n 12, true)], .pre 6 [.n 6, .n 7]⟩,
  ⟨[(.n 245, false), (.n 12, true)], .pre 6 [.n 8, .n 9]⟩,
  ⟨[(.n 245, false), (.n 12, true)], .pre 0 [.n 35, .n 36, .n 38, .n 39]⟩,
  ⟨[(.n 245, false), (.n 12, true)], .pre 5 [.n 8, .n 9]⟩,
  ⟨[(.n 245, false), (.n 12, true)], .pre 0 [.n 35, .n 36, .n 50, .n 51]⟩,
  ⟨[(.n 245, false), (.n 12, true)], .pre 5 [.n 6, .n 7]⟩,
  ⟨[(.n 314, true), (.n 12, true)], .pre 8 [.n 0, .n 1]⟩,
  ⟨[(.n 314, true), (.n 12, true), (.n 84, true)], .pre 8 [.n 2, .n 3]⟩,
  ⟨[(.n 314, true), (.n 12, true), (.n 86, true)], .pre 8 [.n 4, .n 5]⟩,
  ⟨[(.n 241, true), (.n 330, true), (.n 314, true), (.n 12, true)], .pre 5 [.n 6, .n 7]⟩,
  ⟨[(.n 241, true), (.n 330, true), (.n 314, true), (.n 12, true)], .pre 6 [.n 6, .n 7]⟩,
  ⟨[(.n 241, true), (.n 330, true), (.n 314, true), (.n 12, true)], .pre 0 [.n 0, .n 1, .n 35, .n 36]⟩,
  ⟨[(.n 241, true), (.n 330, true), (.n 314, true), (.n 12, true)], .pre 0 [.n 2, .n 3, .n 62, .n 63]⟩,
  ⟨[(.n 241, true), (.n 330, true), (.n 314, true), (.n 12, true)], .pre 2 [.n 334, .n 335, .n 341, .n 342]⟩,
  ⟨[(.n 241, true), (.n 330, true), (.n 314, true), (.n 12, true)], .pre 0 [.n 0, .n 1, .n 62, .n 63]⟩,
  ⟨[(.n 241, true), (.n 330, true), (.n 314, true), (.n 12, true)], .pre 0 [.n 2, .n 3, .n 35, .n 36]⟩,
  ⟨[(.n 241, true), (.n 330, true), (.n 314, true), (.n 12, true)], .pre 1 [.n 358, .n 359, .n 365, .n 366]⟩,
  ⟨[(.n 244, true), (.n 398, true), (.n 241, true), (.n 330, true), (.n 314, true), (.n 12, true)], .pre 5 [.n 6, .n 7]⟩,
  ⟨[(.n 244, true), (.n 398, true), (.n 241, true), (.n 330, true), (.n 314, true), (.n 12, true)], .pre 6 [.n 6, .n 7]⟩,
  ⟨[(.n 244, true), (.n 398, true), (.n 241, true), (.n 330, true), (.n 314, true), (.n 12, true)], .pre 5 [.n 8, .n 9]⟩,
  ⟨[(.n 244, true), (.n 398, true), (.n 241, true), (.n 330, true), (.n 314, true), (.n 12, true)], .pre 6 [.n 8, .n 9]⟩,
  ⟨[(.n 244, true), (.n 398, true), (.n 241, true), (.n 330, true), (.n 314, true), (.n 12, true)], .pre 0 [.n 2, .n 3, .n 38, .n 39]⟩,
  ⟨[(.n 244, true), (.n 398, true), (.n 241, true), (.n 330, true), (.n 314, true), (.n 12, true)], .pre 0 [.n 0, .n 1, .n 50, .n 51]⟩,
  ⟨[(.n 244, true), (.n 398, true), (.n 241, true), (.n 330, true), (.n 314, true), (.n 12, true)], .pre 2 [.n 402, .n 403, .n 409, .n 410]⟩,
  ⟨[(.n 244, true), (.n 398, true), (.n 241, true), (.n 330, true), (.n 314, true), (.n 12, true)], .pre 0 [.n 0, .n 1, .n 38, .n 39]⟩,
  ⟨[(.n 244, true), (.n 398, true), (.n 241, true), (.n 330, true), (.n 314, true), (.n 12, true)], .pre 0 [.n 2, .n 3, .n 50, .n 51]⟩,
  ⟨[(.n 244, true), (.n 398, true), (.n 241, true), (.n 330, true), (.n 314, true), (.n 12, true)], .pre 1 [.n 426, .n 427, .n 433, .n 434]⟩,
  ⟨[(.n 244, true), (.n 398, true), (.n 241, true), (.n 330, true), (.n 314, true), (.n 12, true)], .pre 0 [.n 4, .n 5, .n 35, .n 36]⟩,
  ⟨[(.n 244, true), (.n 398, true), (.n 241, true), (.n 330, true), (.n 314, true), (.n 12, true)], .pre 0 [.n 443, .n 444, .n 62, .n 63]⟩,
  ⟨[(.n 244, true), (.n 398, true), (.n 241, true), (.n 330, true), (.n 314, true), (.n 12, true)], .pre 2 [.n 450, .n 451, .n 460, .n 461]⟩,
  ⟨[(.n 244, true), (.n 398, true), (.n 241, true), (.n 330, true), (.n 314, true), (.n 12, true)], .pre 0 [.n 4, .n 5, .n 62, .n 63]⟩,
  ⟨[(.n 244, true), (.n 398, true), (.n 241, true), (.n 330, true), (.n 314, true), (.n 12, true)], .pre 0 [.n 443, .n 444, .n 35, .n 36]⟩,
  ⟨[(.n 244, true), (.n 398, true), (.n 241, true), (.n 330, true), (.n 314, true), (.n 12, true)], .pre 1 [.n 477, .n 478, .n 487, .n 488]⟩]
theorem wh_of : whole Tryz.prog spOf 20 30 5 [(true, [some .i64, some .i64, some .i64, some .i64, some .i64, some .i64]), (true, [some .i64, some .i64]), (true, [some .i64, some .i64])] = some (.p (.c (.bool (.n 529))), ⟨nd_of.reverse, vc_of.reverse⟩) := by kernel_rfl
theorem wf_of : wfN nd_of.reverse = true := by kernel_rfl
set_option maxRecDepth 100000 in
set_option maxHeartbeats 40000000 in
theorem c_lawOf (x1 x2 y1 y2 z1 z2 a1 a2 b1 b2 : Int) (w : World) : Calls Tryz.prog 5 #[.agg #[.int .i64 x1, .int .i64 x2, .int .i64 y1, .int .i64 y2, .int .i64 z1, .int .i64 z2], .agg #[.int .i64 a1, .int .i64 a2], .agg #[.int .i64 b1, .int .i64 b2]] w fun e w' => e = .returned (.bool true) ∧ Below w.heap.size w w' := by
  refine Sx.calls (X := cxB [x1, x2, y1, y2, z1, z2, a1, a2, b1, b2]) hmix (spOf_ok _) wh_of wf_of (fun v hs => ?_) w
  have e13 : v 13 = b2i (decide (v 6 ≤ v 7)) := satF hs 13 rfl
  have e14 : v 14 = b2i (decide (v 6 ≥ (-1099511627776 : Int))) := satF hs 14 rfl
  have e15 : v 15 = b2i (decide (v 6 ≤ (1099511627776 : Int))) := satF hs 15 rfl
  have e16 : v 16 = if v 14 ≠ 0 then v 15 else (0 : Int) := satF hs 16 rfl
  have e17 : v 17 = if v 13 ≠ 0 then v 16 else (0 : Int) := satF hs 17 rfl
  have e18 : v 18 = b2i (decide (v 7 ≥ (-1099511627776 : Int))) := satF hs 18 rfl
  have e19 : v 19 = b2i (decide (v 7 ≤ (1099511627776 : Int))) := satF hs 19 rfl
  have e20 : v 20 = if v 18 ≠ 0 then v 19 else (0 : Int) := satF hs 20 rfl
  have e21 : v 21 = if v 17 ≠ 0 then v 20 else (0 : Int) := satF hs 21 rfl
  have e22 : v 22 = if v 21 ≠ 0 then (0 : Int) else (1 : Int) := satF hs 22 rfl
  have e23 : v 23 = b2i (decide (v 8 ≤ v 9)) := satF hs 23 rfl
  have e24 : v 24 = b2i (decide (v 8 ≥ (-1099511627776 : Int))) := satF hs 24 rfl
  have e25 : v 25 = b2i (decide (v 8 ≤ (1099511627776 : Int))) := satF hs 25 rfl
  have e26 : v 26 = if v 24 ≠ 0 then v 25 else (0 : Int) := satF hs 26 rfl
  have e27 : v 27 = if v 23 ≠ 0 then v 26 else (0 : Int) := satF hs 27 rfl
  have e28 : v 28 = b2i (decide (v 9 ≥ (-1099511627776 : Int))) := satF hs 28 rfl
  have e29 : v 29 = b2i (decide (v 9 ≤ (1099511627776 : Int))) := satF hs 29 rfl
  have e30 : v 30 = if v 28 ≠ 0 then v 29 else (0 : Int) := satF hs 30 rfl
  have e31 : v 31 = if v 27 ≠ 0 then v 30 else (0 : Int) := satF hs 31 rfl
  have e32 : v 32 = if v 31 ≠ 0 then (0 : Int) else (1 : Int) := satF hs 32 rfl
  have e33 : v 33 = if v 22 ≠ 0 then (1 : Int) else v 32 := satF hs 33 rfl
  have e34 : v 34 = if v 33 ≠ 0 then (0 : Int) else (1 : Int) := satF hs 34 rfl
  have e84 : v 84 = b2i (fxV (v 0) (v 1)) := satF hs 84 rfl
  have e85 : v 85 = b2i (fxV (v 2) (v 3)) := satF hs 85 rfl
  have e86 : v 86 = if v 84 ≠ 0 then v 85 else (0 : Int) := satF hs 86 rfl
  have e87 : v 87 = b2i (fxV (v 4) (v 5)) := satF hs 87 rfl
  have e88 : v 88 = if v 86 ≠ 0 then v 87 else (0 : Int) := satF hs 88 rfl
  have e89 : v 89 = if v 88 ≠ 0 then (0 : Int) else (1 : Int) := satF hs 89 rfl
  have e90 : v 90 = if v 89 ≠ 0 then (1 : Int) else v 22 := satF hs 90 rfl
  have e91 : v 91 = if v 90 ≠ 0 then (0 : Int) else (1 : Int) := satF hs 91 rfl
  have e145 : v 145 = if v 90 ≠ 0 then (1 : Int) else v 32 := satF hs 145 rfl
  have e146 : v 146 = if v 145 ≠ 0 then (0 : Int) else (1 : Int) := satF hs 146 rfl
  have e240 : v 240 = if v 13 ≠ 0 then v 14 else (0 : Int) := satF hs 240 rfl
  have e241 : v 241 = if v 240 ≠ 0 then v 19 else (0 : Int) := satF hs 241 rfl
  have e242 : v 242 = if v 23 ≠ 0 then v 24 else (0 : Int) := satF hs 242 rfl
  have e243 : v 243 = if v 242 ≠ 0 then v 29 else (0 : Int) := satF hs 243 rfl
  have e244 : v 244 = if v 241 ≠ 0 then v 243 else (0 : Int) := satF hs 244 rfl
  have e245 : v 245 = if v 244 ≠ 0 then (0 : Int) else (1 : Int) := satF hs 245 rfl
  have e330 : v 330 = if v 89 ≠ 0 then (0 : Int) else (1 : Int) := satF hs 330 rfl
  have A21 : v 21 = b2i (arcV (v 6) (v 7)) := by
    rw [e21, e17, e20, e16, e18, e19, e13, e14, e15]; exact arc_prog _ _
  have A31 : v 31 = b2i (arcV (v 8) (v 9)) := by
    rw [e31, e27, e30, e26, e28, e29, e23, e24, e25]; exact arc_prog _ _
  have A241 : v 241 = b2i (arcV (v 6) (v 7)) := by
    rw [e241, e240, e19, e13, e14]; exact arc_ref _ _
  have A243 : v 243 = b2i (arcV (v 8) (v 9)) := by
    rw [e243, e242, e29, e23, e24]; exact arc_ref _ _
  have Q88 : v 88 = b2i (fxV (v 0) (v 1) && fxV (v 2) (v 3) && fxV (v 4) (v 5)) := by
    rw [e88, e86, e87, e85, e84]
    generalize fxV (v 0) (v 1) = q0; generalize fxV (v 2) (v 3) = q1; generalize fxV (v 4) (v 5) = q2
    revert q0 q1 q2; decide
  clear e13 e14 e15 e16 e17 e18 e19 e20 e23 e24 e25 e26 e27 e28 e29 e30 e240 e242
  have H34 : v 34 ≠ 0 → arcV (v 6) (v 7) = true ∧ arcV (v 8) (v 9) = true := by
    rw [e34, e33, e32, e22, A31, A21]
    generalize fxV (v 0) (v 1) = q0; generalize fxV (v 2) (v 3) = q1; generalize fxV (v 4) (v 5) = q2; generalize arcV (v 6) (v 7) = a; generalize arcV (v 8) (v 9) = b
    revert q0 q1 q2 a b; decide
  have H91 : v 91 ≠ 0 → (fxV (v 0) (v 1) = true ∧ fxV (v 2) (v 3) = true ∧ fxV (v 4) (v 5) = true) ∧ arcV (v 6) (v 7) = true := by
    rw [e91, e90, e89, e22, Q88, A21]
    generalize fxV (v 0) (v 1) = q0; generalize fxV (v 2) (v 3) = q1; generalize fxV (v 4) (v 5) = q2; generalize arcV (v 6) (v 7) = a; generalize arcV (v 8) (v 9) = b
    revert q0 q1 q2 a b; decide
  have H146 : v 146 ≠ 0 → (fxV (v 0) (v 1) = true ∧ fxV (v 2) (v 3) = true ∧ fxV (v 4) (v 5) = true) ∧ arcV (v 6) (v 7) = true ∧ arcV (v 8) (v 9) = true := by
    rw [e146, e145, e90, e89, e32, e22, Q88, A31, A21]
    generalize fxV (v 0) (v 1) = q0; generalize fxV (v 2) (v 3) = q1; generalize fxV (v 4) (v 5) = q2; generalize arcV (v 6) (v 7) = a; generalize arcV (v 8) (v 9) = b
    revert q0 q1 q2 a b; decide
  have H245 : v 245 = 0 → arcV (v 6) (v 7) = true ∧ arcV (v 8) (v 9) = true := by
    rw [e245, e244, A241, A243]
    generalize fxV (v 0) (v 1) = q0; generalize fxV (v 2) (v 3) = q1; generalize fxV (v 4) (v 5) = q2; generalize arcV (v 6) (v 7) = a; generalize arcV (v 8) (v 9) = b
    revert q0 q1 q2 a b; decide
  have H241 : v 241 ≠ 0 → arcV (v 6) (v 7) = true := by
    rw [A241]
    generalize fxV (v 0) (v 1) = q0; generalize fxV (v 2) (v 3) = q1; generalize fxV (v 4) (v 5) = q2; generalize arcV (v 6) (v 7) = a; generalize arcV (v 8) (v 9) = b
    revert q0 q1 q2 a b; decide
  have H244 : v 244 ≠ 0 → arcV (v 6) (v 7) = true ∧ arcV (v 8) (v 9) = true := by
    rw [e244, A241, A243]
    generalize fxV (v 0) (v 1) = q0; generalize fxV (v 2) (v 3) = q1; generalize fxV (v 4) (v 5) = q2; generalize arcV (v 6) (v 7) = a; generalize arcV (v 8) (v 9) = b
    revert q0 q1 q2 a b; decide
  have H330 : v 330 ≠ 0 → (fxV (v 0) (v 1) = true ∧ fxV (v 2) (v 3) = true ∧ fxV (v 4) (v 5) = true) := by
    rw [e330, e89, Q88]
    generalize fxV (v 0) (v 1) = q0; generalize fxV (v 2) (v 3) = q1; generalize fxV (v 4) (v 5) = q2; generalize arcV (v 6) (v 7) = a; generalize arcV (v 8) (v 9) = b
    revert q0 q1 q2 a b; decide
  have e35 : v 35 = (semB 6 [v 6, v 7]).getD 0 0 := satF hs 35 rfl
  have e36 : v 36 = (semB 6 [v 6, v 7]).getD 1 0 := satF hs 36 rfl
  have e38 : v 38 = (semB 6 [v 8, v 9]).getD 0 0 := satF hs 38 rfl
  have e39 : v 39 = (semB 6 [v 8, v 9]).getD 1 0 := satF hs 39 rfl
  have e50 : v 50 = (semB 5 [v 8, v 9]).getD 0 0 := satF hs 50 rfl
  have e51 : v 51 = (semB 5 [v 8, v 9]).getD 1 0 := satF hs 51 rfl
  have e62 : v 62 = (semB 5 [v 6, v 7]).getD 0 0 := satF hs 62 rfl
  have e63 : v 63 = (semB 5 [v 6, v 7]).getD 1 0 := satF hs 63 rfl
  have e93 : v 93 = (semB 0 [v 0, v 1, v 35, v 36]).getD 0 0 := satF hs 93 rfl
  have e94 : v 94 = (semB 0 [v 0, v 1, v 35, v 36]).getD 1 0 := satF hs 94 rfl
  have e95 : v 95 = (semB 0 [v 0, v 1, v 35, v 36]).getD 2 0 := satF hs 95 rfl
  have e99 : v 99 = (semB 0 [v 2, v 3, v 62, v 63]).getD 0 0 := satF hs 99 rfl
  have e100 : v 100 = (semB 0 [v 2, v 3, v 62, v 63]).getD 1 0 := satF hs 100 rfl
  have e101 : v 101 = (semB 0 [v 2, v 3, v 62, v 63]).getD 2 0 := satF hs 101 rfl
  have e111 : v 111 = (semB 0 [v 0, v 1, v 62, v 63]).getD 0 0 := satF hs 111 rfl
  have e112 : v 112 = (semB 0 [v 0, v 1, v 62, v 63]).getD 1 0 := satF hs 112 rfl
  have e113 : v 113 = (semB 0 [v 0, v 1, v 62, v 63]).getD 2 0 := satF hs 113 rfl
  have e117 : v 117 = (semB 0 [v 2, v 3, v 35, v 36]).getD 0 0 := satF hs 117 rfl
  have e118 : v 118 = (semB 0 [v 2, v 3, v 35, v 36]).getD 1 0 := satF hs 118 rfl
  have e119 : v 119 = (semB 0 [v 2, v 3, v 35, v 36]).getD 2 0 := satF hs 119 rfl
  have e151 : v 151 = (semB 0 [v 2, v 3, v 38, v 39]).getD 0 0 := satF hs 151 rfl
  have e152 : v 152 = (semB 0 [v 2, v 3, v 38, v 39]).getD 1 0 := satF hs 152 rfl
  have e153 : v 153 = (semB 0 [v 2, v 3, v 38, v 39]).getD 2 0 := satF hs 153 rfl
  have e157 : v 157 = (semB 0 [v 0, v 1, v 50, v 51]).getD 0 0 := satF hs 157 rfl
  have e158 : v 158 = (semB 0 [v 0, v 1, v 50, v 51]).getD 1 0 := satF hs 158 rfl
  have e159 : v 159 = (semB 0 [v 0, v 1, v 50, v 51]).getD 2 0 := satF hs 159 rfl
  have e169 : v 169 = (semB 0 [v 0, v 1, v 38, v 39]).getD 0 0 := satF hs 169 rfl
  have e170 : v 170 = (semB 0 [v 0, v 1, v 38, v 39]).getD 1 0 := satF hs 170 rfl
  have e171 : v 171 = (semB 0 [v 0, v 1, v 38, v 39]).getD 2 0 := satF hs 171 rfl
  have e175 : v 175 = (semB 0 [v 2, v 3, v 50, v 51]).getD 0 0 := satF hs 175 rfl
  have e176 : v 176 = (semB 0 [v 2, v 3, v 50, v 51]).getD 1 0 := satF hs 176 rfl
  have e177 : v 177 = (semB 0 [v 2, v 3, v 50, v 51]).getD 2 0 := satF hs 177 rfl
  have e181 : v 181 = (semB 1 [v 169, v 170, v 175, v 176]).getD 0 0 := satF hs 181 rfl
  have e182 : v 182 = (semB 1 [v 169, v 170, v 175, v 176]).getD 1 0 := satF hs 182 rfl
  have e183 : v 183 = (semB 1 [v 169, v 170, v 175, v 176]).getD 2 0 := satF hs 183 rfl
  have e187 : v 187 = (semB 0 [v 4, v 5, v 35, v 36]).getD 0 0 := satF hs 187 rfl
  have e188 : v 188 = (semB 0 [v 4, v 5, v 35, v 36]).getD 1 0 := satF hs 188 rfl
  have e189 : v 189 = (semB 0 [v 4, v 5, v 35, v 36]).getD 2 0 := satF hs 189 rfl
  have e193 : v 193 = (semB 0 [v 181, v 182, v 62, v 63]).getD 0 0 := satF hs 193 rfl
  have e194 : v 194 = (semB 0 [v 181, v 182, v 62, v 63]).getD 1 0 := satF hs 194 rfl
  have e195 : v 195 = (semB 0 [v 181, v 182, v 62, v 63]).getD 2 0 := satF hs 195 rfl
  have e205 : v 205 = (semB 0 [v 4, v 5, v 62, v 63]).getD 0 0 := satF hs 205 rfl
  have e206 : v 206 = (semB 0 [v 4, v 5, v 62, v 63]).getD 1 0 := satF hs 206 rfl
  have e207 : v 207 = (semB 0 [v 4, v 5, v 62, v 63]).getD 2 0 := satF hs 207 rfl
  have e211 : v 211 = (semB 0 [v 181, v 182, v 35, v 36]).getD 0 0 := satF hs 211 rfl
  have e212 : v 212 = (semB 0 [v 181, v 182, v 35, v 36]).getD 1 0 := satF hs 212 rfl
  have e213 : v 213 = (semB 0 [v 181, v 182, v 35, v 36]).getD 2 0 := satF hs 213 rfl
  have e332 : v 332 = b2i (v 95 != (0 : Int)) := satF hs 332 rfl
  have e334 : v 334 = if v 332 ≠ 0 then (0 : Int) else v 93 := satF hs 334 rfl
  have f334 : v 334 = v 93 := e334.trans (fit_ite e332 (fun q => e93.trans ((sem_fit0 _ _ _ _ (fun u => q (e95.trans u))).1)))
  have e335 : v 335 = if v 332 ≠ 0 then (0 : Int) else v 94 := satF hs 335 rfl
  have f335 : v 335 = v 94 := e335.trans (fit_ite e332 (fun q => e94.trans ((sem_fit0 _ _ _ _ (fun u => q (e95.trans u))).2)))
  have e339 : v 339 = b2i (v 101 != (0 : Int)) := satF hs 339 rfl
  have e341 : v 341 = if v 339 ≠ 0 then (0 : Int) else v 99 := satF hs 341 rfl
  have f341 : v 341 = v 99 := e341.trans (fit_ite e339 (fun q => e99.trans ((sem_fit0 _ _ _ _ (fun u => q (e101.trans u))).1)))
  have e342 : v 342 = if v 339 ≠ 0 then (0 : Int) else v 100 := satF hs 342 rfl
  have f342 : v 342 = v 100 := e342.trans (fit_ite e339 (fun q => e100.trans ((sem_fit0 _ _ _ _ (fun u => q (e101.trans u))).2)))
  have e356 : v 356 = b2i (v 113 != (0 : Int)) := satF hs 356 rfl
  have e358 : v 358 = if v 356 ≠ 0 then (0 : Int) else v 111 := satF hs 358 rfl
  have f358 : v 358 = v 111 := e358.trans (fit_ite e356 (fun q => e111.trans ((sem_fit0 _ _ _ _ (fun u => q (e113.trans u))).1)))
  have e359 : v 359 = if v 356 ≠ 0 then (0 : Int) else v 112 := satF hs 359 rfl
  have f359 : v 359 = v 112 := e359.trans (fit_ite e356 (fun q => e112.trans ((sem_fit0 _ _ _ _ (fun u => q (e113.trans u))).2)))
  have e363 : v 363 = b2i (v 119 != (0 : Int)) := satF hs 363 rfl
  have e365 : v 365 = if v 363 ≠ 0 then (0 : Int) else v 117 := satF hs 365 rfl
  have f365 : v 365 = v 117 := e365.trans (fit_ite e363 (fun q => e117.trans ((sem_fit0 _ _ _ _ (fun u => q (e119.trans u))).1)))
  have e366 : v 366 = if v 363 ≠ 0 then (0 : Int) else v 118 := satF hs 366 rfl
  have f366 : v 366 = v 118 := e366.trans (fit_ite e363 (fun q => e118.trans ((sem_fit0 _ _ _ _ (fun u => q (e119.trans u))).2)))
  have e400 : v 400 = b2i (v 153 != (0 : Int)) := satF hs 400 rfl
  have e402 : v 402 = if v 400 ≠ 0 then (0 : Int) else v 151 := satF hs 402 rfl
  have f402 : v 402 = v 151 := e402.trans (fit_ite e400 (fun q => e151.trans ((sem_fit0 _ _ _ _ (fun u => q (e153.trans u))).1)))
  have e403 : v 403 = if v 400 ≠ 0 then (0 : Int) else v 152 := satF hs 403 rfl
  have f403 : v 403 = v 152 := e403.trans (fit_ite e400 (fun q => e152.trans ((sem_fit0 _ _ _ _ (fun u => q (e153.trans u))).2)))
  have e407 : v 407 = b2i (v 159 != (0 : Int)) := satF hs 407 rfl
  have e409 : v 409 = if v 407 ≠ 0 then (0 : Int) else v 157 := satF hs 409 rfl
  have f409 : v 409 = v 157 := e409.trans (fit_ite e407 (fun q => e157.trans ((sem_fit0 _ _ _ _ (fun u => q (e159.trans u))).1)))
  have e410 : v 410 = if v 407 ≠ 0 then (0 : Int) else v 158 := satF hs 410 rfl
  have f410 : v 410 = v 158 := e410.trans (fit_ite e407 (fun q => e158.trans ((sem_fit0 _ _ _ _ (fun u => q (e159.trans u))).2)))
  have e424 : v 424 = b2i (v 171 != (0 : Int)) := satF hs 424 rfl
  have e426 : v 426 = if v 424 ≠ 0 then (0 : Int) else v 169 := satF hs 426 rfl
  have f426 : v 426 = v 169 := e426.trans (fit_ite e424 (fun q => e169.trans ((sem_fit0 _ _ _ _ (fun u => q (e171.trans u))).1)))
  have e427 : v 427 = if v 424 ≠ 0 then (0 : Int) else v 170 := satF hs 427 rfl
  have f427 : v 427 = v 170 := e427.trans (fit_ite e424 (fun q => e170.trans ((sem_fit0 _ _ _ _ (fun u => q (e171.trans u))).2)))
  have e431 : v 431 = b2i (v 177 != (0 : Int)) := satF hs 431 rfl
  have e433 : v 433 = if v 431 ≠ 0 then (0 : Int) else v 175 := satF hs 433 rfl
  have f433 : v 433 = v 175 := e433.trans (fit_ite e431 (fun q => e175.trans ((sem_fit0 _ _ _ _ (fun u => q (e177.trans u))).1)))
  have e434 : v 434 = if v 431 ≠ 0 then (0 : Int) else v 176 := satF hs 434 rfl
  have f434 : v 434 = v 176 := e434.trans (fit_ite e431 (fun q => e176.trans ((sem_fit0 _ _ _ _ (fun u => q (e177.trans u))).2)))
  have e435 : v 435 = (semB 1 [v 426, v 427, v 433, v 434]).getD 0 0 := satF hs 435 rfl
  have n435 : v 435 = (semB 1 [v 169, v 170, v 175, v 176]).getD 0 0 := e435.trans (by rw [f426, f427, f433, f434])
  have f435 : v 435 = v 181 := n435.trans e181.symm
  have e436 : v 436 = (semB 1 [v 426, v 427, v 433, v 434]).getD 1 0 := satF hs 436 rfl
  have n436 : v 436 = (semB 1 [v 169, v 170, v 175, v 176]).getD 1 0 := e436.trans (by rw [f426, f427, f433, f434])
  have f436 : v 436 = v 182 := n436.trans e182.symm
  have e437 : v 437 = (semB 1 [v 426, v 427, v 433, v 434]).getD 2 0 := satF hs 437 rfl
  have n437 : v 437 = (semB 1 [v 169, v 170, v 175, v 176]).getD 2 0 := e437.trans (by rw [f426, f427, f433, f434])
  have f437 : v 437 = v 183 := n437.trans e183.symm
  have e441 : v 441 = b2i (v 437 != (0 : Int)) := satF hs 441 rfl
  have n441 : v 441 = b2i (v 183 != (0 : Int)) := e441.trans (by rw [f437])
  have e443 : v 443 = if v 441 ≠ 0 then (0 : Int) else v 435 := satF hs 443 rfl
  have n443 : v 443 = if v 441 ≠ 0 then (0 : Int) else v 181 := e443.trans (by rw [f435])
  have f443 : v 443 = v 181 := n443.trans (fit_ite n441 (fun q => e181.trans ((sem_fit1 _ _ _ _ (fun u => q (e183.trans u))).1)))
  have e444 : v 444 = if v 441 ≠ 0 then (0 : Int) else v 436 := satF hs 444 rfl
  have n444 : v 444 = if v 441 ≠ 0 then (0 : Int) else v 182 := e444.trans (by rw [f436])
  have f444 : v 444 = v 182 := n444.trans (fit_ite n441 (fun q => e182.trans ((sem_fit1 _ _ _ _ (fun u => q (e183.trans u))).2)))
  have e448 : v 448 = b2i (v 189 != (0 : Int)) := satF hs 448 rfl
  have e450 : v 450 = if v 448 ≠ 0 then (0 : Int) else v 187 := satF hs 450 rfl
  have f450 : v 450 = v 187 := e450.trans (fit_ite e448 (fun q => e187.trans ((sem_fit0 _ _ _ _ (fun u => q (e189.trans u))).1)))
  have e451 : v 451 = if v 448 ≠ 0 then (0 : Int) else v 188 := satF hs 451 rfl
  have f451 : v 451 = v 188 := e451.trans (fit_ite e448 (fun q => e188.trans ((sem_fit0 _ _ _ _ (fun u => q (e189.trans u))).2)))
  have e452 : v 452 = (semB 0 [v 443, v 444, v 62, v 63]).getD 0 0 := satF hs 452 rfl
  have n452 : v 452 = (semB 0 [v 181, v 182, v 62, v 63]).getD 0 0 := e452.trans (by rw [f443, f444])
  have f452 : v 452 = v 193 := n452.trans e193.symm
  have e453 : v 453 = (semB 0 [v 443, v 444, v 62, v 63]).getD 1 0 := satF hs 453 rfl
  have n453 : v 453 = (semB 0 [v 181, v 182, v 62, v 63]).getD 1 0 := e453.trans (by rw [f443, f444])
  have f453 : v 453 = v 194 := n453.trans e194.symm
  have e454 : v 454 = (semB 0 [v 443, v 444, v 62, v 63]).getD 2 0 := satF hs 454 rfl
  have n454 : v 454 = (semB 0 [v 181, v 182, v 62, v 63]).getD 2 0 := e454.trans (by rw [f443, f444])
  have f454 : v 454 = v 195 := n454.trans e195.symm
  have e458 : v 458 = b2i (v 454 != (0 : Int)) := satF hs 458 rfl
  have n458 : v 458 = b2i (v 195 != (0 : Int)) := e458.trans (by rw [f454])
  have e460 : v 460 = if v 458 ≠ 0 then (0 : Int) else v 452 := satF hs 460 rfl
  have n460 : v 460 = if v 458 ≠ 0 then (0 : Int) else v 193 := e460.trans (by rw [f452])
  have f460 : v 460 = v 193 := n460.trans (fit_ite n458 (fun q => e193.trans ((sem_fit0 _ _ _ _ (fun u => q (e195.trans u))).1)))
  have e461 : v 461 = if v 458 ≠ 0 then (0 : Int) else v 453 := satF hs 461 rfl
  have n461 : v 461 = if v 458 ≠ 0 then (0 : Int) else v 194 := e461.trans (by rw [f453])
  have f461 : v 461 = v 194 := n461.trans (fit_ite n458 (fun q => e194.trans ((sem_fit0 _ _ _ _ (fun u => q (e195.trans u))).2)))
  have e475 : v 475 = b2i (v 207 != (0 : Int)) := satF hs 475 rfl
  have e477 : v 477 = if v 475 ≠ 0 then (0 : Int) else v 205 := satF hs 477 rfl
  have f477 : v 477 = v 205 := e477.trans (fit_ite e475 (fun q => e205.trans ((sem_fit0 _ _ _ _ (fun u => q (e207.trans u))).1)))
  have e478 : v 478 = if v 475 ≠ 0 then (0 : Int) else v 206 := satF hs 478 rfl
  have f478 : v 478 = v 206 := e478.trans (fit_ite e475 (fun q => e206.trans ((sem_fit0 _ _ _ _ (fun u => q (e207.trans u))).2)))
  have e479 : v 479 = (semB 0 [v 443, v 444, v 35, v 36]).getD 0 0 := satF hs 479 rfl
  have n479 : v 479 = (semB 0 [v 181, v 182, v 35, v 36]).getD 0 0 := e479.trans (by rw [f443, f444])
  have f479 : v 479 = v 211 := n479.trans e211.symm
  have e480 : v 480 = (semB 0 [v 443, v 444, v 35, v 36]).getD 1 0 := satF hs 480 rfl
  have n480 : v 480 = (semB 0 [v 181, v 182, v 35, v 36]).getD 1 0 := e480.trans (by rw [f443, f444])
  have f480 : v 480 = v 212 := n480.trans e212.symm
  have e481 : v 481 = (semB 0 [v 443, v 444, v 35, v 36]).getD 2 0 := satF hs 481 rfl
  have n481 : v 481 = (semB 0 [v 181, v 182, v 35, v 36]).getD 2 0 := e481.trans (by rw [f443, f444])
  have f481 : v 481 = v 213 := n481.trans e213.symm
  have e485 : v 485 = b2i (v 481 != (0 : Int)) := satF hs 485 rfl
  have n485 : v 485 = b2i (v 213 != (0 : Int)) := e485.trans (by rw [f481])
  have e487 : v 487 = if v 485 ≠ 0 then (0 : Int) else v 479 := satF hs 487 rfl
  have n487 : v 487 = if v 485 ≠ 0 then (0 : Int) else v 211 := e487.trans (by rw [f479])
  have f487 : v 487 = v 211 := n487.trans (fit_ite n485 (fun q => e211.trans ((sem_fit0 _ _ _ _ (fun u => q (e213.trans u))).1)))
  have e488 : v 488 = if v 485 ≠ 0 then (0 : Int) else v 480 := satF hs 488 rfl
  have n488 : v 488 = if v 485 ≠ 0 then (0 : Int) else v 212 := e488.trans (by rw [f480])
  have f488 : v 488 = v 212 := n488.trans (fit_ite n485 (fun q => e212.trans ((sem_fit0 _ _ _ _ (fun u => q (e213.trans u))).2)))
  have e10 : v 10 = (semB 20 []).getD 0 0 := satF hs 10 rfl
  have e11 : v 11 = if v 10 ≠ 0 then (0 : Int) else (1 : Int) := satF hs 11 rfl
  have e37 : v 37 = (semB 6 [v 6, v 7]).getD 2 0 := satF hs 37 rfl
  have e40 : v 40 = (semB 6 [v 8, v 9]).getD 2 0 := satF hs 40 rfl
  have e41 : v 41 = b2i (v 37 == (0 : Int)) := satF hs 41 rfl
  have e43 : v 43 = if v 41 ≠ 0 then v 40 else v 37 := satF hs 43 rfl
  have e44 : v 44 = (semB 0 [v 35, v 36, v 38, v 39]).getD 0 0 := satF hs 44 rfl
  have e45 : v 45 = (semB 0 [v 35, v 36, v 38, v 39]).getD 1 0 := satF hs 45 rfl
  have e46 : v 46 = (semB 0 [v 35, v 36, v 38, v 39]).getD 2 0 := satF hs 46 rfl
  have e47 : v 47 = b2i (v 43 == (0 : Int)) := satF hs 47 rfl
  have e49 : v 49 = if v 47 ≠ 0 then v 46 else v 43 := satF hs 49 rfl
  have e52 : v 52 = (semB 5 [v 8, v 9]).getD 2 0 := satF hs 52 rfl
  have e53 : v 53 = b2i (v 49 == (0 : Int)) := satF hs 53 rfl
  have e55 : v 55 = if v 53 ≠ 0 then v 52 else v 49 := satF hs 55 rfl
  have e56 : v 56 = (semB 0 [v 35, v 36, v 50, v 51]).getD 0 0 := satF hs 56 rfl
  have e57 : v 57 = (semB 0 [v 35, v 36, v 50, v 51]).getD 1 0 := satF hs 57 rfl
  have e58 : v 58 = (semB 0 [v 35, v 36, v 50, v 51]).getD 2 0 := satF hs 58 rfl
  have e59 : v 59 = b2i (v 55 == (0 : Int)) := satF hs 59 rfl
  have e61 : v 61 = if v 59 ≠ 0 then v 58 else v 55 := satF hs 61 rfl
  have e64 : v 64 = (semB 5 [v 6, v 7]).getD 2 0 := satF hs 64 rfl
  have e65 : v 65 = b2i (v 61 == (0 : Int)) := satF hs 65 rfl
  have e67 : v 67 = if v 65 ≠ 0 then v 64 else v 61 := satF hs 67 rfl
  have e68 : v 68 = b2i (v 67 != (0 : Int)) := satF hs 68 rfl
  have e70 : v 70 = if v 68 ≠ 0 then v 67 else (0 : Int) := satF hs 70 rfl
  have e71 : v 71 = if v 68 ≠ 0 then (0 : Int) else v 44 := satF hs 71 rfl
  have e72 : v 72 = if v 68 ≠ 0 then (0 : Int) else v 45 := satF hs 72 rfl
  have e73 : v 73 = if v 68 ≠ 0 then (0 : Int) else v 56 := satF hs 73 rfl
  have e74 : v 74 = if v 68 ≠ 0 then (0 : Int) else v 57 := satF hs 74 rfl
  have e75 : v 75 = if v 68 ≠ 0 then (0 : Int) else v 62 := satF hs 75 rfl
  have e76 : v 76 = if v 68 ≠ 0 then (0 : Int) else v 63 := satF hs 76 rfl
  have e77 : v 77 = if v 33 ≠ 0 then (1 : Int) else v 70 := satF hs 77 rfl
  have e78 : v 78 = if v 33 ≠ 0 then (0 : Int) else v 71 := satF hs 78 rfl
  have e79 : v 79 = if v 33 ≠ 0 then (0 : Int) else v 72 := satF hs 79 rfl
  have e80 : v 80 = if v 33 ≠ 0 then (0 : Int) else v 73 := satF hs 80 rfl
  have e81 : v 81 = if v 33 ≠ 0 then (0 : Int) else v 74 := satF hs 81 rfl
  have e82 : v 82 = if v 33 ≠ 0 then (0 : Int) else v 75 := satF hs 82 rfl
  have e83 : v 83 = if v 33 ≠ 0 then (0 : Int) else v 76 := satF hs 83 rfl
  have e92 : v 92 = if v 41 ≠ 0 then v 64 else v 37 := satF hs 92 rfl
  have e96 : v 96 = b2i (v 92 == (0 : Int)) := satF hs 96 rfl
  have e98 : v 98 = if v 96 ≠ 0 then v 95 else v 92 := satF hs 98 rfl
  have e102 : v 102 = b2i (v 98 == (0 : Int)) := satF hs 102 rfl
  have e104 : v 104 = if v 102 ≠ 0 then v 101 else v 98 := satF hs 104 rfl
  have e105 : v 105 = (semB 2 [v 93, v 94, v 99, v 100]).getD 0 0 := satF hs 105 rfl
  have e106 : v 106 = (semB 2 [v 93, v 94, v 99, v 100]).getD 1 0 := satF hs 106 rfl
  have e107 : v 107 = (semB 2 [v 93, v 94, v 99, v 100]).getD 2 0 := satF hs 107 rfl
  have e108 : v 108 = b2i (v 104 == (0 : Int)) := satF hs 108 rfl
  have e110 : v 110 = if v 108 ≠ 0 then v 107 else v 104 := satF hs 110 rfl
  have e114 : v 114 = b2i (v 110 == (0 : Int)) := satF hs 114 rfl
  have e116 : v 116 = if v 114 ≠ 0 then v 113 else v 110 := satF hs 116 rfl
  have e120 : v 120 = b2i (v 116 == (0 : Int)) := satF hs 120 rfl
  have e122 : v 122 = if v 120 ≠ 0 then v 119 else v 116 := satF hs 122 rfl
  have e123 : v 123 = (semB 1 [v 111, v 112, v 117, v 118]).getD 0 0 := satF hs 123 rfl
  have e124 : v 124 = (semB 1 [v 111, v 112, v 117, v 118]).getD 1 0 := satF hs 124 rfl
  have e125 : v 125 = (semB 1 [v 111, v 112, v 117, v 118]).getD 2 0 := satF hs 125 rfl
  have e126 : v 126 = b2i (v 122 == (0 : Int)) := satF hs 126 rfl
  have e128 : v 128 = if v 126 ≠ 0 then v 125 else v 122 := satF hs 128 rfl
  have e129 : v 129 = b2i (v 128 != (0 : Int)) := satF hs 129 rfl
  have e131 : v 131 = if v 129 ≠ 0 then v 128 else (0 : Int) := satF hs 131 rfl
  have e132 : v 132 = if v 129 ≠ 0 then (0 : Int) else v 105 := satF hs 132 rfl
  have e133 : v 133 = if v 129 ≠ 0 then (0 : Int) else v 106 := satF hs 133 rfl
  have e134 : v 134 = if v 129 ≠ 0 then (0 : Int) else v 123 := satF hs 134 rfl
  have e135 : v 135 = if v 129 ≠ 0 then (0 : Int) else v 124 := satF hs 135 rfl
  have e136 : v 136 = if v 129 ≠ 0 then (0 : Int) else v 4 := satF hs 136 rfl
  have e137 : v 137 = if v 129 ≠ 0 then (0 : Int) else v 5 := satF hs 137 rfl
  have e138 : v 138 = if v 90 ≠ 0 then (1 : Int) else v 131 := satF hs 138 rfl
  have e139 : v 139 = if v 90 ≠ 0 then (0 : Int) else v 132 := satF hs 139 rfl
  have e140 : v 140 = if v 90 ≠ 0 then (0 : Int) else v 133 := satF hs 140 rfl
  have e141 : v 141 = if v 90 ≠ 0 then (0 : Int) else v 134 := satF hs 141 rfl
  have e142 : v 142 = if v 90 ≠ 0 then (0 : Int) else v 135 := satF hs 142 rfl
  have e143 : v 143 = if v 90 ≠ 0 then (0 : Int) else v 136 := satF hs 143 rfl
  have e144 : v 144 = if v 90 ≠ 0 then (0 : Int) else v 137 := satF hs 144 rfl
  have e147 : v 147 = if v 96 ≠ 0 then v 40 else v 92 := satF hs 147 rfl
  have e148 : v 148 = b2i (v 147 == (0 : Int)) := satF hs 148 rfl
  have e150 : v 150 = if v 148 ≠ 0 then v 52 else v 147 := satF hs 150 rfl
  have e154 : v 154 = b2i (v 150 == (0 : Int)) := satF hs 154 rfl
  have e156 : v 156 = if v 154 ≠ 0 then v 153 else v 150 := satF hs 156 rfl
  have e160 : v 160 = b2i (v 156 == (0 : Int)) := satF hs 160 rfl
  have e162 : v 162 = if v 160 ≠ 0 then v 159 else v 156 := satF hs 162 rfl
  have e163 : v 163 = (semB 2 [v 151, v 152, v 157, v 158]).getD 0 0 := satF hs 163 rfl
  have e164 : v 164 = (semB 2 [v 151, v 152, v 157, v 158]).getD 1 0 := satF hs 164 rfl
  have e165 : v 165 = (semB 2 [v 151, v 152, v 157, v 158]).getD 2 0 := satF hs 165 rfl
  have e166 : v 166 = b2i (v 162 == (0 : Int)) := satF hs 166 rfl
  have e168 : v 168 = if v 166 ≠ 0 then v 165 else v 162 := satF hs 168 rfl
  have e172 : v 172 = b2i (v 168 == (0 : Int)) := satF hs 172 rfl
  have e174 : v 174 = if v 172 ≠ 0 then v 171 else v 168 := satF hs 174 rfl
  have e178 : v 178 = b2i (v 174 == (0 : Int)) := satF hs 178 rfl
  have e180 : v 180 = if v 178 ≠ 0 then v 177 else v 174 := satF hs 180 rfl
  have e184 : v 184 = b2i (v 180 == (0 : Int)) := satF hs 184 rfl
  have e186 : v 186 = if v 184 ≠ 0 then v 183 else v 180 := satF hs 186 rfl
  have e190 : v 190 = b2i (v 186 == (0 : Int)) := satF hs 190 rfl
  have e192 : v 192 = if v 190 ≠ 0 then v 189 else v 186 := satF hs 192 rfl
  have e196 : v 196 = b2i (v 192 == (0 : Int)) := satF hs 196 rfl
  have e198 : v 198 = if v 196 ≠ 0 then v 195 else v 192 := satF hs 198 rfl
  have e199 : v 199 = (semB 2 [v 187, v 188, v 193, v 194]).getD 0 0 := satF hs 199 rfl
  have e200 : v 200 = (semB 2 [v 187, v 188, v 193, v 194]).getD 1 0 := satF hs 200 rfl
  have e201 : v 201 = (semB 2 [v 187, v 188, v 193, v 194]).getD 2 0 := satF hs 201 rfl
  have e202 : v 202 = b2i (v 198 == (0 : Int)) := satF hs 202 rfl
  have e204 : v 204 = if v 202 ≠ 0 then v 201 else v 198 := satF hs 204 rfl
  have e208 : v 208 = b2i (v 204 == (0 : Int)) := satF hs 208 rfl
  have e210 : v 210 = if v 208 ≠ 0 then v 207 else v 204 := satF hs 210 rfl
  have e214 : v 214 = b2i (v 210 == (0 : Int)) := satF hs 214 rfl
  have e216 : v 216 = if v 214 ≠ 0 then v 213 else v 210 := satF hs 216 rfl
  have e217 : v 217 = (semB 1 [v 205, v 206, v 211, v 212]).getD 0 0 := satF hs 217 rfl
  have e218 : v 218 = (semB 1 [v 205, v 206, v 211, v 212]).getD 1 0 := satF hs 218 rfl
  have e219 : v 219 = (semB 1 [v 205, v 206, v 211, v 212]).getD 2 0 := satF hs 219 rfl
  have e220 : v 220 = b2i (v 216 == (0 : Int)) := satF hs 220 rfl
  have e222 : v 222 = if v 220 ≠ 0 then v 219 else v 216 := satF hs 222 rfl
  have e223 : v 223 = b2i (v 222 != (0 : Int)) := satF hs 223 rfl
  have e225 : v 225 = if v 223 ≠ 0 then v 222 else (0 : Int) := satF hs 225 rfl
  have e226 : v 226 = if v 223 ≠ 0 then (0 : Int) else v 163 := satF hs 226 rfl
  have e227 : v 227 = if v 223 ≠ 0 then (0 : Int) else v 164 := satF hs 227 rfl
  have e228 : v 228 = if v 223 ≠ 0 then (0 : Int) else v 199 := satF hs 228 rfl
  have e229 : v 229 = if v 223 ≠ 0 then (0 : Int) else v 200 := satF hs 229 rfl
  have e230 : v 230 = if v 223 ≠ 0 then (0 : Int) else v 217 := satF hs 230 rfl
  have e231 : v 231 = if v 223 ≠ 0 then (0 : Int) else v 218 := satF hs 231 rfl
  have e232 : v 232 = if v 145 ≠ 0 then (1 : Int) else v 225 := satF hs 232 rfl
  have e233 : v 233 = if v 145 ≠ 0 then (0 : Int) else v 226 := satF hs 233 rfl
  have e234 : v 234 = if v 145 ≠ 0 then (0 : Int) else v 227 := satF hs 234 rfl
  have e235 : v 235 = if v 145 ≠ 0 then (0 : Int) else v 228 := satF hs 235 rfl
  have e236 : v 236 = if v 145 ≠ 0 then (0 : Int) else v 229 := satF hs 236 rfl
  have e237 : v 237 = if v 145 ≠ 0 then (0 : Int) else v 230 := satF hs 237 rfl
  have e238 : v 238 = if v 145 ≠ 0 then (0 : Int) else v 231 := satF hs 238 rfl
  have e246 : v 246 = b2i (v 78 == (0 : Int)) := satF hs 246 rfl
  have e247 : v 247 = b2i (v 79 == (0 : Int)) := satF hs 247 rfl
  have e248 : v 248 = b2i (v 80 == (0 : Int)) := satF hs 248 rfl
  have e249 : v 249 = b2i (v 81 == (0 : Int)) := satF hs 249 rfl
  have e250 : v 250 = b2i (v 82 == (0 : Int)) := satF hs 250 rfl
  have e251 : v 251 = b2i (v 83 == (0 : Int)) := satF hs 251 rfl
  have e252 : v 252 = if v 250 ≠ 0 then v 251 else (0 : Int) := satF hs 252 rfl
  have e253 : v 253 = if v 249 ≠ 0 then v 252 else (0 : Int) := satF hs 253 rfl
  have e254 : v 254 = if v 248 ≠ 0 then v 253 else (0 : Int) := satF hs 254 rfl
  have e255 : v 255 = if v 247 ≠ 0 then v 254 else (0 : Int) := satF hs 255 rfl
  have e256 : v 256 = if v 246 ≠ 0 then v 255 else (0 : Int) := satF hs 256 rfl
  have e257 : v 257 = b2i (v 77 == (1 : Int)) := satF hs 257 rfl
  have e258 : v 258 = if v 256 ≠ 0 then v 257 else (0 : Int) := satF hs 258 rfl
  have e259 : v 259 = if v 258 ≠ 0 then (0 : Int) else (1 : Int) := satF hs 259 rfl
  have e260 : v 260 = b2i (v 233 == (0 : Int)) := satF hs 260 rfl
  have e261 : v 261 = b2i (v 234 == (0 : Int)) := satF hs 261 rfl
  have e262 : v 262 = b2i (v 235 == (0 : Int)) := satF hs 262 rfl
  have e263 : v 263 = b2i (v 236 == (0 : Int)) := satF hs 263 rfl
  have e264 : v 264 = b2i (v 237 == (0 : Int)) := satF hs 264 rfl
  have e265 : v 265 = b2i (v 238 == (0 : Int)) := satF hs 265 rfl
  have e266 : v 266 = if v 264 ≠ 0 then v 265 else (0 : Int) := satF hs 266 rfl
  have e267 : v 267 = if v 263 ≠ 0 then v 266 else (0 : Int) := satF hs 267 rfl
  have e268 : v 268 = if v 262 ≠ 0 then v 267 else (0 : Int) := satF hs 268 rfl
  have e269 : v 269 = if v 261 ≠ 0 then v 268 else (0 : Int) := satF hs 269 rfl
  have e270 : v 270 = if v 260 ≠ 0 then v 269 else (0 : Int) := satF hs 270 rfl
  have e271 : v 271 = b2i (v 232 == (1 : Int)) := satF hs 271 rfl
  have e272 : v 272 = if v 270 ≠ 0 then v 271 else (0 : Int) := satF hs 272 rfl
  have e273 : v 273 = if v 272 ≠ 0 then (0 : Int) else (1 : Int) := satF hs 273 rfl
  have e274 : v 274 = if v 259 ≠ 0 then (1 : Int) else v 273 := satF hs 274 rfl
  have e276 : v 276 = b2i (v 46 != (0 : Int)) := satF hs 276 rfl
  have e278 : v 278 = if v 276 ≠ 0 then (0 : Int) else v 44 := satF hs 278 rfl
  have e279 : v 279 = if v 276 ≠ 0 then (0 : Int) else v 45 := satF hs 279 rfl
  have e280 : v 280 = b2i (v 46 == (0 : Int)) := satF hs 280 rfl
  have e282 : v 282 = if v 280 ≠ 0 then v 58 else v 46 := satF hs 282 rfl
  have e283 : v 283 = b2i (v 58 != (0 : Int)) := satF hs 283 rfl
  have e285 : v 285 = if v 283 ≠ 0 then (0 : Int) else v 56 := satF hs 285 rfl
  have e286 : v 286 = if v 283 ≠ 0 then (0 : Int) else v 57 := satF hs 286 rfl
  have e287 : v 287 = b2i (v 282 != (0 : Int)) := satF hs 287 rfl
  have e289 : v 289 = if v 287 ≠ 0 then v 282 else (0 : Int) := satF hs 289 rfl
  have e290 : v 290 = if v 287 ≠ 0 then (0 : Int) else v 278 := satF hs 290 rfl
  have e291 : v 291 = if v 287 ≠ 0 then (0 : Int) else v 279 := satF hs 291 rfl
  have e292 : v 292 = if v 287 ≠ 0 then (0 : Int) else v 285 := satF hs 292 rfl
  have e293 : v 293 = if v 287 ≠ 0 then (0 : Int) else v 286 := satF hs 293 rfl
  have e294 : v 294 = if v 287 ≠ 0 then (0 : Int) else v 62 := satF hs 294 rfl
  have e295 : v 295 = if v 287 ≠ 0 then (0 : Int) else v 63 := satF hs 295 rfl
  have e296 : v 296 = b2i (v 78 == v 290) := satF hs 296 rfl
  have e297 : v 297 = b2i (v 79 == v 291) := satF hs 297 rfl
  have e298 : v 298 = b2i (v 80 == v 292) := satF hs 298 rfl
  have e299 : v 299 = b2i (v 81 == v 293) := satF hs 299 rfl
  have e300 : v 300 = b2i (v 82 == v 294) := satF hs 300 rfl
  have e301 : v 301 = b2i (v 83 == v 295) := satF hs 301 rfl
  have e302 : v 302 = if v 300 ≠ 0 then v 301 else (0 : Int) := satF hs 302 rfl
  have e303 : v 303 = if v 299 ≠ 0 then v 302 else (0 : Int) := satF hs 303 rfl
  have e304 : v 304 = if v 298 ≠ 0 then v 303 else (0 : Int) := satF hs 304 rfl
  have e305 : v 305 = if v 297 ≠ 0 then v 304 else (0 : Int) := satF hs 305 rfl
  have e306 : v 306 = if v 296 ≠ 0 then v 305 else (0 : Int) := satF hs 306 rfl
  have e307 : v 307 = b2i (v 77 == v 289) := satF hs 307 rfl
  have e308 : v 308 = if v 306 ≠ 0 then v 307 else (0 : Int) := satF hs 308 rfl
  have e309 : v 309 = if v 308 ≠ 0 then (0 : Int) else (1 : Int) := satF hs 309 rfl
  have e311 : v 311 = if v 245 ≠ 0 then v 274 else (0 : Int) := satF hs 311 rfl
  have e313 : v 313 = if v 244 ≠ 0 then v 309 else (0 : Int) := satF hs 313 rfl
  have e315 : v 315 = if v 311 ≠ 0 then (1 : Int) else v 313 := satF hs 315 rfl
  have e316 : v 316 = b2i (v 139 == (0 : Int)) := satF hs 316 rfl
  have e317 : v 317 = b2i (v 140 == (0 : Int)) := satF hs 317 rfl
  have e318 : v 318 = b2i (v 141 == (0 : Int)) := satF hs 318 rfl
  have e319 : v 319 = b2i (v 142 == (0 : Int)) := satF hs 319 rfl
  have e320 : v 320 = b2i (v 143 == (0 : Int)) := satF hs 320 rfl
  have e321 : v 321 = b2i (v 144 == (0 : Int)) := satF hs 321 rfl
  have e322 : v 322 = if v 320 ≠ 0 then v 321 else (0 : Int) := satF hs 322 rfl
  have e323 : v 323 = if v 319 ≠ 0 then v 322 else (0 : Int) := satF hs 323 rfl
  have e324 : v 324 = if v 318 ≠ 0 then v 323 else (0 : Int) := satF hs 324 rfl
  have e325 : v 325 = if v 317 ≠ 0 then v 324 else (0 : Int) := satF hs 325 rfl
  have e326 : v 326 = if v 316 ≠ 0 then v 325 else (0 : Int) := satF hs 326 rfl
  have e327 : v 327 = b2i (v 138 == (1 : Int)) := satF hs 327 rfl
  have e328 : v 328 = if v 326 ≠ 0 then v 327 else (0 : Int) := satF hs 328 rfl
  have e329 : v 329 = if v 328 ≠ 0 then v 272 else (0 : Int) := satF hs 329 rfl
  have e331 : v 331 = if v 241 ≠ 0 then (0 : Int) else (1 : Int) := satF hs 331 rfl
  have e336 : v 336 = b2i (v 95 == (0 : Int)) := satF hs 336 rfl
  have e338 : v 338 = if v 336 ≠ 0 then v 101 else v 95 := satF hs 338 rfl
  have e343 : v 343 = (semB 2 [v 334, v 335, v 341, v 342]).getD 0 0 := satF hs 343 rfl
  have e344 : v 344 = (semB 2 [v 334, v 335, v 341, v 342]).getD 1 0 := satF hs 344 rfl
  have e345 : v 345 = (semB 2 [v 334, v 335, v 341, v 342]).getD 2 0 := satF hs 345 rfl
  have e346 : v 346 = b2i (v 338 == (0 : Int)) := satF hs 346 rfl
  have e348 : v 348 = if v 346 ≠ 0 then v 345 else v 338 := satF hs 348 rfl
  have e349 : v 349 = b2i (v 345 != (0 : Int)) := satF hs 349 rfl
  have e351 : v 351 = if v 349 ≠ 0 then (0 : Int) else v 343 := satF hs 351 rfl
  have e352 : v 352 = if v 349 ≠ 0 then (0 : Int) else v 344 := satF hs 352 rfl
  have e353 : v 353 = b2i (v 348 == (0 : Int)) := satF hs 353 rfl
  have e355 : v 355 = if v 353 ≠ 0 then v 113 else v 348 := satF hs 355 rfl
  have e360 : v 360 = b2i (v 355 == (0 : Int)) := satF hs 360 rfl
  have e362 : v 362 = if v 360 ≠ 0 then v 119 else v 355 := satF hs 362 rfl
  have e367 : v 367 = (semB 1 [v 358, v 359, v 365, v 366]).getD 0 0 := satF hs 367 rfl
  have e368 : v 368 = (semB 1 [v 358, v 359, v 365, v 366]).getD 1 0 := satF hs 368 rfl
  have e369 : v 369 = (semB 1 [v 358, v 359, v 365, v 366]).getD 2 0 := satF hs 369 rfl
  have e370 : v 370 = b2i (v 362 == (0 : Int)) := satF hs 370 rfl
  have e372 : v 372 = if v 370 ≠ 0 then v 369 else v 362 := satF hs 372 rfl
  have e373 : v 373 = b2i (v 369 != (0 : Int)) := satF hs 373 rfl
  have e375 : v 375 = if v 373 ≠ 0 then (0 : Int) else v 367 := satF hs 375 rfl
  have e376 : v 376 = if v 373 ≠ 0 then (0 : Int) else v 368 := satF hs 376 rfl
  have e377 : v 377 = b2i (v 372 != (0 : Int)) := satF hs 377 rfl
  have e379 : v 379 = if v 377 ≠ 0 then v 372 else (0 : Int) := satF hs 379 rfl
  have e380 : v 380 = if v 377 ≠ 0 then (0 : Int) else v 351 := satF hs 380 rfl
  have e381 : v 381 = if v 377 ≠ 0 then (0 : Int) else v 352 := satF hs 381 rfl
  have e382 : v 382 = if v 377 ≠ 0 then (0 : Int) else v 375 := satF hs 382 rfl
  have e383 : v 383 = if v 377 ≠ 0 then (0 : Int) else v 376 := satF hs 383 rfl
  have e384 : v 384 = if v 377 ≠ 0 then (0 : Int) else v 4 := satF hs 384 rfl
  have e385 : v 385 = if v 377 ≠ 0 then (0 : Int) else v 5 := satF hs 385 rfl
  have e386 : v 386 = b2i (v 139 == v 380) := satF hs 386 rfl
  have e387 : v 387 = b2i (v 140 == v 381) := satF hs 387 rfl
  have e388 : v 388 = b2i (v 141 == v 382) := satF hs 388 rfl
  have e389 : v 389 = b2i (v 142 == v 383) := satF hs 389 rfl
  have e390 : v 390 = b2i (v 143 == v 384) := satF hs 390 rfl
  have e391 : v 391 = b2i (v 144 == v 385) := satF hs 391 rfl
  have e392 : v 392 = if v 390 ≠ 0 then v 391 else (0 : Int) := satF hs 392 rfl
  have e393 : v 393 = if v 389 ≠ 0 then v 392 else (0 : Int) := satF hs 393 rfl
  have e394 : v 394 = if v 388 ≠ 0 then v 393 else (0 : Int) := satF hs 394 rfl
  have e395 : v 395 = if v 387 ≠ 0 then v 394 else (0 : Int) := satF hs 395 rfl
  have e396 : v 396 = if v 386 ≠ 0 then v 395 else (0 : Int) := satF hs 396 rfl
  have e397 : v 397 = b2i (v 138 == v 379) := satF hs 397 rfl
  have e398 : v 398 = if v 396 ≠ 0 then v 397 else (0 : Int) := satF hs 398 rfl
  have e399 : v 399 = if v 398 ≠ 0 then (0 : Int) else (1 : Int) := satF hs 399 rfl
  have e404 : v 404 = b2i (v 153 == (0 : Int)) := satF hs 404 rfl
  have e406 : v 406 = if v 404 ≠ 0 then v 159 else v 153 := satF hs 406 rfl
  have e411 : v 411 = (semB 2 [v 402, v 403, v 409, v 410]).getD 0 0 := satF hs 411 rfl
  have e412 : v 412 = (semB 2 [v 402, v 403, v 409, v 410]).getD 1 0 := satF hs 412 rfl
  have e413 : v 413 = (semB 2 [v 402, v 403, v 409, v 410]).getD 2 0 := satF hs 413 rfl
  have e414 : v 414 = b2i (v 406 == (0 : Int)) := satF hs 414 rfl
  have e416 : v 416 = if v 414 ≠ 0 then v 413 else v 406 := satF hs 416 rfl
  have e417 : v 417 = b2i (v 413 != (0 : Int)) := satF hs 417 rfl
  have e419 : v 419 = if v 417 ≠ 0 then (0 : Int) else v 411 := satF hs 419 rfl
  have e420 : v 420 = if v 417 ≠ 0 then (0 : Int) else v 412 := satF hs 420 rfl
  have e421 : v 421 = b2i (v 416 == (0 : Int)) := satF hs 421 rfl
  have e423 : v 423 = if v 421 ≠ 0 then v 171 else v 416 := satF hs 423 rfl
  have e428 : v 428 = b2i (v 423 == (0 : Int)) := satF hs 428 rfl
  have e430 : v 430 = if v 428 ≠ 0 then v 177 else v 423 := satF hs 430 rfl
  have e438 : v 438 = b2i (v 430 == (0 : Int)) := satF hs 438 rfl
  have e440 : v 440 = if v 438 ≠ 0 then v 437 else v 430 := satF hs 440 rfl
  have e445 : v 445 = b2i (v 440 == (0 : Int)) := satF hs 445 rfl
  have e447 : v 447 = if v 445 ≠ 0 then v 189 else v 440 := satF hs 447 rfl
  have e455 : v 455 = b2i (v 447 == (0 : Int)) := satF hs 455 rfl
  have e457 : v 457 = if v 455 ≠ 0 then v 454 else v 447 := satF hs 457 rfl
  have e462 : v 462 = (semB 2 [v 450, v 451, v 460, v 461]).getD 0 0 := satF hs 462 rfl
  have e463 : v 463 = (semB 2 [v 450, v 451, v 460, v 461]).getD 1 0 := satF hs 463 rfl
  have e464 : v 464 = (semB 2 [v 450, v 451, v 460, v 461]).getD 2 0 := satF hs 464 rfl
  have e465 : v 465 = b2i (v 457 == (0 : Int)) := satF hs 465 rfl
  have e467 : v 467 = if v 465 ≠ 0 then v 464 else v 457 := satF hs 467 rfl
  have e468 : v 468 = b2i (v 464 != (0 : Int)) := satF hs 468 rfl
  have e470 : v 470 = if v 468 ≠ 0 then (0 : Int) else v 462 := satF hs 470 rfl
  have e471 : v 471 = if v 468 ≠ 0 then (0 : Int) else v 463 := satF hs 471 rfl
  have e472 : v 472 = b2i (v 467 == (0 : Int)) := satF hs 472 rfl
  have e474 : v 474 = if v 472 ≠ 0 then v 207 else v 467 := satF hs 474 rfl
  have e482 : v 482 = b2i (v 474 == (0 : Int)) := satF hs 482 rfl
  have e484 : v 484 = if v 482 ≠ 0 then v 481 else v 474 := satF hs 484 rfl
  have e489 : v 489 = (semB 1 [v 477, v 478, v 487, v 488]).getD 0 0 := satF hs 489 rfl
  have e490 : v 490 = (semB 1 [v 477, v 478, v 487, v 488]).getD 1 0 := satF hs 490 rfl
  have e491 : v 491 = (semB 1 [v 477, v 478, v 487, v 488]).getD 2 0 := satF hs 491 rfl
  have e492 : v 492 = b2i (v 484 == (0 : Int)) := satF hs 492 rfl
  have e494 : v 494 = if v 492 ≠ 0 then v 491 else v 484 := satF hs 494 rfl
  have e495 : v 495 = b2i (v 491 != (0 : Int)) := satF hs 495 rfl
  have e497 : v 497 = if v 495 ≠ 0 then (0 : Int) else v 489 := satF hs 497 rfl
  have e498 : v 498 = if v 495 ≠ 0 then (0 : Int) else v 490 := satF hs 498 rfl
  have e499 : v 499 = b2i (v 494 != (0 : Int)) := satF hs 499 rfl
  have e501 : v 501 = if v 499 ≠ 0 then v 494 else (0 : Int) := satF hs 501 rfl
  have e502 : v 502 = if v 499 ≠ 0 then (0 : Int) else v 419 := satF hs 502 rfl
  have e503 : v 503 = if v 499 ≠ 0 then (0 : Int) else v 420 := satF hs 503 rfl
  have e504 : v 504 = if v 499 ≠ 0 then (0 : Int) else v 470 := satF hs 504 rfl
  have e505 : v 505 = if v 499 ≠ 0 then (0 : Int) else v 471 := satF hs 505 rfl
  have e506 : v 506 = if v 499 ≠ 0 then (0 : Int) else v 497 := satF hs 506 rfl
  have e507 : v 507 = if v 499 ≠ 0 then (0 : Int) else v 498 := satF hs 507 rfl
  have e508 : v 508 = b2i (v 233 == v 502) := satF hs 508 rfl
  have e509 : v 509 = b2i (v 234 == v 503) := satF hs 509 rfl
  have e510 : v 510 = b2i (v 235 == v 504) := satF hs 510 rfl
  have e511 : v 511 = b2i (v 236 == v 505) := satF hs 511 rfl
  have e512 : v 512 = b2i (v 237 == v 506) := satF hs 512 rfl
  have e513 : v 513 = b2i (v 238 == v 507) := satF hs 513 rfl
  have e514 : v 514 = if v 512 ≠ 0 then v 513 else (0 : Int) := satF hs 514 rfl
  have e515 : v 515 = if v 511 ≠ 0 then v 514 else (0 : Int) := satF hs 515 rfl
  have e516 : v 516 = if v 510 ≠ 0 then v 515 else (0 : Int) := satF hs 516 rfl
  have e517 : v 517 = if v 509 ≠ 0 then v 516 else (0 : Int) := satF hs 517 rfl
  have e518 : v 518 = if v 508 ≠ 0 then v 517 else (0 : Int) := satF hs 518 rfl
  have e519 : v 519 = b2i (v 232 == v 501) := satF hs 519 rfl
  have e520 : v 520 = if v 518 ≠ 0 then v 519 else (0 : Int) := satF hs 520 rfl
  have e521 : v 521 = if v 245 ≠ 0 then (1 : Int) else v 520 := satF hs 521 rfl
  have e522 : v 522 = if v 399 ≠ 0 then (0 : Int) else v 521 := satF hs 522 rfl
  have e523 : v 523 = if v 331 ≠ 0 then v 328 else v 522 := satF hs 523 rfl
  have e524 : v 524 = if v 89 ≠ 0 then v 329 else v 523 := satF hs 524 rfl
  have e526 : v 526 = if v 315 ≠ 0 then (0 : Int) else v 524 := satF hs 526 rfl
  have e529 : v 529 = if v 11 ≠ 0 then (0 : Int) else v 526 := satF hs 529 rfl
  refine ⟨vcs_rev ?_, ?_⟩
  · refine vcs_cons ?_ (vcs_cons ?_ (vcs_cons ?_ (vcs_cons ?_ (vcs_cons ?_ (vcs_cons ?_ (vcs_cons ?_ (vcs_cons ?_ (vcs_cons ?_ (vcs_cons ?_ (vcs_cons ?_ (vcs_cons ?_ (vcs_cons ?_ (vcs_cons ?_ (vcs_cons ?_ (vcs_cons ?_ (vcs_cons ?_ (vcs_cons ?_ (vcs_cons ?_ (vcs_cons ?_ (vcs_cons ?_ (vcs_cons ?_ (vcs_cons ?_ (vcs_cons ?_ (vcs_cons ?_ (vcs_cons ?_ (vcs_cons ?_ (vcs_cons ?_ (vcs_cons ?_ (vcs_cons ?_ (vcs_cons ?_ (vcs_cons ?_ (vcs_cons ?_ (vcs_cons ?_ (vcs_cons ?_ (vcs_cons ?_ (vcs_cons ?_ (vcs_cons ?_ (vcs_cons ?_ (vcs_cons ?_ (vcs_cons ?_ (vcs_cons ?_ (vcs_cons ?_ (vcs_cons ?_ (vcs_cons ?_ (vcs_cons ?_ (vcs_cons ?_ (vcs_cons ?_ (vcs_cons ?_ (vcs_cons ?_ (vcs_cons ?_ (vcs_cons ?_ (vcs_cons ?_ (vcs_cons ?_ (vcs_cons ?_ (vcs_cons ?_ (vcs_cons ?_ (vcs_cons ?_ (vcs_cons ?_ (vcs_cons ?_ (vcs_cons ?_ (vcs_cons ?_ (vcs_cons ?_ (vcs_cons ?_ (vcs_cons ?_ (vcs_cons ?_ (vcs_cons ?_ (vcs_cons ?_ (vcs_cons ?_ (vcs_cons ?_ (vcs_cons ?_ (vcs_cons ?_ (vcs_cons ?_ (vcs_cons ?_ (vcs_cons ?_ (vcs_cons ?_ (vcs_nil))))))))))))))))))))))))))))))))))))))))))))))))))))))))))))))))))))))))))))
    · exact fun _ => trivial
    · exact fun hp => (show arcV (v 6) (v 7) = true from (H34 (pt_true hp).1).1)
    · exact fun hp => (show arcV (v 8) (v 9) = true from (H34 (pt_true hp).1).2)
    · exact fun hp => (show fxV (v 35) (v 36) = true ∧ fxV (v 38) (v 39) = true from ⟨(by rw [e35, e36]; exact sem_fitV6 _ _), (by rw [e38, e39]; exact sem_fitV6 _ _)⟩)
    · exact fun hp => (show arcV (v 8) (v 9) = true from (H34 (pt_true hp).1).2)
    · exact fun hp => (show fxV (v 35) (v 36) = true ∧ fxV (v 50) (v 51) = true from ⟨(by rw [e35, e36]; exact sem_fitV6 _ _), (by rw [e50, e51]; exact sem_fitV5 _ _)⟩)
    · exact fun hp => (show arcV (v 6) (v 7) = true from (H34 (pt_true hp).1).1)
    · exact fun _ => trivial
    · exact fun _ => trivial
    · exact fun _ => trivial
    · exact fun hp => (show arcV (v 6) (v 7) = true from (H91 (pt_true hp).1).2)
    · exact fun hp => (show arcV (v 6) (v 7) = true from (H91 (pt_true hp).1).2)
    · exact fun hp => (show fxV (v 0) (v 1) = true ∧ fxV (v 35) (v 36) = true from ⟨((H91 (pt_true hp).1).1).1, (by rw [e35, e36]; exact sem_fitV6 _ _)⟩)
    · exact fun hp => (show fxV (v 2) (v 3) = true ∧ fxV (v 62) (v 63) = true from ⟨((H91 (pt_true hp).1).1).2.1, (by rw [e62, e63]; exact sem_fitV5 _ _)⟩)
    · exact fun hp => (show fxV (v 93) (v 94) = true ∧ fxV (v 99) (v 100) = true from ⟨(by rw [e93, e94]; exact sem_fitV0 _ _ _ _), (by rw [e99, e100]; exact sem_fitV0 _ _ _ _)⟩)
    · exact fun hp => (show fxV (v 0) (v 1) = true ∧ fxV (v 62) (v 63) = true from ⟨((H91 (pt_true hp).1).1).1, (by rw [e62, e63]; exact sem_fitV5 _ _)⟩)
    · exact fun hp => (show fxV (v 2) (v 3) = true ∧ fxV (v 35) (v 36) = true from ⟨((H91 (pt_true hp).1).1).2.1, (by rw [e35, e36]; exact sem_fitV6 _ _)⟩)
    · exact fun hp => (show fxV (v 111) (v 112) = true ∧ fxV (v 117) (v 118) = true from ⟨(by rw [e111, e112]; exact sem_fitV0 _ _ _ _), (by rw [e117, e118]; exact sem_fitV0 _ _ _ _)⟩)
    · exact fun _ => trivial
    · exact fun _ => trivial
    · exact fun _ => trivial
    · exact fun hp => (show arcV (v 6) (v 7) = true from (H146 (pt_true hp).1).2.1)
    · exact fun hp => (show arcV (v 6) (v 7) = true from (H146 (pt_true hp).1).2.1)
    · exact fun hp => (show arcV (v 8) (v 9) = true from (H146 (pt_true hp).1).2.2)
    · exact fun hp => (show arcV (v 8) (v 9) = true from (H146 (pt_true hp).1).2.2)
    · exact fun hp => (show fxV (v 2) (v 3) = true ∧ fxV (v 38) (v 39) = true from ⟨((H146 (pt_true hp).1).1).2.1, (by rw [e38, e39]; exact sem_fitV6 _ _)⟩)
    · exact fun hp => (show fxV (v 0) (v 1) = true ∧ fxV (v 50) (v 51) = true from ⟨((H146 (pt_true hp).1).1).1, (by rw [e50, e51]; exact sem_fitV5 _ _)⟩)
    · exact fun hp => (show fxV (v 151) (v 152) = true ∧ fxV (v 157) (v 158) = true from ⟨(by rw [e151, e152]; exact sem_fitV0 _ _ _ _), (by rw [e157, e158]; exact sem_fitV0 _ _ _ _)⟩)
    · exact fun hp => (show fxV (v 0) (v 1) = true ∧ fxV (v 38) (v 39) = true from ⟨((H146 (pt_true hp).1).1).1, (by rw [e38, e39]; exact sem_fitV6 _ _)⟩)
    · exact fun hp => (show fxV (v 2) (v 3) = true ∧ fxV (v 50) (v 51) = true from ⟨((H146 (pt_true hp).1).1).2.1, (by rw [e50, e51]; exact sem_fitV5 _ _)⟩)
    · exact fun hp => (show fxV (v 169) (v 170) = true ∧ fxV (v 175) (v 176) = true from ⟨(by rw [e169, e170]; exact sem_fitV0 _ _ _ _), (by rw [e175, e176]; exact sem_fitV0 _ _ _ _)⟩)
    · exact fun hp => (show fxV (v 4) (v 5) = true ∧ fxV (v 35) (v 36) = true from ⟨((H146 (pt_true hp).1).1).2.2, (by rw [e35, e36]; exact sem_fitV6 _ _)⟩)
    · exact fun hp => (show fxV (v 181) (v 182) = true ∧ fxV (v 62) (v 63) = true from ⟨(by rw [e181, e182]; exact sem_fitV1 _ _ _ _), (by rw [e62, e63]; exact sem_fitV5 _ _)⟩)
    · exact fun hp => (show fxV (v 187) (v 188) = true ∧ fxV (v 193) (v 194) = true from ⟨(by rw [e187, e188]; exact sem_fitV0 _ _ _ _), (by rw [e193, e194]; exact sem_fitV0 _ _ _ _)⟩)
    · exact fun hp => (show fxV (v 4) (v 5) = true ∧ fxV (v 62) (v 63) = true from ⟨((H146 (pt_true hp).1).1).2.2, (by rw [e62, e63]; exact sem_fitV5 _ _)⟩)
    · exact fun hp => (show fxV (v 181) (v 182) = true ∧ fxV (v 35) (v 36) = true from ⟨(by rw [e181, e182]; exact sem_fitV1 _ _ _ _), (by rw [e35, e36]; exact sem_fitV6 _ _)⟩)
    · exact fun hp => (show fxV (v 205) (v 206) = true ∧ fxV (v 211) (v 212) = true from ⟨(by rw [e205, e206]; exact sem_fitV0 _ _ _ _), (by rw [e211, e212]; exact sem_fitV0 _ _ _ _)⟩)
    · exact fun _ => trivial
    · exact fun _ => trivial
    · exact fun _ => trivial
    · exact fun _ => trivial
    · exact fun _ => trivial
    · exact fun _ => trivial
    · exact fun hp => (show arcV (v 6) (v 7) = true from (H245 (pt_false hp).1).1)
    · exact fun hp => (show arcV (v 8) (v 9) = true from (H245 (pt_false hp).1).2)
    · exact fun hp => (show fxV (v 35) (v 36) = true ∧ fxV (v 38) (v 39) = true from ⟨(by rw [e35, e36]; exact sem_fitV6 _ _), (by rw [e38, e39]; exact sem_fitV6 _ _)⟩)
    · exact fun hp => (show arcV (v 8) (v 9) = true from (H245 (pt_false hp).1).2)
    · exact fun hp => (show fxV (v 35) (v 36) = true ∧ fxV (v 50) (v 51) = true from ⟨(by rw [e35, e36]; exact sem_fitV6 _ _), (by rw [e50, e51]; exact sem_fitV5 _ _)⟩)
    · exact fun hp => (show arcV (v 6) (v 7) = true from (H245 (pt_false hp).1).1)
    · exact fun _ => trivial
    · exact fun _ => trivial
    · exact fun _ => trivial
    · exact fun hp => (show arcV (v 6) (v 7) = true from (H241 (pt_true hp).1))
    · exact fun hp => (show arcV (v 6) (v 7) = true from (H241 (pt_true hp).1))
    · exact fun hp => (show fxV (v 0) (v 1) = true ∧ fxV (v 35) (v 36) = true from ⟨((H330 (pt_true (pt_true hp).2).1)).1, (by rw [e35, e36]; exact sem_fitV6 _ _)⟩)
    · exact fun hp => (show fxV (v 2) (v 3) = true ∧ fxV (v 62) (v 63) = true from ⟨((H330 (pt_true (pt_true hp).2).1)).2.1, (by rw [e62, e63]; exact sem_fitV5 _ _)⟩)
    · exact fun hp => (show fxV (v 334) (v 335) = true ∧ fxV (v 341) (v 342) = true from ⟨(by rw [f334, f335]; exact (by rw [e93, e94]; exact sem_fitV0 _ _ _ _)), (by rw [f341, f342]; exact (by rw [e99, e100]; exact sem_fitV0 _ _ _ _))⟩)
    · exact fun hp => (show fxV (v 0) (v 1) = true ∧ fxV (v 62) (v 63) = true from ⟨((H330 (pt_true (pt_true hp).2).1)).1, (by rw [e62, e63]; exact sem_fitV5 _ _)⟩)
    · exact fun hp => (show fxV (v 2) (v 3) = true ∧ fxV (v 35) (v 36) = true from ⟨((H330 (pt_true (pt_true hp).2).1)).2.1, (by rw [e35, e36]; exact sem_fitV6 _ _)⟩)
    · exact fun hp => (show fxV (v 358) (v 359) = true ∧ fxV (v 365) (v 366) = true from ⟨(by rw [f358, f359]; exact (by rw [e111, e112]; exact sem_fitV0 _ _ _ _)), (by rw [f365, f366]; exact (by rw [e117, e118]; exact sem_fitV0 _ _ _ _))⟩)
    · exact fun hp => (show arcV (v 6) (v 7) = true from (H244 (pt_true hp).1).1)
    · exact fun hp => (show arcV (v 6) (v 7) = true from (H244 (pt_true hp).1).1)
    · exact fun hp => (show arcV (v 8) (v 9) = true from (H244 (pt_true hp).1).2)
    · exact fun hp => (show arcV (v 8) (v 9) = true from (H244 (pt_true hp).1).2)
    · exact fun hp => (show fxV (v 2) (v 3) = true ∧ fxV (v 38) (v 39) = true from ⟨((H330 (pt_true (pt_true (pt_true (pt_true hp).2).2).2).1)).2.1, (by rw [e38, e39]; exact sem_fitV6 _ _)⟩)
    · exact fun hp => (show fxV (v 0) (v 1) = true ∧ fxV (v 50) (v 51) = true from ⟨((H330 (pt_true (pt_true (pt_true (pt_true hp).2).2).2).1)).1, (by rw [e50, e51]; exact sem_fitV5 _ _)⟩)
    · exact fun hp => (show fxV (v 402) (v 403) = true ∧ fxV (v 409) (v 410) = true from ⟨(by rw [f402, f403]; exact (by rw [e151, e152]; exact sem_fitV0 _ _ _ _)), (by rw [f409, f410]; exact (by rw [e157, e158]; exact sem_fitV0 _ _ _ _))⟩)
    · exact fun hp => (show fxV (v 0) (v 1) = true ∧ fxV (v 38) (v 39) = true from ⟨((H330 (pt_true (pt_true (pt_true (pt_true hp).2).2).2).1)).1, (by rw [e38, e39]; exact sem_fitV6 _ _)⟩)
    · exact fun hp => (show fxV (v 2) (v 3) = true ∧ fxV (v 50) (v 51) = true from ⟨((H330 (pt_true (pt_true (pt_true (pt_true hp).2).2).2).1)).2.1, (by rw [e50, e51]; exact sem_fitV5 _ _)⟩)
    · exact fun hp => (show fxV (v 426) (v 427) = true ∧ fxV (v 433) (v 434) = true from ⟨(by rw [f426, f427]; exact (by rw [e169, e170]; exact sem_fitV0 _ _ _ _)), (by rw [f433, f434]; exact (by rw [e175, e176]; exact sem_fitV0 _ _ _ _))⟩)
    · exact fun hp => (show fxV (v 4) (v 5) = true ∧ fxV (v 35) (v 36) = true from ⟨((H330 (pt_true (pt_true (pt_true (pt_true hp).2).2).2).1)).2.2, (by rw [e35, e36]; exact sem_fitV6 _ _)⟩)
    · exact fun hp => (show fxV (v 443) (v 444) = true ∧ fxV (v 62) (v 63) = true from ⟨(by rw [f443, f444]; exact (by rw [e181, e182]; exact sem_fitV1 _ _ _ _)), (by rw [e62, e63]; exact sem_fitV5 _ _)⟩)
    · exact fun hp => (show fxV (v 450) (v 451) = true ∧ fxV (v 460) (v 461) = true from ⟨(by rw [f450, f451]; exact (by rw [e187, e188]; exact sem_fitV0 _ _ _ _)), (by rw [f460, f461]; exact (by rw [e193, e194]; exact sem_fitV0 _ _ _ _))⟩)
    · exact fun hp => (show fxV (v 4) (v 5) = true ∧ fxV (v 62) (v 63) = true from ⟨((H330 (pt_true (pt_true (pt_true (pt_true hp).2).2).2).1)).2.2, (by rw [e62, e63]; exact sem_fitV5 _ _)⟩)
    · exact fun hp => (show fxV (v 443) (v 444) = true ∧ fxV (v 35) (v 36) = true from ⟨(by rw [f443, f444]; exact (by rw [e181, e182]; exact sem_fitV1 _ _ _ _)), (by rw [e35, e36]; exact sem_fitV6 _ _)⟩)
    · exact fun hp => (show fxV (v 477) (v 478) = true ∧ fxV (v 487) (v 488) = true from ⟨(by rw [f477, f478]; exact (by rw [e205, e206]; exact sem_fitV0 _ _ _ _)), (by rw [f487, f488]; exact (by rw [e211, e212]; exact sem_fitV0 _ _ _ _))⟩)
  · intro x hx
    have hx' : x = .bool (decide (v 529 ≠ 0)) := hx
    suffices hr : v 529 = 1 by rw [hx', hr]; rfl
    rcases Bool.eq_false_or_eq_true (fxV (v 0) (v 1) && fxV (v 2) (v 3) && fxV (v 4) (v 5)) with hq | hq
    · skip
      rcases Bool.eq_false_or_eq_true (arcV (v 6) (v 7)) with ha | ha
      · skip
        rcases Bool.eq_false_or_eq_true (arcV (v 8) (v 9)) with hb | hb
        · skip
          have f10 : v 10 = (1 : Int) := e10.trans (by decide +kernel)
          have n11 : v 11 = if (1 : Int) ≠ 0 then (0 : Int) else (1 : Int) := e11.trans (by rw [f10])
          have f11 : v 11 = (0 : Int) := n11.trans (if_pos (by decide))
          have f21 : v 21 = (1 : Int) := A21.trans (by rw [ha]; rfl)
          have n22 : v 22 = if (1 : Int) ≠ 0 then (0 : Int) else (1 : Int) := e22.trans (by rw [f21])
          have f22 : v 22 = (0 : Int) := n22.trans (if_pos (by decide))
          have f31 : v 31 = (1 : Int) := A31.trans (by rw [hb]; rfl)
          have n32 : v 32 = if (1 : Int) ≠ 0 then (0 : Int) else (1 : Int) := e32.trans (by rw [f31])
          have f32 : v 32 = (0 : Int) := n32.trans (if_pos (by decide))
          have n33 : v 33 = if (0 : Int) ≠ 0 then (1 : Int) else (0 : Int) := e33.trans (by rw [f22, f32])
          have f33 : v 33 = (0 : Int) := n33.trans (if_neg (by decide))
          have f37 : v 37 = (0 : Int) := e37.trans (sem6e _ _)
          have f40 : v 40 = (0 : Int) := e40.trans (sem6e _ _)
          have n41 : v 41 = b2i ((0 : Int) == (0 : Int)) := e41.trans (by rw [f37])
          have f41 : v 41 = (1 : Int) := n41.trans (by decide)
          have n43 : v 43 = if (1 : Int) ≠ 0 then (0 : Int) else (0 : Int) := e43.trans (by rw [f41, f40, f37])
          have f43 : v 43 = (0 : Int) := n43.trans (if_pos (by decide))
          have n47 : v 47 = b2i ((0 : Int) == (0 : Int)) := e47.trans (by rw [f43])
          have f47 : v 47 = (1 : Int) := n47.trans (by decide)
          have n49 : v 49 = if (1 : Int) ≠ 0 then v 46 else (0 : Int) := e49.trans (by rw [f47, f43])
          have f49 : v 49 = v 46 := n49.trans (if_pos (by decide))
          have f52 : v 52 = (0 : Int) := e52.trans (sem5e _ _)
          have n53 : v 53 = b2i (v 46 == (0 : Int)) := e53.trans (by rw [f49])
          have n55 : v 55 = if v 53 ≠ 0 then (0 : Int) else v 46 := e55.trans (by rw [f52, f49])
          have f55 : v 55 = v 46 := n55.trans (err_ite n53)
          have n59 : v 59 = b2i (v 46 == (0 : Int)) := e59.trans (by rw [f55])
          have f59 : v 59 = v 53 := n59.trans n53.symm
          have n61 : v 61 = if v 53 ≠ 0 then v 58 else v 46 := e61.trans (by rw [f59, f55])
          have f64 : v 64 = (0 : Int) := e64.trans (sem5e _ _)
          have n67 : v 67 = if v 65 ≠ 0 then (0 : Int) else v 61 := e67.trans (by rw [f64])
          have f67 : v 67 = v 61 := n67.trans (err_ite e65)
          have n68 : v 68 = b2i (v 61 != (0 : Int)) := e68.trans (by rw [f67])
          have n70 : v 70 = if v 68 ≠ 0 then v 61 else (0 : Int) := e70.trans (by rw [f67])
          have f70 : v 70 = v 61 := n70.trans (keep_ite n68)
          have n77 : v 77 = if (0 : Int) ≠ 0 then (1 : Int) else v 61 := e77.trans (by rw [f33, f70])
          have f77 : v 77 = v 61 := n77.trans (if_neg (by decide))
          have n78 : v 78 = if (0 : Int) ≠ 0 then (0 : Int) else v 71 := e78.trans (by rw [f33])
          have f78 : v 78 = v 71 := n78.trans (if_neg (by decide))
          have n79 : v 79 = if (0 : Int) ≠ 0 then (0 : Int) else v 72 := e79.trans (by rw [f33])
          have f79 : v 79 = v 72 := n79.trans (if_neg (by decide))
          have n80 : v 80 = if (0 : Int) ≠ 0 then (0 : Int) else v 73 := e80.trans (by rw [f33])
          have f80 : v 80 = v 73 := n80.trans (if_neg (by decide))
          have n81 : v 81 = if (0 : Int) ≠ 0 then (0 : Int) else v 74 := e81.trans (by rw [f33])
          have f81 : v 81 = v 74 := n81.trans (if_neg (by decide))
          have n82 : v 82 = if (0 : Int) ≠ 0 then (0 : Int) else v 75 := e82.trans (by rw [f33])
          have f82 : v 82 = v 75 := n82.trans (if_neg (by decide))
          have n83 : v 83 = if (0 : Int) ≠ 0 then (0 : Int) else v 76 := e83.trans (by rw [f33])
          have f83 : v 83 = v 76 := n83.trans (if_neg (by decide))
          have f88 : v 88 = (1 : Int) := Q88.trans (by rw [hq]; rfl)
          have n89 : v 89 = if (1 : Int) ≠ 0 then (0 : Int) else (1 : Int) := e89.trans (by rw [f88])
          have f89 : v 89 = (0 : Int) := n89.trans (if_pos (by decide))
          have n90 : v 90 = if (0 : Int) ≠ 0 then (1 : Int) else (0 : Int) := e90.trans (by rw [f89, f22])
          have f90 : v 90 = (0 : Int) := n90.trans (if_neg (by decide))
          have n92 : v 92 = if (1 : Int) ≠ 0 then (0 : Int) else (0 : Int) := e92.trans (by rw [f41, f64, f37])
          have f92 : v 92 = (0 : Int) := n92.trans (if_pos (by decide))
          have n96 : v 96 = b2i ((0 : Int) == (0 : Int)) := e96.trans (by rw [f92])
          have f96 : v 96 = (1 : Int) := n96.trans (by decide)
          have n98 : v 98 = if (1 : Int) ≠ 0 then v 95 else (0 : Int) := e98.trans (by rw [f96, f92])
          have f98 : v 98 = v 95 := n98.trans (if_pos (by decide))
          have n102 : v 102 = b2i (v 95 == (0 : Int)) := e102.trans (by rw [f98])
          have n104 : v 104 = if v 102 ≠ 0 then v 101 else v 95 := e104.trans (by rw [f98])
          have f131 : v 131 = v 128 := e131.trans (keep_ite e129)
          have n138 : v 138 = if (0 : Int) ≠ 0 then (1 : Int) else v 128 := e138.trans (by rw [f90, f131])
          have f138 : v 138 = v 128 := n138.trans (if_neg (by decide))
          have n139 : v 139 = if (0 : Int) ≠ 0 then (0 : Int) else v 132 := e139.trans (by rw [f90])
          have f139 : v 139 = v 132 := n139.trans (if_neg (by decide))
          have n140 : v 140 = if (0 : Int) ≠ 0 then (0 : Int) else v 133 := e140.trans (by rw [f90])
          have f140 : v 140 = v 133 := n140.trans (if_neg (by decide))
          have n141 : v 141 = if (0 : Int) ≠ 0 then (0 : Int) else v 134 := e141.trans (by rw [f90])
          have f141 : v 141 = v 134 := n141.trans (if_neg (by decide))
          have n142 : v 142 = if (0 : Int) ≠ 0 then (0 : Int) else v 135 := e142.trans (by rw [f90])
          have f142 : v 142 = v 135 := n142.trans (if_neg (by decide))
          have n143 : v 143 = if (0 : Int) ≠ 0 then (0 : Int) else v 136 := e143.trans (by rw [f90])
          have f143 : v 143 = v 136 := n143.trans (if_neg (by decide))
          have n144 : v 144 = if (0 : Int) ≠ 0 then (0 : Int) else v 137 := e144.trans (by rw [f90])
          have f144 : v 144 = v 137 := n144.trans (if_neg (by decide))
          have n145 : v 145 = if (0 : Int) ≠ 0 then (1 : Int) else (0 : Int) := e145.trans (by rw [f90, f32])
          have f145 : v 145 = (0 : Int) := n145.trans (if_neg (by decide))
          have n147 : v 147 = if (1 : Int) ≠ 0 then (0 : Int) else (0 : Int) := e147.trans (by rw [f96, f40, f92])
          have f147 : v 147 = (0 : Int) := n147.trans (if_pos (by decide))
          have n148 : v 148 = b2i ((0 : Int) == (0 : Int)) := e148.trans (by rw [f147])
          have f148 : v 148 = (1 : Int) := n148.trans (by decide)
          have n150 : v 150 = if (1 : Int) ≠ 0 then (0 : Int) else (0 : Int) := e150.trans (by rw [f148, f52, f147])
          have f150 : v 150 = (0 : Int) := n150.trans (if_pos (by decide))
          have n154 : v 154 = b2i ((0 : Int) == (0 : Int)) := e154.trans (by rw [f150])
          have f154 : v 154 = (1 : Int) := n154.trans (by decide)
          have n156 : v 156 = if (1 : Int) ≠ 0 then v 153 else (0 : Int) := e156.trans (by rw [f154, f150])
          have f156 : v 156 = v 153 := n156.trans (if_pos (by decide))
          have n160 : v 160 = b2i (v 153 == (0 : Int)) := e160.trans (by rw [f156])
          have n162 : v 162 = if v 160 ≠ 0 then v 159 else v 153 := e162.trans (by rw [f156])
          have f225 : v 225 = v 222 := e225.trans (keep_ite e223)
          have n232 : v 232 = if (0 : Int) ≠ 0 then (1 : Int) else v 222 := e232.trans (by rw [f145, f225])
          have f232 : v 232 = v 222 := n232.trans (if_neg (by decide))
          have n233 : v 233 = if (0 : Int) ≠ 0 then (0 : Int) else v 226 := e233.trans (by rw [f145])
          have f233 : v 233 = v 226 := n233.trans (if_neg (by decide))
          have n234 : v 234 = if (0 : Int) ≠ 0 then (0 : Int) else v 227 := e234.trans (by rw [f145])
          have f234 : v 234 = v 227 := n234.trans (if_neg (by decide))
          have n235 : v 235 = if (0 : Int) ≠ 0 then (0 : Int) else v 228 := e235.trans (by rw [f145])
          have f235 : v 235 = v 228 := n235.trans (if_neg (by decide))
          have n236 : v 236 = if (0 : Int) ≠ 0 then (0 : Int) else v 229 := e236.trans (by rw [f145])
          have f236 : v 236 = v 229 := n236.trans (if_neg (by decide))
          have n237 : v 237 = if (0 : Int) ≠ 0 then (0 : Int) else v 230 := e237.trans (by rw [f145])
          have f237 : v 237 = v 230 := n237.trans (if_neg (by decide))
          have n238 : v 238 = if (0 : Int) ≠ 0 then (0 : Int) else v 231 := e238.trans (by rw [f145])
          have f238 : v 238 = v 231 := n238.trans (if_neg (by decide))
          have f241 : v 241 = (1 : Int) := A241.trans (by rw [ha]; rfl)
          have f243 : v 243 = (1 : Int) := A243.trans (by rw [hb]; rfl)
          have n244 : v 244 = if (1 : Int) ≠ 0 then (1 : Int) else (0 : Int) := e244.trans (by rw [f241, f243])
          have f244 : v 244 = (1 : Int) := n244.trans (if_pos (by decide))
          have n245 : v 245 = if (1 : Int) ≠ 0 then (0 : Int) else (1 : Int) := e245.trans (by rw [f244])
          have f245 : v 245 = (0 : Int) := n245.trans (if_pos (by decide))
          have f278 : v 278 = v 44 := e278.trans (fit_ite e276 (fun q => e44.trans ((sem_fit0 _ _ _ _ (fun u => q (e46.trans u))).1)))
          have f279 : v 279 = v 45 := e279.trans (fit_ite e276 (fun q => e45.trans ((sem_fit0 _ _ _ _ (fun u => q (e46.trans u))).2)))
          have f280 : v 280 = v 53 := e280.trans n53.symm
          have n282 : v 282 = if v 53 ≠ 0 then v 58 else v 46 := e282.trans (by rw [f280])
          have f282 : v 282 = v 61 := n282.trans n61.symm
          have f285 : v 285 = v 56 := e285.trans (fit_ite e283 (fun q => e56.trans ((sem_fit0 _ _ _ _ (fun u => q (e58.trans u))).1)))
          have f286 : v 286 = v 57 := e286.trans (fit_ite e283 (fun q => e57.trans ((sem_fit0 _ _ _ _ (fun u => q (e58.trans u))).2)))
          have n287 : v 287 = b2i (v 61 != (0 : Int)) := e287.trans (by rw [f282])
          have f287 : v 287 = v 68 := n287.trans n68.symm
          have n289 : v 289 = if v 68 ≠ 0 then v 61 else (0 : Int) := e289.trans (by rw [f287, f282])
          have f289 : v 289 = v 61 := n289.trans (keep_ite n68)
          have n290 : v 290 = if v 68 ≠ 0 then (0 : Int) else v 44 := e290.trans (by rw [f287, f278])
          have f290 : v 290 = v 71 := n290.trans e71.symm
          have n291 : v 291 = if v 68 ≠ 0 then (0 : Int) else v 45 := e291.trans (by rw [f287, f279])
          have f291 : v 291 = v 72 := n291.trans e72.symm
          have n292 : v 292 = if v 68 ≠ 0 then (0 : Int) else v 56 := e292.trans (by rw [f287, f285])
          have f292 : v 292 = v 73 := n292.trans e73.symm
          have n293 : v 293 = if v 68 ≠ 0 then (0 : Int) else v 57 := e293.trans (by rw [f287, f286])
          have f293 : v 293 = v 74 := n293.trans e74.symm
          have n294 : v 294 = if v 68 ≠ 0 then (0 : Int) else v 62 := e294.trans (by rw [f287])
          have f294 : v 294 = v 75 := n294.trans e75.symm
          have n295 : v 295 = if v 68 ≠ 0 then (0 : Int) else v 63 := e295.trans (by rw [f287])
          have f295 : v 295 = v 76 := n295.trans e76.symm
          have n296 : v 296 = b2i (v 71 == v 71) := e296.trans (by rw [f78, f290])
          have f296 : v 296 = (1 : Int) := n296.trans (by simp [b2i])
          have n297 : v 297 = b2i (v 72 == v 72) := e297.trans (by rw [f79, f291])
          have f297 : v 297 = (1 : Int) := n297.trans (by simp [b2i])
          have n298 : v 298 = b2i (v 73 == v 73) := e298.trans (by rw [f80, f292])
          have f298 : v 298 = (1 : Int) := n298.trans (by simp [b2i])
          have n299 : v 299 = b2i (v 74 == v 74) := e299.trans (by rw [f81, f293])
          have f299 : v 299 = (1 : Int) := n299.trans (by simp [b2i])
          have n300 : v 300 = b2i (v 75 == v 75) := e300.trans (by rw [f82, f294])
          have f300 : v 300 = (1 : Int) := n300.trans (by simp [b2i])
          have n301 : v 301 = b2i (v 76 == v 76) := e301.trans (by rw [f83, f295])
          have f301 : v 301 = (1 : Int) := n301.trans (by simp [b2i])
          have n302 : v 302 = if (1 : Int) ≠ 0 then (1 : Int) else (0 : Int) := e302.trans (by rw [f300, f301])
          have f302 : v 302 = (1 : Int) := n302.trans (if_pos (by decide))
          have n303 : v 303 = if (1 : Int) ≠ 0 then (1 : Int) else (0 : Int) := e303.trans (by rw [f299, f302])
          have f303 : v 303 = (1 : Int) := n303.trans (if_pos (by decide))
          have n304 : v 304 = if (1 : Int) ≠ 0 then (1 : Int) else (0 : Int) := e304.trans (by rw [f298, f303])
          have f304 : v 304 = (1 : Int) := n304.trans (if_pos (by decide))
          have n305 : v 305 = if (1 : Int) ≠ 0 then (1 : Int) else (0 : Int) := e305.trans (by rw [f297, f304])
          have f305 : v 305 = (1 : Int) := n305.trans (if_pos (by decide))
          have n306 : v 306 = if (1 : Int) ≠ 0 then (1 : Int) else (0 : Int) := e306.trans (by rw [f296, f305])
          have f306 : v 306 = (1 : Int) := n306.trans (if_pos (by decide))
          have n307 : v 307 = b2i (v 61 == v 61) := e307.trans (by rw [f77, f289])
          have f307 : v 307 = (1 : Int) := n307.trans (by simp [b2i])
          have n308 : v 308 = if (1 : Int) ≠ 0 then (1 : Int) else (0 : Int) := e308.trans (by rw [f306, f307])
          have f308 : v 308 = (1 : Int) := n308.trans (if_pos (by decide))
          have n309 : v 309 = if (1 : Int) ≠ 0 then (0 : Int) else (1 : Int) := e309.trans (by rw [f308])
          have f309 : v 309 = (0 : Int) := n309.trans (if_pos (by decide))
          have n311 : v 311 = if (0 : Int) ≠ 0 then v 274 else (0 : Int) := e311.trans (by rw [f245])
          have f311 : v 311 = (0 : Int) := n311.trans (if_neg (by decide))
          have n313 : v 313 = if (1 : Int) ≠ 0 then (0 : Int) else (0 : Int) := e313.trans (by rw [f244, f309])
          have f313 : v 313 = (0 : Int) := n313.trans (if_pos (by decide))
          have n315 : v 315 = if (0 : Int) ≠ 0 then (1 : Int) else (0 : Int) := e315.trans (by rw [f311, f313])
          have f315 : v 315 = (0 : Int) := n315.trans (if_neg (by decide))
          have n331 : v 331 = if (1 : Int) ≠ 0 then (0 : Int) else (1 : Int) := e331.trans (by rw [f241])
          have f331 : v 331 = (0 : Int) := n331.trans (if_pos (by decide))
          have f334 : v 334 = v 93 := e334.trans (fit_ite e332 (fun q => e93.trans ((sem_fit0 _ _ _ _ (fun u => q (e95.trans u))).1)))
          have f335 : v 335 = v 94 := e335.trans (fit_ite e332 (fun q => e94.trans ((sem_fit0 _ _ _ _ (fun u => q (e95.trans u))).2)))
          have f336 : v 336 = v 102 := e336.trans n102.symm
          have n338 : v 338 = if v 102 ≠ 0 then v 101 else v 95 := e338.trans (by rw [f336])
          have f338 : v 338 = v 104 := n338.trans n104.symm
          have f341 : v 341 = v 99 := e341.trans (fit_ite e339 (fun q => e99.trans ((sem_fit0 _ _ _ _ (fun u => q (e101.trans u))).1)))
          have f342 : v 342 = v 100 := e342.trans (fit_ite e339 (fun q => e100.trans ((sem_fit0 _ _ _ _ (fun u => q (e101.trans u))).2)))
          have n343 : v 343 = (semB 2 [v 93, v 94, v 99, v 100]).getD 0 0 := e343.trans (by rw [f334, f335, f341, f342])
          have f343 : v 343 = v 105 := n343.trans e105.symm
          have n344 : v 344 = (semB 2 [v 93, v 94, v 99, v 100]).getD 1 0 := e344.trans (by rw [f334, f335, f341, f342])
          have f344 : v 344 = v 106 := n344.trans e106.symm
          have n345 : v 345 = (semB 2 [v 93, v 94, v 99, v 100]).getD 2 0 := e345.trans (by rw [f334, f335, f341, f342])
          have f345 : v 345 = v 107 := n345.trans e107.symm
          have n346 : v 346 = b2i (v 104 == (0 : Int)) := e346.trans (by rw [f338])
          have f346 : v 346 = v 108 := n346.trans e108.symm
          have n348 : v 348 = if v 108 ≠ 0 then v 107 else v 104 := e348.trans (by rw [f346, f345, f338])
          have f348 : v 348 = v 110 := n348.trans e110.symm
          have n349 : v 349 = b2i (v 107 != (0 : Int)) := e349.trans (by rw [f345])
          have n351 : v 351 = if v 349 ≠ 0 then (0 : Int) else v 105 := e351.trans (by rw [f343])
          have f351 : v 351 = v 105 := n351.trans (fit_ite n349 (fun q => e105.trans ((sem_fit2 _ _ _ _ (fun u => q (e107.trans u))).1)))
          have n352 : v 352 = if v 349 ≠ 0 then (0 : Int) else v 106 := e352.trans (by rw [f344])
          have f352 : v 352 = v 106 := n352.trans (fit_ite n349 (fun q => e106.trans ((sem_fit2 _ _ _ _ (fun u => q (e107.trans u))).2)))
          have n353 : v 353 = b2i (v 110 == (0 : Int)) := e353.trans (by rw [f348])
          have f353 : v 353 = v 114 := n353.trans e114.symm
          have n355 : v 355 = if v 114 ≠ 0 then v 113 else v 110 := e355.trans (by rw [f353, f348])
          have f355 : v 355 = v 116 := n355.trans e116.symm
          have f358 : v 358 = v 111 := e358.trans (fit_ite e356 (fun q => e111.trans ((sem_fit0 _ _ _ _ (fun u => q (e113.trans u))).1)))
          have f359 : v 359 = v 112 := e359.trans (fit_ite e356 (fun q => e112.trans ((sem_fit0 _ _ _ _ (fun u => q (e113.trans u))).2)))
          have n360 : v 360 = b2i (v 116 == (0 : Int)) := e360.trans (by rw [f355])
          have f360 : v 360 = v 120 := n360.trans e120.symm
          have n362 : v 362 = if v 120 ≠ 0 then v 119 else v 116 := e362.trans (by rw [f360, f355])
          have f362 : v 362 = v 122 := n362.trans e122.symm
          have f365 : v 365 = v 117 := e365.trans (fit_ite e363 (fun q => e117.trans ((sem_fit0 _ _ _ _ (fun u => q (e119.trans u))).1)))
          have f366 : v 366 = v 118 := e366.trans (fit_ite e363 (fun q => e118.trans ((sem_fit0 _ _ _ _ (fun u => q (e119.trans u))).2)))
          have n367 : v 367 = (semB 1 [v 111, v 112, v 117, v 118]).getD 0 0 := e367.trans (by rw [f358, f359, f365, f366])
          have f367 : v 367 = v 123 := n367.trans e123.symm
          have n368 : v 368 = (semB 1 [v 111, v 112, v 117, v 118]).getD 1 0 := e368.trans (by rw [f358, f359, f365, f366])
          have f368 : v 368 = v 124 := n368.trans e124.symm
          have n369 : v 369 = (semB 1 [v 111, v 112, v 117, v 118]).getD 2 0 := e369.trans (by rw [f358, f359, f365, f366])
          have f369 : v 369 = v 125 := n369.trans e125.symm
          have n370 : v 370 = b2i (v 122 == (0 : Int)) := e370.trans (by rw [f362])
          have f370 : v 370 = v 126 := n370.trans e126.symm
          have n372 : v 372 = if v 126 ≠ 0 then v 125 else v 122 := e372.trans (by rw [f370, f369, f362])
          have f372 : v 372 = v 128 := n372.trans e128.symm
          have n373 : v 373 = b2i (v 125 != (0 : Int)) := e373.trans (by rw [f369])
          have n375 : v 375 = if v 373 ≠ 0 then (0 : Int) else v 123 := e375.trans (by rw [f367])
          have f375 : v 375 = v 123 := n375.trans (fit_ite n373 (fun q => e123.trans ((sem_fit1 _ _ _ _ (fun u => q (e125.trans u))).1)))
          have n376 : v 376 = if v 373 ≠ 0 then (0 : Int) else v 124 := e376.trans (by rw [f368])
          have f376 : v 376 = v 124 := n376.trans (fit_ite n373 (fun q => e124.trans ((sem_fit1 _ _ _ _ (fun u => q (e125.trans u))).2)))
          have n377 : v 377 = b2i (v 128 != (0 : Int)) := e377.trans (by rw [f372])
          have f377 : v 377 = v 129 := n377.trans e129.symm
          have n379 : v 379 = if v 129 ≠ 0 then v 128 else (0 : Int) := e379.trans (by rw [f377, f372])
          have f379 : v 379 = v 128 := n379.trans (keep_ite e129)
          have n380 : v 380 = if v 129 ≠ 0 then (0 : Int) else v 105 := e380.trans (by rw [f377, f351])
          have f380 : v 380 = v 132 := n380.trans e132.symm
          have n381 : v 381 = if v 129 ≠ 0 then (0 : Int) else v 106 := e381.trans (by rw [f377, f352])
          have f381 : v 381 = v 133 := n381.trans e133.symm
          have n382 : v 382 = if v 129 ≠ 0 then (0 : Int) else v 123 := e382.trans (by rw [f377, f375])
          have f382 : v 382 = v 134 := n382.trans e134.symm
          have n383 : v 383 = if v 129 ≠ 0 then (0 : Int) else v 124 := e383.trans (by rw [f377, f376])
          have f383 : v 383 = v 135 := n383.trans e135.symm
          have n384 : v 384 = if v 129 ≠ 0 then (0 : Int) else v 4 := e384.trans (by rw [f377])
          have f384 : v 384 = v 136 := n384.trans e136.symm
          have n385 : v 385 = if v 129 ≠ 0 then (0 : Int) else v 5 := e385.trans (by rw [f377])
          have f385 : v 385 = v 137 := n385.trans e137.symm
          have n386 : v 386 = b2i (v 132 == v 132) := e386.trans (by rw [f139, f380])
          have f386 : v 386 = (1 : Int) := n386.trans (by simp [b2i])
          have n387 : v 387 = b2i (v 133 == v 133) := e387.trans (by rw [f140, f381])
          have f387 : v 387 = (1 : Int) := n387.trans (by simp [b2i])
          have n388 : v 388 = b2i (v 134 == v 134) := e388.trans (by rw [f141, f382])
          have f388 : v 388 = (1 : Int) := n388.trans (by simp [b2i])
          have n389 : v 389 = b2i (v 135 == v 135) := e389.trans (by rw [f142, f383])
          have f389 : v 389 = (1 : Int) := n389.trans (by simp [b2i])
          have n390 : v 390 = b2i (v 136 == v 136) := e390.trans (by rw [f143, f384])
          have f390 : v 390 = (1 : Int) := n390.trans (by simp [b2i])
          have n391 : v 391 = b2i (v 137 == v 137) := e391.trans (by rw [f144, f385])
          have f391 : v 391 = (1 : Int) := n391.trans (by simp [b2i])
          have n392 : v 392 = if (1 : Int) ≠ 0 then (1 : Int) else (0 : Int) := e392.trans (by rw [f390, f391])
          have f392 : v 392 = (1 : Int) := n392.trans (if_pos (by decide))
          have n393 : v 393 = if (1 : Int) ≠ 0 then (1 : Int) else (0 : Int) := e393.trans (by rw [f389, f392])
          have f393 : v 393 = (1 : Int) := n393.trans (if_pos (by decide))
          have n394 : v 394 = if (1 : Int) ≠ 0 then (1 : Int) else (0 : Int) := e394.trans (by rw [f388, f393])
          have f394 : v 394 = (1 : Int) := n394.trans (if_pos (by decide))
          have n395 : v 395 = if (1 : Int) ≠ 0 then (1 : Int) else (0 : Int) := e395.trans (by rw [f387, f394])
          have f395 : v 395 = (1 : Int) := n395.trans (if_pos (by decide))
          have n396 : v 396 = if (1 : Int) ≠ 0 then (1 : Int) else (0 : Int) := e396.trans (by rw [f386, f395])
          have f396 : v 396 = (1 : Int) := n396.trans (if_pos (by decide))
          have n397 : v 397 = b2i (v 128 == v 128) := e397.trans (by rw [f138, f379])
          have f397 : v 397 = (1 : Int) := n397.trans (by simp [b2i])
          have n398 : v 398 = if (1 : Int) ≠ 0 then (1 : Int) else (0 : Int) := e398.trans (by rw [f396, f397])
          have f398 : v 398 = (1 : Int) := n398.trans (if_pos (by decide))
          have n399 : v 399 = if (1 : Int) ≠ 0 then (0 : Int) else (1 : Int) := e399.trans (by rw [f398])
          have f399 : v 399 = (0 : Int) := n399.trans (if_pos (by decide))
          have f402 : v 402 = v 151 := e402.trans (fit_ite e400 (fun q => e151.trans ((sem_fit0 _ _ _ _ (fun u => q (e153.trans u))).1)))
          have f403 : v 403 = v 152 := e403.trans (fit_ite e400 (fun q => e152.trans ((sem_fit0 _ _ _ _ (fun u => q (e153.trans u))).2)))
          have f404 : v 404 = v 160 := e404.trans n160.symm
          have n406 : v 406 = if v 160 ≠ 0 then v 159 else v 153 := e406.trans (by rw [f404])
          have f406 : v 406 = v 162 := n406.trans n162.symm
          have f409 : v 409 = v 157 := e409.trans (fit_ite e407 (fun q => e157.trans ((sem_fit0 _ _ _ _ (fun u => q (e159.trans u))).1)))
          have f410 : v 410 = v 158 := e410.trans (fit_ite e407 (fun q => e158.trans ((sem_fit0 _ _ _ _ (fun u => q (e159.trans u))).2)))
          have n411 : v 411 = (semB 2 [v 151, v 152, v 157, v 158]).getD 0 0 := e411.trans (by rw [f402, f403, f409, f410])
          have f411 : v 411 = v 163 := n411.trans e163.symm
          have n412 : v 412 = (semB 2 [v 151, v 152, v 157, v 158]).getD 1 0 := e412.trans (by rw [f402, f403, f409, f410])
          have f412 : v 412 = v 164 := n412.trans e164.symm
          have n413 : v 413 = (semB 2 [v 151, v 152, v 157, v 158]).getD 2 0 := e413.trans (by rw [f402, f403, f409, f410])
          have f413 : v 413 = v 165 := n413.trans e165.symm
          have n414 : v 414 = b2i (v 162 == (0 : Int)) := e414.trans (by rw [f406])
          have f414 : v 414 = v 166 := n414.trans e166.symm
          have n416 : v 416 = if v 166 ≠ 0 then v 165 else v 162 := e416.trans (by rw [f414, f413, f406])
          have f416 : v 416 = v 168 := n416.trans e168.symm
          have n417 : v 417 = b2i (v 165 != (0 : Int)) := e417.trans (by rw [f413])
          have n419 : v 419 = if v 417 ≠ 0 then (0 : Int) else v 163 := e419.trans (by rw [f411])
          have f419 : v 419 = v 163 := n419.trans (fit_ite n417 (fun q => e163.trans ((sem_fit2 _ _ _ _ (fun u => q (e165.trans u))).1)))
          have n420 : v 420 = if v 417 ≠ 0 then (0 : Int) else v 164 := e420.trans (by rw [f412])
          have f420 : v 420 = v 164 := n420.trans (fit_ite n417 (fun q => e164.trans ((sem_fit2 _ _ _ _ (fun u => q (e165.trans u))).2)))
          have n421 : v 421 = b2i (v 168 == (0 : Int)) := e421.trans (by rw [f416])
          have f421 : v 421 = v 172 := n421.trans e172.symm
          have n423 : v 423 = if v 172 ≠ 0 then v 171 else v 168 := e423.trans (by rw [f421, f416])
          have f423 : v 423 = v 174 := n423.trans e174.symm
          have f426 : v 426 = v 169 := e426.trans (fit_ite e424 (fun q => e169.trans ((sem_fit0 _ _ _ _ (fun u => q (e171.trans u))).1)))
          have f427 : v 427 = v 170 := e427.trans (fit_ite e424 (fun q => e170.trans ((sem_fit0 _ _ _ _ (fun u => q (e171.trans u))).2)))
          have n428 : v 428 = b2i (v 174 == (0 : Int)) := e428.trans (by rw [f423])
          have f428 : v 428 = v 178 := n428.trans e178.symm
          have n430 : v 430 = if v 178 ≠ 0 then v 177 else v 174 := e430.trans (by rw [f428, f423])
          have f430 : v 430 = v 180 := n430.trans e180.symm
          have f433 : v 433 = v 175 := e433.trans (fit_ite e431 (fun q => e175.trans ((sem_fit0 _ _ _ _ (fun u => q (e177.trans u))).1)))
          have f434 : v 434 = v 176 := e434.trans (fit_ite e431 (fun q => e176.trans ((sem_fit0 _ _ _ _ (fun u => q (e177.trans u))).2)))
          have n435 : v 435 = (semB 1 [v 169, v 170, v 175, v 176]).getD 0 0 := e435.trans (by rw [f426, f427, f433, f434])
          have f435 : v 435 = v 181 := n435.trans e181.symm
          have n436 : v 436 = (semB 1 [v 169, v 170, v 175, v 176]).getD 1 0 := e436.trans (by rw [f426, f427, f433, f434])
          have f436 : v 436 = v 182 := n436.trans e182.symm
          have n437 : v 437 = (semB 1 [v 169, v 170, v 175, v 176]).getD 2 0 := e437.trans (by rw [f426, f427, f433, f434])
          have f437 : v 437 = v 183 := n437.trans e183.symm
          have n438 : v 438 = b2i (v 180 == (0 : Int)) := e438.trans (by rw [f430])
          have f438 : v 438 = v 184 := n438.trans e184.symm
          have n440 : v 440 = if v 184 ≠ 0 then v 183 else v 180 := e440.trans (by rw [f438, f437, f430])
          have f440 : v 440 = v 186 := n440.trans e186.symm
          have n441 : v 441 = b2i (v 183 != (0 : Int)) := e441.trans (by rw [f437])
          have n443 : v 443 = if v 441 ≠ 0 then (0 : Int) else v 181 := e443.trans (by rw [f435])
          have f443 : v 443 = v 181 := n443.trans (fit_ite n441 (fun q => e181.trans ((sem_fit1 _ _ _ _ (fun u => q (e183.trans u))).1)))
          have n444 : v 444 = if v 441 ≠ 0 then (0 : Int) else v 182 := e444.trans (by rw [f436])
          have f444 : v 444 = v 182 := n444.trans (fit_ite n441 (fun q => e182.trans ((sem_fit1 _ _ _ _ (fun u => q (e183.trans u))).2)))
          have n445 : v 445 = b2i (v 186 == (0 : Int)) := e445.trans (by rw [f440])
          have f445 : v 445 = v 190 := n445.trans e190.symm
          have n447 : v 447 = if v 190 ≠ 0 then v 189 else v 186 := e447.trans (by rw [f445, f440])
          have f447 : v 447 = v 192 := n447.trans e192.symm
          have f450 : v 450 = v 187 := e450.trans (fit_ite e448 (fun q => e187.trans ((sem_fit0 _ _ _ _ (fun u => q (e189.trans u))).1)))
          have f451 : v 451 = v 188 := e451.trans (fit_ite e448 (fun q => e188.trans ((sem_fit0 _ _ _ _ (fun u => q (e189.trans u))).2)))
          have n452 : v 452 = (semB 0 [v 181, v 182, v 62, v 63]).getD 0 0 := e452.trans (by rw [f443, f444])
          have f452 : v 452 = v 193 := n452.trans e193.symm
          have n453 : v 453 = (semB 0 [v 181, v 182, v 62, v 63]).getD 1 0 := e453.trans (by rw [f443, f444])
          have f453 : v 453 = v 194 := n453.trans e194.symm
          have n454 : v 454 = (semB 0 [v 181, v 182, v 62, v 63]).getD 2 0 := e454.trans (by rw [f443, f444])
          have f454 : v 454 = v 195 := n454.trans e195.symm
          have n455 : v 455 = b2i (v 192 == (0 : Int)) := e455.trans (by rw [f447])
          have f455 : v 455 = v 196 := n455.trans e196.symm
          have n457 : v 457 = if v 196 ≠ 0 then v 195 else v 192 := e457.trans (by rw [f455, f454, f447])
          have f457 : v 457 = v 198 := n457.trans e198.symm
          have n458 : v 458 = b2i (v 195 != (0 : Int)) := e458.trans (by rw [f454])
          have n460 : v 460 = if v 458 ≠ 0 then (0 : Int) else v 193 := e460.trans (by rw [f452])
          have f460 : v 460 = v 193 := n460.trans (fit_ite n458 (fun q => e193.trans ((sem_fit0 _ _ _ _ (fun u => q (e195.trans u))).1)))
          have n461 : v 461 = if v 458 ≠ 0 then (0 : Int) else v 194 := e461.trans (by rw [f453])
          have f461 : v 461 = v 194 := n461.trans (fit_ite n458 (fun q => e194.trans ((sem_fit0 _ _ _ _ (fun u => q (e195.trans u))).2)))
          have n462 : v 462 = (semB 2 [v 187, v 188, v 193, v 194]).getD 0 0 := e462.trans (by rw [f450, f451, f460, f461])
          have f462 : v 462 = v 199 := n462.trans e199.symm
          have n463 : v 463 = (semB 2 [v 187, v 188, v 193, v 194]).getD 1 0 := e463.trans (by rw [f450, f451, f460, f461])
          have f463 : v 463 = v 200 := n463.trans e200.symm
          have n464 : v 464 = (semB 2 [v 187, v 188, v 193, v 194]).getD 2 0 := e464.trans (by rw [f450, f451, f460, f461])
          have f464 : v 464 = v 201 := n464.trans e201.symm
          have n465 : v 465 = b2i (v 198 == (0 : Int)) := e465.trans (by rw [f457])
          have f465 : v 465 = v 202 := n465.trans e202.symm
          have n467 : v 467 = if v 202 ≠ 0 then v 201 else v 198 := e467.trans (by rw [f465, f464, f457])
          have f467 : v 467 = v 204 := n467.trans e204.symm
          have n468 : v 468 = b2i (v 201 != (0 : Int)) := e468.trans (by rw [f464])
          have n470 : v 470 = if v 468 ≠ 0 then (0 : Int) else v 199 := e470.trans (by rw [f462])
          have f470 : v 470 = v 199 := n470.trans (fit_ite n468 (fun q => e199.trans ((sem_fit2 _ _ _ _ (fun u => q (e201.trans u))).1)))
          have n471 : v 471 = if v 468 ≠ 0 then (0 : Int) else v 200 := e471.trans (by rw [f463])
          have f471 : v 471 = v 200 := n471.trans (fit_ite n468 (fun q => e200.trans ((sem_fit2 _ _ _ _ (fun u => q (e201.trans u))).2)))
          have n472 : v 472 = b2i (v 204 == (0 : Int)) := e472.trans (by rw [f467])
          have f472 : v 472 = v 208 := n472.trans e208.symm
          have n474 : v 474 = if v 208 ≠ 0 then v 207 else v 204 := e474.trans (by rw [f472, f467])
          have f474 : v 474 = v 210 := n474.trans e210.symm
          have f477 : v 477 = v 205 := e477.trans (fit_ite e475 (fun q => e205.trans ((sem_fit0 _ _ _ _ (fun u => q (e207.trans u))).1)))
          have f478 : v 478 = v 206 := e478.trans (fit_ite e475 (fun q => e206.trans ((sem_fit0 _ _ _ _ (fun u => q (e207.trans u))).2)))
          have n479 : v 479 = (semB 0 [v 181, v 182, v 35, v 36]).getD 0 0 := e479.trans (by rw [f443, f444])
          have f479 : v 479 = v 211 := n479.trans e211.symm
          have n480 : v 480 = (semB 0 [v 181, v 182, v 35, v 36]).getD 1 0 := e480.trans (by rw [f443, f444])
          have f480 : v 480 = v 212 := n480.trans e212.symm
          have n481 : v 481 = (semB 0 [v 181, v 182, v 35, v 36]).getD 2 0 := e481.trans (by rw [f443, f444])
          have f481 : v 481 = v 213 := n481.trans e213.symm
          have n482 : v 482 = b2i (v 210 == (0 : Int)) := e482.trans (by rw [f474])
          have f482 : v 482 = v 214 := n482.trans e214.symm
          have n484 : v 484 = if v 214 ≠ 0 then v 213 else v 210 := e484.trans (by rw [f482, f481, f474])
          have f484 : v 484 = v 216 := n484.trans e216.symm
          have n485 : v 485 = b2i (v 213 != (0 : Int)) := e485.trans (by rw [f481])
          have n487 : v 487 = if v 485 ≠ 0 then (0 : Int) else v 211 := e487.trans (by rw [f479])
          have f487 : v 487 = v 211 := n487.trans (fit_ite n485 (fun q => e211.trans ((sem_fit0 _ _ _ _ (fun u => q (e213.trans u))).1)))
          have n488 : v 488 = if v 485 ≠ 0 then (0 : Int) else v 212 := e488.trans (by rw [f480])
          have f488 : v 488 = v 212 := n488.trans (fit_ite n485 (fun q => e212.trans ((sem_fit0 _ _ _ _ (fun u => q (e213.trans u))).2)))
          have n489 : v 489 = (semB 1 [v 205, v 206, v 211, v 212]).getD 0 0 := e489.trans (by rw [f477, f478, f487, f488])
          have f489 : v 489 = v 217 := n489.trans e217.symm
          have n490 : v 490 = (semB 1 [v 205, v 206, v 211, v 212]).getD 1 0 := e490.trans (by rw [f477, f478, f487, f488])
          have f490 : v 490 = v 218 := n490.trans e218.symm
          have n491 : v 491 = (semB 1 [v 205, v 206, v 211, v 212]).getD 2 0 := e491.trans (by rw [f477, f478, f487, f488])
          have f491 : v 491 = v 219 := n491.trans e219.symm
          have n492 : v 492 = b2i (v 216 == (0 : Int)) := e492.trans (by rw [f484])
          have f492 : v 492 = v 220 := n492.trans e220.symm
          have n494 : v 494 = if v 220 ≠ 0 then v 219 else v 216 := e494.trans (by rw [f492, f491, f484])
          have f494 : v 494 = v 222 := n494.trans e222.symm
          have n495 : v 495 = b2i (v 219 != (0 : Int)) := e495.trans (by rw [f491])
          have n497 : v 497 = if v 495 ≠ 0 then (0 : Int) else v 217 := e497.trans (by rw [f489])
          have f497 : v 497 = v 217 := n497.trans (fit_ite n495 (fun q => e217.trans ((sem_fit1 _ _ _ _ (fun u => q (e219.trans u))).1)))
          have n498 : v 498 = if v 495 ≠ 0 then (0 : Int) else v 218 := e498.trans (by rw [f490])
          have f498 : v 498 = v 218 := n498.trans (fit_ite n495 (fun q => e218.trans ((sem_fit1 _ _ _ _ (fun u => q (e219.trans u))).2)))
          have n499 : v 499 = b2i (v 222 != (0 : Int)) := e499.trans (by rw [f494])
          have f499 : v 499 = v 223 := n499.trans e223.symm
          have n501 : v 501 = if v 223 ≠ 0 then v 222 else (0 : Int) := e501.trans (by rw [f499, f494])
          have f501 : v 501 = v 222 := n501.trans (keep_ite e223)
          have n502 : v 502 = if v 223 ≠ 0 then (0 : Int) else v 163 := e502.trans (by rw [f499, f419])
          have f502 : v 502 = v 226 := n502.trans e226.symm
          have n503 : v 503 = if v 223 ≠ 0 then (0 : Int) else v 164 := e503.trans (by rw [f499, f420])
          have f503 : v 503 = v 227 := n503.trans e227.symm
          have n504 : v 504 = if v 223 ≠ 0 then (0 : Int) else v 199 := e504.trans (by rw [f499, f470])
          have f504 : v 504 = v 228 := n504.trans e228.symm
          have n505 : v 505 = if v 223 ≠ 0 then (0 : Int) else v 200 := e505.trans (by rw [f499, f471])
          have f505 : v 505 = v 229 := n505.trans e229.symm
          have n506 : v 506 = if v 223 ≠ 0 then (0 : Int) else v 217 := e506.trans (by rw [f499, f497])
          have f506 : v 506 = v 230 := n506.trans e230.symm
          have n507 : v 507 = if v 223 ≠ 0 then (0 : Int) else v 218 := e507.trans (by rw [f499, f498])
          have f507 : v 507 = v 231 := n507.trans e231.symm
          have n508 : v 508 = b2i (v 226 == v 226) := e508.trans (by rw [f233, f502])
          have f508 : v 508 = (1 : Int) := n508.trans (by simp [b2i])
          have n509 : v 509 = b2i (v 227 == v 227) := e509.trans (by rw [f234, f503])
          have f509 : v 509 = (1 : Int) := n509.trans (by simp [b2i])
          have n510 : v 510 = b2i (v 228 == v 228) := e510.trans (by rw [f235, f504])
          have f510 : v 510 = (1 : Int) := n510.trans (by simp [b2i])
          have n511 : v 511 = b2i (v 229 == v 229) := e511.trans (by rw [f236, f505])
          have f511 : v 511 = (1 : Int) := n511.trans (by simp [b2i])
          have n512 : v 512 = b2i (v 230 == v 230) := e512.trans (by rw [f237, f506])
          have f512 : v 512 = (1 : Int) := n512.trans (by simp [b2i])
          have n513 : v 513 = b2i (v 231 == v 231) := e513.trans (by rw [f238, f507])
          have f513 : v 513 = (1 : Int) := n513.trans (by simp [b2i])
          have n514 : v 514 = if (1 : Int) ≠ 0 then (1 : Int) else (0 : Int) := e514.trans (by rw [f512, f513])
          have f514 : v 514 = (1 : Int) := n514.trans (if_pos (by decide))
          have n515 : v 515 = if (1 : Int) ≠ 0 then (1 : Int) else (0 : Int) := e515.trans (by rw [f511, f514])
          have f515 : v 515 = (1 : Int) := n515.trans (if_pos (by decide))
          have n516 : v 516 = if (1 : Int) ≠ 0 then (1 : Int) else (0 : Int) := e516.trans (by rw [f510, f515])
          have f516 : v 516 = (1 : Int) := n516.trans (if_pos (by decide))
          have n517 : v 517 = if (1 : Int) ≠ 0 then (1 : Int) else (0 : Int) := e517.trans (by rw [f509, f516])
          have f517 : v 517 = (1 : Int) := n517.trans (if_pos (by decide))
          have n518 : v 518 = if (1 : Int) ≠ 0 then (1 : Int) else (0 : Int) := e518.trans (by rw [f508, f517])
          have f518 : v 518 = (1 : Int) := n518.trans (if_pos (by decide))
          have n519 : v 519 = b2i (v 222 == v 222) := e519.trans (by rw [f232, f501])
          have f519 : v 519 = (1 : Int) := n519.trans (by simp [b2i])
          have n520 : v 520 = if (1 : Int) ≠ 0 then (1 : Int) else (0 : Int) := e520.trans (by rw [f518, f519])
          have f520 : v 520 = (1 : Int) := n520.trans (if_pos (by decide))
          have n521 : v 521 = if (0 : Int) ≠ 0 then (1 : Int) else (1 : Int) := e521.trans (by rw [f245, f520])
          have f521 : v 521 = (1 : Int) := n521.trans (if_neg (by decide))
          have n522 : v 522 = if (0 : Int) ≠ 0 then (0 : Int) else (1 : Int) := e522.trans (by rw [f399, f521])
          have f522 : v 522 = (1 : Int) := n522.trans (if_neg (by decide))
          have n523 : v 523 = if (0 : Int) ≠ 0 then v 328 else (1 : Int) := e523.trans (by rw [f331, f522])
          have f523 : v 523 = (1 : Int) := n523.trans (if_neg (by decide))
          have n524 : v 524 = if (0 : Int) ≠ 0 then v 329 else (1 : Int) := e524.trans (by rw [f89, f523])
          have f524 : v 524 = (1 : Int) := n524.trans (if_neg (by decide))
          have n526 : v 526 = if (0 : Int) ≠ 0 then (0 : Int) else (1 : Int) := e526.trans (by rw [f315, f524])
          have f526 : v 526 = (1 : Int) := n526.trans (if_neg (by decide))
          have n529 : v 529 = if (0 : Int) ≠ 0 then (0 : Int) else (1 : Int) := e529.trans (by rw [f11, f526])
          have f529 : v 529 = (1 : Int) := n529.trans (if_neg (by decide))
          exact f529
        · skip
          have f10 : v 10 = (1 : Int) := e10.trans (by decide +kernel)
          have n11 : v 11 = if (1 : Int) ≠ 0 then (0 : Int) else (1 : Int) := e11.trans (by rw [f10])
          have f11 : v 11 = (0 : Int) := n11.trans (if_pos (by decide))
          have f21 : v 21 = (1 : Int) := A21.trans (by rw [ha]; rfl)
          have n22 : v 22 = if (1 : Int) ≠ 0 then (0 : Int) else (1 : Int) := e22.trans (by rw [f21])
          have f22 : v 22 = (0 : Int) := n22.trans (if_pos (by decide))
          have f31 : v 31 = (0 : Int) := A31.trans (by rw [hb]; rfl)
          have n32 : v 32 = if (0 : Int) ≠ 0 then (0 : Int) else (1 : Int) := e32.trans (by rw [f31])
          have f32 : v 32 = (1 : Int) := n32.trans (if_neg (by decide))
          have n33 : v 33 = if (0 : Int) ≠ 0 then (1 : Int) else (1 : Int) := e33.trans (by rw [f22, f32])
          have f33 : v 33 = (1 : Int) := n33.trans (if_neg (by decide))
          have f37 : v 37 = (0 : Int) := e37.trans (sem6e _ _)
          have n41 : v 41 = b2i ((0 : Int) == (0 : Int)) := e41.trans (by rw [f37])
          have f41 : v 41 = (1 : Int) := n41.trans (by decide)
          have f64 : v 64 = (0 : Int) := e64.trans (sem5e _ _)
          have n67 : v 67 = if v 65 ≠ 0 then (0 : Int) else v 61 := e67.trans (by rw [f64])
          have f67 : v 67 = v 61 := n67.trans (err_ite e65)
          have n68 : v 68 = b2i (v 61 != (0 : Int)) := e68.trans (by rw [f67])
          have n70 : v 70 = if v 68 ≠ 0 then v 61 else (0 : Int) := e70.trans (by rw [f67])
          have f70 : v 70 = v 61 := n70.trans (keep_ite n68)
          have n77 : v 77 = if (1 : Int) ≠ 0 then (1 : Int) else v 61 := e77.trans (by rw [f33, f70])
          have f77 : v 77 = (1 : Int) := n77.trans (if_pos (by decide))
          have n78 : v 78 = if (1 : Int) ≠ 0 then (0 : Int) else v 71 := e78.trans (by rw [f33])
          have f78 : v 78 = (0 : Int) := n78.trans (if_pos (by decide))
          have n79 : v 79 = if (1 : Int) ≠ 0 then (0 : Int) else v 72 := e79.trans (by rw [f33])
          have f79 : v 79 = (0 : Int) := n79.trans (if_pos (by decide))
          have n80 : v 80 = if (1 : Int) ≠ 0 then (0 : Int) else v 73 := e80.trans (by rw [f33])
          have f80 : v 80 = (0 : Int) := n80.trans (if_pos (by decide))
          have n81 : v 81 = if (1 : Int) ≠ 0 then (0 : Int) else v 74 := e81.trans (by rw [f33])
          have f81 : v 81 = (0 : Int) := n81.trans (if_pos (by decide))
          have n82 : v 82 = if (1 : Int) ≠ 0 then (0 : Int) else v 75 := e82.trans (by rw [f33])
          have f82 : v 82 = (0 : Int) := n82.trans (if_pos (by decide))
          have n83 : v 83 = if (1 : Int) ≠ 0 then (0 : Int) else v 76 := e83.trans (by rw [f33])
          have f83 : v 83 = (0 : Int) := n83.trans (if_pos (by decide))
          have f88 : v 88 = (1 : Int) := Q88.trans (by rw [hq]; rfl)
          have n89 : v 89 = if (1 : Int) ≠ 0 then (0 : Int) else (1 : Int) := e89.trans (by rw [f88])
          have f89 : v 89 = (0 : Int) := n89.trans (if_pos (by decide))
          have n90 : v 90 = if (0 : Int) ≠ 0 then (1 : Int) else (0 : Int) := e90.trans (by rw [f89, f22])
          have f90 : v 90 = (0 : Int) := n90.trans (if_neg (by decide))
          have n92 : v 92 = if (1 : Int) ≠ 0 then (0 : Int) else (0 : Int) := e92.trans (by rw [f41, f64, f37])
          have f92 : v 92 = (0 : Int) := n92.trans (if_pos (by decide))
          have n96 : v 96 = b2i ((0 : Int) == (0 : Int)) := e96.trans (by rw [f92])
          have f96 : v 96 = (1 : Int) := n96.trans (by decide)
          have n98 : v 98 = if (1 : Int) ≠ 0 then v 95 else (0 : Int) := e98.trans (by rw [f96, f92])
          have f98 : v 98 = v 95 := n98.trans (if_pos (by decide))
          have n102 : v 102 = b2i (v 95 == (0 : Int)) := e102.trans (by rw [f98])
          have n104 : v 104 = if v 102 ≠ 0 then v 101 else v 95 := e104.trans (by rw [f98])
          have f131 : v 131 = v 128 := e131.trans (keep_ite e129)
          have n138 : v 138 = if (0 : Int) ≠ 0 then (1 : Int) else v 128 := e138.trans (by rw [f90, f131])
          have f138 : v 138 = v 128 := n138.trans (if_neg (by decide))
          have n139 : v 139 = if (0 : Int) ≠ 0 then (0 : Int) else v 132 := e139.trans (by rw [f90])
          have f139 : v 139 = v 132 := n139.trans (if_neg (by decide))
          have n140 : v 140 = if (0 : Int) ≠ 0 then (0 : Int) else v 133 := e140.trans (by rw [f90])
          have f140 : v 140 = v 133 := n140.trans (if_neg (by decide))
          have n141 : v 141 = if (0 : Int) ≠ 0 then (0 : Int) else v 134 := e141.trans (by rw [f90])
          have f141 : v 141 = v 134 := n141.trans (if_neg (by decide))
          have n142 : v 142 = if (0 : Int) ≠ 0 then (0 : Int) else v 135 := e142.trans (by rw [f90])
          have f142 : v 142 = v 135 := n142.trans (if_neg (by decide))
          have n143 : v 143 = if (0 : Int) ≠ 0 then (0 : Int) else v 136 := e143.trans (by rw [f90])
          have f143 : v 143 = v 136 := n143.trans (if_neg (by decide))
          have n144 : v 144 = if (0 : Int) ≠ 0 then (0 : Int) else v 137 := e144.trans (by rw [f90])
          have f144 : v 144 = v 137 := n144.trans (if_neg (by decide))
          have n145 : v 145 = if (0 : Int) ≠ 0 then (1 : Int) else (1 : Int) := e145.trans (by rw [f90, f32])
          have f145 : v 145 = (1 : Int) := n145.trans (if_neg (by decide))
          have f225 : v 225 = v 222 := e225.trans (keep_ite e223)
          have n232 : v 232 = if (1 : Int) ≠ 0 then (1 : Int) else v 222 := e232.trans (by rw [f145, f225])
          have f232 : v 232 = (1 : Int) := n232.trans (if_pos (by decide))
          have n233 : v 233 = if (1 : Int) ≠ 0 then (0 : Int) else v 226 := e233.trans (by rw [f145])
          have f233 : v 233 = (0 : Int) := n233.trans (if_pos (by decide))
          have n234 : v 234 = if (1 : Int) ≠ 0 then (0 : Int) else v 227 := e234.trans (by rw [f145])
          have f234 : v 234 = (0 : Int) := n234.trans (if_pos (by decide))
          have n235 : v 235 = if (1 : Int) ≠ 0 then (0 : Int) else v 228 := e235.trans (by rw [f145])
          have f235 : v 235 = (0 : Int) := n235.trans (if_pos (by decide))
          have n236 : v 236 = if (1 : Int) ≠ 0 then (0 : Int) else v 229 := e236.trans (by rw [f145])
          have f236 : v 236 = (0 : Int) := n236.trans (if_pos (by decide))
          have n237 : v 237 = if (1 : Int) ≠ 0 then (0 : Int) else v 230 := e237.trans (by rw [f145])
          have f237 : v 237 = (0 : Int) := n237.trans (if_pos (by decide))
          have n238 : v 238 = if (1 : Int) ≠ 0 then (0 : Int) else v 231 := e238.trans (by rw [f145])
          have f238 : v 238 = (0 : Int) := n238.trans (if_pos (by decide))
          have f241 : v 241 = (1 : Int) := A241.trans (by rw [ha]; rfl)
          have f243 : v 243 = (0 : Int) := A243.trans (by rw [hb]; rfl)
          have n244 : v 244 = if (1 : Int) ≠ 0 then (0 : Int) else (0 : Int) := e244.trans (by rw [f241, f243])
          have f244 : v 244 = (0 : Int) := n244.trans (if_pos (by decide))
          have n245 : v 245 = if (0 : Int) ≠ 0 then (0 : Int) else (1 : Int) := e245.trans (by rw [f244])
          have f245 : v 245 = (1 : Int) := n245.trans (if_neg (by decide))
          have n246 : v 246 = b2i ((0 : Int) == (0 : Int)) := e246.trans (by rw [f78])
          have f246 : v 246 = (1 : Int) := n246.trans (by decide)
          have n247 : v 247 = b2i ((0 : Int) == (0 : Int)) := e247.trans (by rw [f79])
          have f247 : v 247 = (1 : Int) := n247.trans (by decide)
          have n248 : v 248 = b2i ((0 : Int) == (0 : Int)) := e248.trans (by rw [f80])
          have f248 : v 248 = (1 : Int) := n248.trans (by decide)
          have n249 : v 249 = b2i ((0 : Int) == (0 : Int)) := e249.trans (by rw [f81])
          have f249 : v 249 = (1 : Int) := n249.trans (by decide)
          have n250 : v 250 = b2i ((0 : Int) == (0 : Int)) := e250.trans (by rw [f82])
          have f250 : v 250 = (1 : Int) := n250.trans (by decide)
          have n251 : v 251 = b2i ((0 : Int) == (0 : Int)) := e251.trans (by rw [f83])
          have f251 : v 251 = (1 : Int) := n251.trans (by decide)
          have n252 : v 252 = if (1 : Int) ≠ 0 then (1 : Int) else (0 : Int) := e252.trans (by rw [f250, f251])
          have f252 : v 252 = (1 : Int) := n252.trans (if_pos (by decide))
          have n253 : v 253 = if (1 : Int) ≠ 0 then (1 : Int) else (0 : Int) := e253.trans (by rw [f249, f252])
          have f253 : v 253 = (1 : Int) := n253.trans (if_pos (by decide))
          have n254 : v 254 = if (1 : Int) ≠ 0 then (1 : Int) else (0 : Int) := e254.trans (by rw [f248, f253])
          have f254 : v 254 = (1 : Int) := n254.trans (if_pos (by decide))
          have n255 : v 255 = if (1 : Int) ≠ 0 then (1 : Int) else (0 : Int) := e255.trans (by rw [f247, f254])
          have f255 : v 255 = (1 : Int) := n255.trans (if_pos (by decide))
          have n256 : v 256 = if (1 : Int) ≠ 0 then (1 : Int) else (0 : Int) := e256.trans (by rw [f246, f255])
          have f256 : v 256 = (1 : Int) := n256.trans (if_pos (by decide))
          have n257 : v 257 = b2i ((1 : Int) == (1 : Int)) := e257.trans (by rw [f77])
          have f257 : v 257 = (1 : Int) := n257.trans (by decide)
          have n258 : v 258 = if (1 : Int) ≠ 0 then (1 : Int) else (0 : Int) := e258.trans (by rw [f256, f257])
          have f258 : v 258 = (1 : Int) := n258.trans (if_pos (by decide))
          have n259 : v 259 = if (1 : Int) ≠ 0 then (0 : Int) else (1 : Int) := e259.trans (by rw [f258])
          have f259 : v 259 = (0 : Int) := n259.trans (if_pos (by decide))
          have n260 : v 260 = b2i ((0 : Int) == (0 : Int)) := e260.trans (by rw [f233])
          have f260 : v 260 = (1 : Int) := n260.trans (by decide)
          have n261 : v 261 = b2i ((0 : Int) == (0 : Int)) := e261.trans (by rw [f234])
          have f261 : v 261 = (1 : Int) := n261.trans (by decide)
          have n262 : v 262 = b2i ((0 : Int) == (0 : Int)) := e262.trans (by rw [f235])
          have f262 : v 262 = (1 : Int) := n262.trans (by decide)
          have n263 : v 263 = b2i ((0 : Int) == (0 : Int)) := e263.trans (by rw [f236])
          have f263 : v 263 = (1 : Int) := n263.trans (by decide)
          have n264 : v 264 = b2i ((0 : Int) == (0 : Int)) := e264.trans (by rw [f237])
          have f264 : v 264 = (1 : Int) := n264.trans (by decide)
          have n265 : v 265 = b2i ((0 : Int) == (0 : Int)) := e265.trans (by rw [f238])
          have f265 : v 265 = (1 : Int) := n265.trans (by decide)
          have n266 : v 266 = if (1 : Int) ≠ 0 then (1 : Int) else (0 : Int) := e266.trans (by rw [f264, f265])
          have f266 : v 266 = (1 : Int) := n266.trans (if_pos (by decide))
          have n267 : v 267 = if (1 : Int) ≠ 0 then (1 : Int) else (0 : Int) := e267.trans (by rw [f263, f266])
          have f267 : v 267 = (1 : Int) := n267.trans (if_pos (by decide))
          have n268 : v 268 = if (1 : Int) ≠ 0 then (1 : Int) else (0 : Int) := e268.trans (by rw [f262, f267])
          have f268 : v 268 = (1 : Int) := n268.trans (if_pos (by decide))
          have n269 : v 269 = if (1 : Int) ≠ 0 then (1 : Int) else (0 : Int) := e269.trans (by rw [f261, f268])
          have f269 : v 269 = (1 : Int) := n269.trans (if_pos (by decide))
          have n270 : v 270 = if (1 : Int) ≠ 0 then (1 : Int) else (0 : Int) := e270.trans (by rw [f260, f269])
          have f270 : v 270 = (1 : Int) := n270.trans (if_pos (by decide))
          have n271 : v 271 = b2i ((1 : Int) == (1 : Int)) := e271.trans (by rw [f232])
          have f271 : v 271 = (1 : Int) := n271.trans (by decide)
          have n272 : v 272 = if (1 : Int) ≠ 0 then (1 : Int) else (0 : Int) := e272.trans (by rw [f270, f271])
          have f272 : v 272 = (1 : Int) := n272.trans (if_pos (by decide))
          have n273 : v 273 = if (1 : Int) ≠ 0 then (0 : Int) else (1 : Int) := e273.trans (by rw [f272])
          have f273 : v 273 = (0 : Int) := n273.trans (if_pos (by decide))
          have n274 : v 274 = if (0 : Int) ≠ 0 then (1 : Int) else (0 : Int) := e274.trans (by rw [f259, f273])
          have f274 : v 274 = (0 : Int) := n274.trans (if_neg (by decide))
          have n311 : v 311 = if (1 : Int) ≠ 0 then (0 : Int) else (0 : Int) := e311.trans (by rw [f245, f274])
          have f311 : v 311 = (0 : Int) := n311.trans (if_pos (by decide))
          have n313 : v 313 = if (0 : Int) ≠ 0 then v 309 else (0 : Int) := e313.trans (by rw [f244])
          have f313 : v 313 = (0 : Int) := n313.trans (if_neg (by decide))
          have n315 : v 315 = if (0 : Int) ≠ 0 then (1 : Int) else (0 : Int) := e315.trans (by rw [f311, f313])
          have f315 : v 315 = (0 : Int) := n315.trans (if_neg (by decide))
          have n331 : v 331 = if (1 : Int) ≠ 0 then (0 : Int) else (1 : Int) := e331.trans (by rw [f241])
          have f331 : v 331 = (0 : Int) := n331.trans (if_pos (by decide))
          have f334 : v 334 = v 93 := e334.trans (fit_ite e332 (fun q => e93.trans ((sem_fit0 _ _ _ _ (fun u => q (e95.trans u))).1)))
          have f335 : v 335 = v 94 := e335.trans (fit_ite e332 (fun q => e94.trans ((sem_fit0 _ _ _ _ (fun u => q (e95.trans u))).2)))
          have f336 : v 336 = v 102 := e336.trans n102.symm
          have n338 : v 338 = if v 102 ≠ 0 then v 101 else v 95 := e338.trans (by rw [f336])
          have f338 : v 338 = v 104 := n338.trans n104.symm
          have f341 : v 341 = v 99 := e341.trans (fit_ite e339 (fun q => e99.trans ((sem_fit0 _ _ _ _ (fun u => q (e101.trans u))).1)))
          have f342 : v 342 = v 100 := e342.trans (fit_ite e339 (fun q => e100.trans ((sem_fit0 _ _ _ _ (fun u => q (e101.trans u))).2)))
          have n343 : v 343 = (semB 2 [v 93, v 94, v 99, v 100]).getD 0 0 := e343.trans (by rw [f334, f335, f341, f342])
          have f343 : v 343 = v 105 := n343.trans e105.symm
          have n344 : v 344 = (semB 2 [v 93, v 94, v 99, v 100]).getD 1 0 := e344.trans (by rw [f334, f335, f341, f342])
          have f344 : v 344 = v 106 := n344.trans e106.symm
          have n345 : v 345 = (semB 2 [v 93, v 94, v 99, v 100]).getD 2 0 := e345.trans (by rw [f334, f335, f341, f342])
          have f345 : v 345 = v 107 := n345.trans e107.symm
          have n346 : v 346 = b2i (v 104 == (0 : Int)) := e346.trans (by rw [f338])
          have f346 : v 346 = v 108 := n346.trans e108.symm
          have n348 : v 348 = if v 108 ≠ 0 then v 107 else v 104 := e348.trans (by rw [f346, f345, f338])
          have f348 : v 348 = v 110 := n348.trans e110.symm
          have n349 : v 349 = b2i (v 107 != (0 : Int)) := e349.trans (by rw [f345])
          have n351 : v 351 = if v 349 ≠ 0 then (0 : Int) else v 105 := e351.trans (by rw [f343])
          have f351 : v 351 = v 105 := n351.trans (fit_ite n349 (fun q => e105.trans ((sem_fit2 _ _ _ _ (fun u => q (e107.trans u))).1)))
          have n352 : v 352 = if v 349 ≠ 0 then (0 : Int) else v 106 := e352.trans (by rw [f344])
          have f352 : v 352 = v 106 := n352.trans (fit_ite n349 (fun q => e106.trans ((sem_fit2 _ _ _ _ (fun u => q (e107.trans u))).2)))
          have n353 : v 353 = b2i (v 110 == (0 : Int)) := e353.trans (by rw [f348])
          have f353 : v 353 = v 114 := n353.trans e114.symm
          have n355 : v 355 = if v 114 ≠ 0 then v 113 else v 110 := e355.trans (by rw [f353, f348])
          have f355 : v 355 = v 116 := n355.trans e116.symm
          have f358 : v 358 = v 111 := e358.trans (fit_ite e356 (fun q => e111.trans ((sem_fit0 _ _ _ _ (fun u => q (e113.trans u))).1)))
          have f359 : v 359 = v 112 := e359.trans (fit_ite e356 (fun q => e112.trans ((sem_fit0 _ _ _ _ (fun u => q (e113.trans u))).2)))
          have n360 : v 360 = b2i (v 116 == (0 : Int)) := e360.trans (by rw [f355])
          have f360 : v 360 = v 120 := n360.trans e120.symm
          have n362 : v 362 = if v 120 ≠ 0 then v 119 else v 116 := e362.trans (by rw [f360, f355])
          have f362 : v 362 = v 122 := n362.trans e122.symm
          have f365 : v 365 = v 117 := e365.trans (fit_ite e363 (fun q => e117.trans ((sem_fit0 _ _ _ _ (fun u => q (e119.trans u))).1)))
          have f366 : v 366 = v 118 := e366.trans (fit_ite e363 (fun q => e118.trans ((sem_fit0 _ _ _ _ (fun u => q (e119.trans u))).2)))
          have n367 : v 367 = (semB 1 [v 111, v 112, v 117, v 118]).getD 0 0 := e367.trans (by rw [f358, f359, f365, f366])
          have f367 : v 367 = v 123 := n367.trans e123.symm
          have n368 : v 368 = (semB 1 [v 111, v 112, v 117, v 118]).getD 1 0 := e368.trans (by rw [f358, f359, f365, f366])
          have f368 : v 368 = v 124 := n368.trans e124.symm
          have n369 : v 369 = (semB 1 [v 111, v 112, v 117, v 118]).getD 2 0 := e369.trans (by rw [f358, f359, f365, f366])
          have f369 : v 369 = v 125 := n369.trans e125.symm
          have n370 : v 370 = b2i (v 122 == (0 : Int)) := e370.trans (by rw [f362])
          have f370 : v 370 = v 126 := n370.trans e126.symm
          have n372 : v 372 = if v 126 ≠ 0 then v 125 else v 122 := e372.trans (by rw [f370, f369, f362])
          have f372 : v 372 = v 128 := n372.trans e128.symm
          have n373 : v 373 = b2i (v 125 != (0 : Int)) := e373.trans (by rw [f369])
          have n375 : v 375 = if v 373 ≠ 0 then (0 : Int) else v 123 := e375.trans (by rw [f367])
          have f375 : v 375 = v 123 := n375.trans (fit_ite n373 (fun q => e123.trans ((sem_fit1 _ _ _ _ (fun u => q (e125.trans u))).1)))
          have n376 : v 376 = if v 373 ≠ 0 then (0 : Int) else v 124 := e376.trans (by rw [f368])
          have f376 : v 376 = v 124 := n376.trans (fit_ite n373 (fun q => e124.trans ((sem_fit1 _ _ _ _ (fun u => q (e125.trans u))).2)))
          have n377 : v 377 = b2i (v 128 != (0 : Int)) := e377.trans (by rw [f372])
          have f377 : v 377 = v 129 := n377.trans e129.symm
          have n379 : v 379 = if v 129 ≠ 0 then v 128 else (0 : Int) := e379.trans (by rw [f377, f372])
          have f379 : v 379 = v 128 := n379.trans (keep_ite e129)
          have n380 : v 380 = if v 129 ≠ 0 then (0 : Int) else v 105 := e380.trans (by rw [f377, f351])
          have f380 : v 380 = v 132 := n380.trans e132.symm
          have n381 : v 381 = if v 129 ≠ 0 then (0 : Int) else v 106 := e381.trans (by rw [f377, f352])
          have f381 : v 381 = v 133 := n381.trans e133.symm
          have n382 : v 382 = if v 129 ≠ 0 then (0 : Int) else v 123 := e382.trans (by rw [f377, f375])
          have f382 : v 382 = v 134 := n382.trans e134.symm
          have n383 : v 383 = if v 129 ≠ 0 then (0 : Int) else v 124 := e383.trans (by rw [f377, f376])
          have f383 : v 383 = v 135 := n383.trans e135.symm
          have n384 : v 384 = if v 129 ≠ 0 then (0 : Int) else v 4 := e384.trans (by rw [f377])
          have f384 : v 384 = v 136 := n384.trans e136.symm
          have n385 : v 385 = if v 129 ≠ 0 then (0 : Int) else v 5 := e385.trans (by rw [f377])
          have f385 : v 385 = v 137 := n385.trans e137.symm
          have n386 : v 386 = b2i (v 132 == v 132) := e386.trans (by rw [f139, f380])
          have f386 : v 386 = (1 : Int) := n386.trans (by simp [b2i])
          have n387 : v 387 = b2i (v 133 == v 133) := e387.trans (by rw [f140, f381])
          have f387 : v 387 = (1 : Int) := n387.trans (by simp [b2i])
          have n388 : v 388 = b2i (v 134 == v 134) := e388.trans (by rw [f141, f382])
          have f388 : v 388 = (1 : Int) := n388.trans (by simp [b2i])
          have n389 : v 389 = b2i (v 135 == v 135) := e389.trans (by rw [f142, f383])
          have f389 : v 389 = (1 : Int) := n389.trans (by simp [b2i])
          have n390 : v 390 = b2i (v 136 == v 136) := e390.trans (by rw [f143, f384])
          have f390 : v 390 = (1 : Int) := n390.trans (by simp [b2i])
          have n391 : v 391 = b2i (v 137 == v 137) := e391.trans (by rw [f144, f385])
          have f391 : v 391 = (1 : Int) := n391.trans (by simp [b2i])
          have n392 : v 392 = if (1 : Int) ≠ 0 then (1 : Int) else (0 : Int) := e392.trans (by rw [f390, f391])
          have f392 : v 392 = (1 : Int) := n392.trans (if_pos (by decide))
          have n393 : v 393 = if (1 : Int) ≠ 0 then (1 : Int) else (0 : Int) := e393.trans (by rw [f389, f392])
          have f393 : v 393 = (1 : Int) := n393.trans (if_pos (by decide))
          have n394 : v 394 = if (1 : Int) ≠ 0 then (1 : Int) else (0 : Int) := e394.trans (by rw [f388, f393])
          have f394 : v 394 = (1 : Int) := n394.trans (if_pos (by decide))
          have n395 : v 395 = if (1 : Int) ≠ 0 then (1 : Int) else (0 : Int) := e395.trans (by rw [f387, f394])
          have f395 : v 395 = (1 : Int) := n395.trans (if_pos (by decide))
          have n396 : v 396 = if (1 : Int) ≠ 0 then (1 : Int) else (0 : Int) := e396.trans (by rw [f386, f395])
          have f396 : v 396 = (1 : Int) := n396.trans (if_pos (by decide))
          have n397 : v 397 = b2i (v 128 == v 128) := e397.trans (by rw [f138, f379])
          have f397 : v 397 = (1 : Int) := n397.trans (by simp [b2i])
          have n398 : v 398 = if (1 : Int) ≠ 0 then (1 : Int) else (0 : Int) := e398.trans (by rw [f396, f397])
          have f398 : v 398 = (1 : Int) := n398.trans (if_pos (by decide))
          have n399 : v 399 = if (1 : Int) ≠ 0 then (0 : Int) else (1 : Int) := e399.trans (by rw [f398])
          have f399 : v 399 = (0 : Int) := n399.trans (if_pos (by decide))
          have n521 : v 521 = if (1 : Int) ≠ 0 then (1 : Int) else v 520 := e521.trans (by rw [f245])
          have f521 : v 521 = (1 : Int) := n521.trans (if_pos (by decide))
          have n522 : v 522 = if (0 : Int) ≠ 0 then (0 : Int) else (1 : Int) := e522.trans (by rw [f399, f521])
          have f522 : v 522 = (1 : Int) := n522.trans (if_neg (by decide))
          have n523 : v 523 = if (0 : Int) ≠ 0 then v 328 else (1 : Int) := e523.trans (by rw [f331, f522])
          have f523 : v 523 = (1 : Int) := n523.trans (if_neg (by decide))
          have n524 : v 524 = if (0 : Int) ≠ 0 then v 329 else (1 : Int) := e524.trans (by rw [f89, f523])
          have f524 : v 524 = (1 : Int) := n524.trans (if_neg (by decide))
          have n526 : v 526 = if (0 : Int) ≠ 0 then (0 : Int) else (1 : Int) := e526.trans (by rw [f315, f524])
          have f526 : v 526 = (1 : Int) := n526.trans (if_neg (by decide))
          have n529 : v 529 = if (0 : Int) ≠ 0 then (0 : Int) else (1 : Int) := e529.trans (by rw [f11, f526])
          have f529 : v 529 = (1 : Int) := n529.trans (if_neg (by decide))
          exact f529
      · skip
        have f10 : v 10 = (1 : Int) := e10.trans (by decide +kernel)
        have n11 : v 11 = if (1 : Int) ≠ 0 then (0 : Int) else (1 : Int) := e11.trans (by rw [f10])
        have f11 : v 11 = (0 : Int) := n11.trans (if_pos (by decide))
        have f21 : v 21 = (0 : Int) := A21.trans (by rw [ha]; rfl)
        have n22 : v 22 = if (0 : Int) ≠ 0 then (0 : Int) else (1 : Int) := e22.trans (by rw [f21])
        have f22 : v 22 = (1 : Int) := n22.trans (if_neg (by decide))
        have n33 : v 33 = if (1 : Int) ≠ 0 then (1 : Int) else v 32 := e33.trans (by rw [f22])
        have f33 : v 33 = (1 : Int) := n33.trans (if_pos (by decide))
        have f64 : v 64 = (0 : Int) := e64.trans (sem5e _ _)
        have n67 : v 67 = if v 65 ≠ 0 then (0 : Int) else v 61 := e67.trans (by rw [f64])
        have f67 : v 67 = v 61 := n67.trans (err_ite e65)
        have n68 : v 68 = b2i (v 61 != (0 : Int)) := e68.trans (by rw [f67])
        have n70 : v 70 = if v 68 ≠ 0 then v 61 else (0 : Int) := e70.trans (by rw [f67])
        have f70 : v 70 = v 61 := n70.trans (keep_ite n68)
        have n77 : v 77 = if (1 : Int) ≠ 0 then (1 : Int) else v 61 := e77.trans (by rw [f33, f70])
        have f77 : v 77 = (1 : Int) := n77.trans (if_pos (by decide))
        have n78 : v 78 = if (1 : Int) ≠ 0 then (0 : Int) else v 71 := e78.trans (by rw [f33])
        have f78 : v 78 = (0 : Int) := n78.trans (if_pos (by decide))
        have n79 : v 79 = if (1 : Int) ≠ 0 then (0 : Int) else v 72 := e79.trans (by rw [f33])
        have f79 : v 79 = (0 : Int) := n79.trans (if_pos (by decide))
        have n80 : v 80 = if (1 : Int) ≠ 0 then (0 : Int) else v 73 := e80.trans (by rw [f33])
        have f80 : v 80 = (0 : Int) := n80.trans (if_pos (by decide))
        have n81 : v 81 = if (1 : Int) ≠ 0 then (0 : Int) else v 74 := e81.trans (by rw [f33])
        have f81 : v 81 = (0 : Int) := n81.trans (if_pos (by decide))
        have n82 : v 82 = if (1 : Int) ≠ 0 then (0 : Int) else v 75 := e82.trans (by rw [f33])
        have f82 : v 82 = (0 : Int) := n82.trans (if_pos (by decide))
        have n83 : v 83 = if (1 : Int) ≠ 0 then (0 : Int) else v 76 := e83.trans (by rw [f33])
        have f83 : v 83 = (0 : Int) := n83.trans (if_pos (by decide))
        have f88 : v 88 = (1 : Int) := Q88.trans (by rw [hq]; rfl)
        have n89 : v 89 = if (1 : Int) ≠ 0 then (0 : Int) else (1 : Int) := e89.trans (by rw [f88])
        have f89 : v 89 = (0 : Int) := n89.trans (if_pos (by decide))
        have n90 : v 90 = if (0 : Int) ≠ 0 then (1 : Int) else (1 : Int) := e90.trans (by rw [f89, f22])
        have f90 : v 90 = (1 : Int) := n90.trans (if_neg (by decide))
        have f131 : v 131 = v 128 := e131.trans (keep_ite e129)
        have n138 : v 138 = if (1 : Int) ≠ 0 then (1 : Int) else v 128 := e138.trans (by rw [f90, f131])
        have f138 : v 138 = (1 : Int) := n138.trans (if_pos (by decide))
        have n139 : v 139 = if (1 : Int) ≠ 0 then (0 : Int) else v 132 := e139.trans (by rw [f90])
        have f139 : v 139 = (0 : Int) := n139.trans (if_pos (by decide))
        have n140 : v 140 = if (1 : Int) ≠ 0 then (0 : Int) else v 133 := e140.trans (by rw [f90])
        have f140 : v 140 = (0 : Int) := n140.trans (if_pos (by decide))
        have n141 : v 141 = if (1 : Int) ≠ 0 then (0 : Int) else v 134 := e141.trans (by rw [f90])
        have f141 : v 141 = (0 : Int) := n141.trans (if_pos (by decide))
        have n142 : v 142 = if (1 : Int) ≠ 0 then (0 : Int) else v 135 := e142.trans (by rw [f90])
        have f142 : v 142 = (0 : Int) := n142.trans (if_pos (by decide))
        have n143 : v 143 = if (1 : Int) ≠ 0 then (0 : Int) else v 136 := e143.trans (by rw [f90])
        have f143 : v 143 = (0 : Int) := n143.trans (if_pos (by decide))
        have n144 : v 144 = if (1 : Int) ≠ 0 then (0 : Int) else v 137 := e144.trans (by rw [f90])
        have f144 : v 144 = (0 : Int) := n144.trans (if_pos (by decide))
        have n145 : v 145 = if (1 : Int) ≠ 0 then (1 : Int) else v 32 := e145.trans (by rw [f90])
        have f145 : v 145 = (1 : Int) := n145.trans (if_pos (by decide))
        have f225 : v 225 = v 222 := e225.trans (keep_ite e223)
        have n232 : v 232 = if (1 : Int) ≠ 0 then (1 : Int) else v 222 := e232.trans (by rw [f145, f225])
        have f232 : v 232 = (1 : Int) := n232.trans (if_pos (by decide))
        have n233 : v 233 = if (1 : Int) ≠ 0 then (0 : Int) else v 226 := e233.trans (by rw [f145])
        have f233 : v 233 = (0 : Int) := n233.trans (if_pos (by decide))
        have n234 : v 234 = if (1 : Int) ≠ 0 then (0 : Int) else v 227 := e234.trans (by rw [f145])
        have f234 : v 234 = (0 : Int) := n234.trans (if_pos (by decide))
        have n235 : v 235 = if (1 : Int) ≠ 0 then (0 : Int) else v 228 := e235.trans (by rw [f145])
        have f235 : v 235 = (0 : Int) := n235.trans (if_pos (by decide))
        have n236 : v 236 = if (1 : Int) ≠ 0 then (0 : Int) else v 229 := e236.trans (by rw [f145])
        have f236 : v 236 = (0 : Int) := n236.trans (if_pos (by decide))
        have n237 : v 237 = if (1 : Int) ≠ 0 then (0 : Int) else v 230 := e237.trans (by rw [f145])
        have f237 : v 237 = (0 : Int) := n237.trans (if_pos (by decide))
        have n238 : v 238 = if (1 : Int) ≠ 0 then (0 : Int) else v 231 := e238.trans (by rw [f145])
        have f238 : v 238 = (0 : Int) := n238.trans (if_pos (by decide))
        have f241 : v 241 = (0 : Int) := A241.trans (by rw [ha]; rfl)
        have n244 : v 244 = if (0 : Int) ≠ 0 then v 243 else (0 : Int) := e244.trans (by rw [f241])
        have f244 : v 244 = (0 : Int) := n244.trans (if_neg (by decide))
        have n245 : v 245 = if (0 : Int) ≠ 0 then (0 : Int) else (1 : Int) := e245.trans (by rw [f244])
        have f245 : v 245 = (1 : Int) := n245.trans (if_neg (by decide))
        have n246 : v 246 = b2i ((0 : Int) == (0 : Int)) := e246.trans (by rw [f78])
        have f246 : v 246 = (1 : Int) := n246.trans (by decide)
        have n247 : v 247 = b2i ((0 : Int) == (0 : Int)) := e247.trans (by rw [f79])
        have f247 : v 247 = (1 : Int) := n247.trans (by decide)
        have n248 : v 248 = b2i ((0 : Int) == (0 : Int)) := e248.trans (by rw [f80])
        have f248 : v 248 = (1 : Int) := n248.trans (by decide)
        have n249 : v 249 = b2i ((0 : Int) == (0 : Int)) := e249.trans (by rw [f81])
        have f249 : v 249 = (1 : Int) := n249.trans (by decide)
        have n250 : v 250 = b2i ((0 : Int) == (0 : Int)) := e250.trans (by rw [f82])
        have f250 : v 250 = (1 : Int) := n250.trans (by decide)
        have n251 : v 251 = b2i ((0 : Int) == (0 : Int)) := e251.trans (by rw [f83])
        have f251 : v 251 = (1 : Int) := n251.trans (by decide)
        have n252 : v 252 = if (1 : Int) ≠ 0 then (1 : Int) else (0 : Int) := e252.trans (by rw [f250, f251])
        have f252 : v 252 = (1 : Int) := n252.trans (if_pos (by decide))
        have n253 : v 253 = if (1 : Int) ≠ 0 then (1 : Int) else (0 : Int) := e253.trans (by rw [f249, f252])
        have f253 : v 253 = (1 : Int) := n253.trans (if_pos (by decide))
        have n254 : v 254 = if (1 : Int) ≠ 0 then (1 : Int) else (0 : Int) := e254.trans (by rw [f248, f253])
        have f254 : v 254 = (1 : Int) := n254.trans (if_pos (by decide))
        have n255 : v 255 = if (1 : Int) ≠ 0 then (1 : Int) else (0 : Int) := e255.trans (by rw [f247, f254])
        have f255 : v 255 = (1 : Int) := n255.trans (if_pos (by decide))
        have n256 : v 256 = if (1 : Int) ≠ 0 then (1 : Int) else (0 : Int) := e256.trans (by rw [f246, f255])
        have f256 : v 256 = (1 : Int) := n256.trans (if_pos (by decide))
        have n257 : v 257 = b2i ((1 : Int) == (1 : Int)) := e257.trans (by rw [f77])
        have f257 : v 257 = (1 : Int) := n257.trans (by decide)
        have n258 : v 258 = if (1 : Int) ≠ 0 then (1 : Int) else (0 : Int) := e258.trans (by rw [f256, f257])
        have f258 : v 258 = (1 : Int) := n258.trans (if_pos (by decide))
        have n259 : v 259 = if (1 : Int) ≠ 0 then (0 : Int) else (1 : Int) := e259.trans (by rw [f258])
        have f259 : v 259 = (0 : Int) := n259.trans (if_pos (by decide))
        have n260 : v 260 = b2i ((0 : Int) == (0 : Int)) := e260.trans (by rw [f233])
        have f260 : v 260 = (1 : Int) := n260.trans (by decide)
        have n261 : v 261 = b2i ((0 : Int) == (0 : Int)) := e261.trans (by rw [f234])
        have f261 : v 261 = (1 : Int) := n261.trans (by decide)
        have n262 : v 262 = b2i ((0 : Int) == (0 : Int)) := e262.trans (by rw [f235])
        have f262 : v 262 = (1 : Int) := n262.trans (by decide)
        have n263 : v 263 = b2i ((0 : Int) == (0 : Int)) := e263.trans (by rw [f236])
        have f263 : v 263 = (1 : Int) := n263.trans (by decide)
        have n264 : v 264 = b2i ((0 : Int) == (0 : Int)) := e264.trans (by rw [f237])
        have f264 : v 264 = (1 : Int) := n264.trans (by decide)
        have n265 : v 265 = b2i ((0 : Int) == (0 : Int)) := e265.trans (by rw [f238])
        have f265 : v 265 = (1 : Int) := n265.trans (by decide)
        have n266 : v 266 = if (1 : Int) ≠ 0 then (1 : Int) else (0 : Int) := e266.trans (by rw [f264, f265])
        have f266 : v 266 = (1 : Int) := n266.trans (if_pos (by decide))
        have n267 : v 267 = if (1 : Int) ≠ 0 then (1 : Int) else (0 : Int) := e267.trans (by rw [f263, f266])
        have f267 : v 267 = (1 : Int) := n267.trans (if_pos (by decide))
        have n268 : v 268 = if (1 : Int) ≠ 0 then (1 : Int) else (0 : Int) := e268.trans (by rw [f262, f267])
        have f268 : v 268 = (1 : Int) := n268.trans (if_pos (by decide))
        have n269 : v 269 = if (1 : Int) ≠ 0 then (1 : Int) else (0 : Int) := e269.trans (by rw [f261, f268])
        have f269 : v 269 = (1 : Int) := n269.trans (if_pos (by decide))
        have n270 : v 270 = if (1 : Int) ≠ 0 then (1 : Int) else (0 : Int) := e270.trans (by rw [f260, f269])
        have f270 : v 270 = (1 : Int) := n270.trans (if_pos (by decide))
        have n271 : v 271 = b2i ((1 : Int) == (1 : Int)) := e271.trans (by rw [f232])
        have f271 : v 271 = (1 : Int) := n271.trans (by decide)
        have n272 : v 272 = if (1 : Int) ≠ 0 then (1 : Int) else (0 : Int) := e272.trans (by rw [f270, f271])
        have f272 : v 272 = (1 : Int) := n272.trans (if_pos (by decide))
        have n273 : v 273 = if (1 : Int) ≠ 0 then (0 : Int) else (1 : Int) := e273.trans (by rw [f272])
        have f273 : v 273 = (0 : Int) := n273.trans (if_pos (by decide))
        have n274 : v 274 = if (0 : Int) ≠ 0 then (1 : Int) else (0 : Int) := e274.trans (by rw [f259, f273])
        have f274 : v 274 = (0 : Int) := n274.trans (if_neg (by decide))
        have n311 : v 311 = if (1 : Int) ≠ 0 then (0 : Int) else (0 : Int) := e311.trans (by rw [f245, f274])
        have f311 : v 311 = (0 : Int) := n311.trans (if_pos (by decide))
        have n313 : v 313 = if (0 : Int) ≠ 0 then v 309 else (0 : Int) := e313.trans (by rw [f244])
        have f313 : v 313 = (0 : Int) := n313.trans (if_neg (by decide))
        have n315 : v 315 = if (0 : Int) ≠ 0 then (1 : Int) else (0 : Int) := e315.trans (by rw [f311, f313])
        have f315 : v 315 = (0 : Int) := n315.trans (if_neg (by decide))
        have n316 : v 316 = b2i ((0 : Int) == (0 : Int)) := e316.trans (by rw [f139])
        have f316 : v 316 = (1 : Int) := n316.trans (by decide)
        have n317 : v 317 = b2i ((0 : Int) == (0 : Int)) := e317.trans (by rw [f140])
        have f317 : v 317 = (1 : Int) := n317.trans (by decide)
        have n318 : v 318 = b2i ((0 : Int) == (0 : Int)) := e318.trans (by rw [f141])
        have f318 : v 318 = (1 : Int) := n318.trans (by decide)
        have n319 : v 319 = b2i ((0 : Int) == (0 : Int)) := e319.trans (by rw [f142])
        have f319 : v 319 = (1 : Int) := n319.trans (by decide)
        have n320 : v 320 = b2i ((0 : Int) == (0 : Int)) := e320.trans (by rw [f143])
        have f320 : v 320 = (1 : Int) := n320.trans (by decide)
        have n321 : v 321 = b2i ((0 : Int) == (0 : Int)) := e321.trans (by rw [f144])
        have f321 : v 321 = (1 : Int) := n321.trans (by decide)
        have n322 : v 322 = if (1 : Int) ≠ 0 then (1 : Int) else (0 : Int) := e322.trans (by rw [f320, f321])
        have f322 : v 322 = (1 : Int) := n322.trans (if_pos (by decide))
        have n323 : v 323 = if (1 : Int) ≠ 0 then (1 : Int) else (0 : Int) := e323.trans (by rw [f319, f322])
        have f323 : v 323 = (1 : Int) := n323.trans (if_pos (by decide))
        have n324 : v 324 = if (1 : Int) ≠ 0 then (1 : Int) else (0 : Int) := e324.trans (by rw [f318, f323])
        have f324 : v 324 = (1 : Int) := n324.trans (if_pos (by decide))
        have n325 : v 325 = if (1 : Int) ≠ 0 then (1 : Int) else (0 : Int) := e325.trans (by rw [f317, f324])
        have f325 : v 325 = (1 : Int) := n325.trans (if_pos (by decide))
        have n326 : v 326 = if (1 : Int) ≠ 0 then (1 : Int) else (0 : Int) := e326.trans (by rw [f316, f325])
        have f326 : v 326 = (1 : Int) := n326.trans (if_pos (by decide))
        have n327 : v 327 = b2i ((1 : Int) == (1 : Int)) := e327.trans (by rw [f138])
        have f327 : v 327 = (1 : Int) := n327.trans (by decide)
        have n328 : v 328 = if (1 : Int) ≠ 0 then (1 : Int) else (0 : Int) := e328.trans (by rw [f326, f327])
        have f328 : v 328 = (1 : Int) := n328.trans (if_pos (by decide))
        have n329 : v 329 = if (1 : Int) ≠ 0 then (1 : Int) else (0 : Int) := e329.trans (by rw [f328, f272])
        have f329 : v 329 = (1 : Int) := n329.trans (if_pos (by decide))
        have n331 : v 331 = if (0 : Int) ≠ 0 then (0 : Int) else (1 : Int) := e331.trans (by rw [f241])
        have f331 : v 331 = (1 : Int) := n331.trans (if_neg (by decide))
        have n523 : v 523 = if (1 : Int) ≠ 0 then (1 : Int) else v 522 := e523.trans (by rw [f331, f328])
        have f523 : v 523 = (1 : Int) := n523.trans (if_pos (by decide))
        have n524 : v 524 = if (0 : Int) ≠ 0 then (1 : Int) else (1 : Int) := e524.trans (by rw [f89, f329, f523])
        have f524 : v 524 = (1 : Int) := n524.trans (if_neg (by decide))
        have n526 : v 526 = if (0 : Int) ≠ 0 then (0 : Int) else (1 : Int) := e526.trans (by rw [f315, f524])
        have f526 : v 526 = (1 : Int) := n526.trans (if_neg (by decide))
        have n529 : v 529 = if (0 : Int) ≠ 0 then (0 : Int) else (1 : Int) := e529.trans (by rw [f11, f526])
        have f529 : v 529 = (1 : Int) := n529.trans (if_neg (by decide))
        exact f529
    · skip
      rcases Bool.eq_false_or_eq_true (arcV (v 6) (v 7)) with ha | ha
      · skip
        rcases Bool.eq_false_or_eq_true (arcV (v 8) (v 9)) with hb | hb
        · skip
          have f10 : v 10 = (1 : Int) := e10.trans (by decide +kernel)
          have n11 : v 11 = if (1 : Int) ≠ 0 then (0 : Int) else (1 : Int) := e11.trans (by rw [f10])
          have f11 : v 11 = (0 : Int) := n11.trans (if_pos (by decide))
          have f21 : v 21 = (1 : Int) := A21.trans (by rw [ha]; rfl)
          have n22 : v 22 = if (1 : Int) ≠ 0 then (0 : Int) else (1 : Int) := e22.trans (by rw [f21])
          have f22 : v 22 = (0 : Int) := n22.trans (if_pos (by decide))
          have f31 : v 31 = (1 : Int) := A31.trans (by rw [hb]; rfl)
          have n32 : v 32 = if (1 : Int) ≠ 0 then (0 : Int) else (1 : Int) := e32.trans (by rw [f31])
          have f32 : v 32 = (0 : Int) := n32.trans (if_pos (by decide))
          have n33 : v 33 = if (0 : Int) ≠ 0 then (1 : Int) else (0 : Int) := e33.trans (by rw [f22, f32])
          have f33 : v 33 = (0 : Int) := n33.trans (if_neg (by decide))
          have f37 : v 37 = (0 : Int) := e37.trans (sem6e _ _)
          have f40 : v 40 = (0 : Int) := e40.trans (sem6e _ _)
          have n41 : v 41 = b2i ((0 : Int) == (0 : Int)) := e41.trans (by rw [f37])
          have f41 : v 41 = (1 : Int) := n41.trans (by decide)
          have n43 : v 43 = if (1 : Int) ≠ 0 then (0 : Int) else (0 : Int) := e43.trans (by rw [f41, f40, f37])
          have f43 : v 43 = (0 : Int) := n43.trans (if_pos (by decide))
          have n47 : v 47 = b2i ((0 : Int) == (0 : Int)) := e47.trans (by rw [f43])
          have f47 : v 47 = (1 : Int) := n47.trans (by decide)
          have n49 : v 49 = if (1 : Int) ≠ 0 then v 46 else (0 : Int) := e49.trans (by rw [f47, f43])
          have f49 : v 49 = v 46 := n49.trans (if_pos (by decide))
          have f52 : v 52 = (0 : Int) := e52.trans (sem5e _ _)
          have n53 : v 53 = b2i (v 46 == (0 : Int)) := e53.trans (by rw [f49])
          have n55 : v 55 = if v 53 ≠ 0 then (0 : Int) else v 46 := e55.trans (by rw [f52, f49])
          have f55 : v 55 = v 46 := n55.trans (err_ite n53)
          have n59 : v 59 = b2i (v 46 == (0 : Int)) := e59.trans (by rw [f55])
          have f59 : v 59 = v 53 := n59.trans n53.symm
          have n61 : v 61 = if v 53 ≠ 0 then v 58 else v 46 := e61.trans (by rw [f59, f55])
          have f64 : v 64 = (0 : Int) := e64.trans (sem5e _ _)
          have n67 : v 67 = if v 65 ≠ 0 then (0 : Int) else v 61 := e67.trans (by rw [f64])
          have f67 : v 67 = v 61 := n67.trans (err_ite e65)
          have n68 : v 68 = b2i (v 61 != (0 : Int)) := e68.trans (by rw [f67])
          have n70 : v 70 = if v 68 ≠ 0 then v 61 else (0 : Int) := e70.trans (by rw [f67])
          have f70 : v 70 = v 61 := n70.trans (keep_ite n68)
          have n77 : v 77 = if (0 : Int) ≠ 0 then (1 : Int) else v 61 := e77.trans (by rw [f33, f70])
          have f77 : v 77 = v 61 := n77.trans (if_neg (by decide))
          have n78 : v 78 = if (0 : Int) ≠ 0 then (0 : Int) else v 71 := e78.trans (by rw [f33])
          have f78 : v 78 = v 71 := n78.trans (if_neg (by decide))
          have n79 : v 79 = if (0 : Int) ≠ 0 then (0 : Int) else v 72 := e79.trans (by rw [f33])
          have f79 : v 79 = v 72 := n79.trans (if_neg (by decide))
          have n80 : v 80 = if (0 : Int) ≠ 0 then (0 : Int) else v 73 := e80.trans (by rw [f33])
          have f80 : v 80 = v 73 := n80.trans (if_neg (by decide))
          have n81 : v 81 = if (0 : Int) ≠ 0 then (0 : Int) else v 74 := e81.trans (by rw [f33])
          have f81 : v 81 = v 74 := n81.trans (if_neg (by decide))
          have n82 : v 82 = if (0 : Int) ≠ 0 then (0 : Int) else v 75 := e82.trans (by rw [f33])
          have f82 : v 82 = v 75 := n82.trans (if_neg (by decide))
          have n83 : v 83 = if (0 : Int) ≠ 0 then (0 : Int) else v 76 := e83.trans (by rw [f33])
          have f83 : v 83 = v 76 := n83.trans (if_neg (by decide))
          have f88 : v 88 = (0 : Int) := Q88.trans (by rw [hq]; rfl)
          have n89 : v 89 = if (0 : Int) ≠ 0 then (0 : Int) else (1 : Int) := e89.trans (by rw [f88])
          have f89 : v 89 = (1 : Int) := n89.trans (if_neg (by decide))
          have n90 : v 90 = if (1 : Int) ≠ 0 then (1 : Int) else (0 : Int) := e90.trans (by rw [f89, f22])
          have f90 : v 90 = (1 : Int) := n90.trans (if_pos (by decide))
          have f131 : v 131 = v 128 := e131.trans (keep_ite e129)
          have n138 : v 138 = if (1 : Int) ≠ 0 then (1 : Int) else v 128 := e138.trans (by rw [f90, f131])
          have f138 : v 138 = (1 : Int) := n138.trans (if_pos (by decide))
          have n139 : v 139 = if (1 : Int) ≠ 0 then (0 : Int) else v 132 := e139.trans (by rw [f90])
          have f139 : v 139 = (0 : Int) := n139.trans (if_pos (by decide))
          have n140 : v 140 = if (1 : Int) ≠ 0 then (0 : Int) else v 133 := e140.trans (by rw [f90])
          have f140 : v 140 = (0 : Int) := n140.trans (if_pos (by decide))
          have n141 : v 141 = if (1 : Int) ≠ 0 then (0 : Int) else v 134 := e141.trans (by rw [f90])
          have f141 : v 141 = (0 : Int) := n141.trans (if_pos (by decide))
          have n142 : v 142 = if (1 : Int) ≠ 0 then (0 : Int) else v 135 := e142.trans (by rw [f90])
          have f142 : v 142 = (0 : Int) := n142.trans (if_pos (by decide))
          have n143 : v 143 = if (1 : Int) ≠ 0 then (0 : Int) else v 136 := e143.trans (by rw [f90])
          have f143 : v 143 = (0 : Int) := n143.trans (if_pos (by decide))
          have n144 : v 144 = if (1 : Int) ≠ 0 then (0 : Int) else v 137 := e144.trans (by rw [f90])
          have f144 : v 144 = (0 : Int) := n144.trans (if_pos (by decide))
          have n145 : v 145 = if (1 : Int) ≠ 0 then (1 : Int) else (0 : Int) := e145.trans (by rw [f90, f32])
          have f145 : v 145 = (1 : Int) := n145.trans (if_pos (by decide))
          have f225 : v 225 = v 222 := e225.trans (keep_ite e223)
          have n232 : v 232 = if (1 : Int) ≠ 0 then (1 : Int) else v 222 := e232.trans (by rw [f145, f225])
          have f232 : v 232 = (1 : Int) := n232.trans (if_pos (by decide))
          have n233 : v 233 = if (1 : Int) ≠ 0 then (0 : Int) else v 226 := e233.trans (by rw [f145])
          have f233 : v 233 = (0 : Int) := n233.trans (if_pos (by decide))
          have n234 : v 234 = if (1 : Int) ≠ 0 then (0 : Int) else v 227 := e234.trans (by rw [f145])
          have f234 : v 234 = (0 : Int) := n234.trans (if_pos (by decide))
          have n235 : v 235 = if (1 : Int) ≠ 0 then (0 : Int) else v 228 := e235.trans (by rw [f145])
          have f235 : v 235 = (0 : Int) := n235.trans (if_pos (by decide))
          have n236 : v 236 = if (1 : Int) ≠ 0 then (0 : Int) else v 229 := e236.trans (by rw [f145])
          have f236 : v 236 = (0 : Int) := n236.trans (if_pos (by decide))
          have n237 : v 237 = if (1 : Int) ≠ 0 then (0 : Int) else v 230 := e237.trans (by rw [f145])
          have f237 : v 237 = (0 : Int) := n237.trans (if_pos (by decide))
          have n238 : v 238 = if (1 : Int) ≠ 0 then (0 : Int) else v 231 := e238.trans (by rw [f145])
          have f238 : v 238 = (0 : Int) := n238.trans (if_pos (by decide))
          have f241 : v 241 = (1 : Int) := A241.trans (by rw [ha]; rfl)
          have f243 : v 243 = (1 : Int) := A243.trans (by rw [hb]; rfl)
          have n244 : v 244 = if (1 : Int) ≠ 0 then (1 : Int) else (0 : Int) := e244.trans (by rw [f241, f243])
          have f244 : v 244 = (1 : Int) := n244.trans (if_pos (by decide))
          have n245 : v 245 = if (1 : Int) ≠ 0 then (0 : Int) else (1 : Int) := e245.trans (by rw [f244])
          have f245 : v 245 = (0 : Int) := n245.trans (if_pos (by decide))
          have n260 : v 260 = b2i ((0 : Int) == (0 : Int)) := e260.trans (by rw [f233])
          have f260 : v 260 = (1 : Int) := n260.trans (by decide)
          have n261 : v 261 = b2i ((0 : Int) == (0 : Int)) := e261.trans (by rw [f234])
          have f261 : v 261 = (1 : Int) := n261.trans (by decide)
          have n262 : v 262 = b2i ((0 : Int) == (0 : Int)) := e262.trans (by rw [f235])
          have f262 : v 262 = (1 : Int) := n262.trans (by decide)
          have n263 : v 263 = b2i ((0 : Int) == (0 : Int)) := e263.trans (by rw [f236])
          have f263 : v 263 = (1 : Int) := n263.trans (by decide)
          have n264 : v 264 = b2i ((0 : Int) == (0 : Int)) := e264.trans (by rw [f237])
          have f264 : v 264 = (1 : Int) := n264.trans (by decide)
          have n265 : v 265 = b2i ((0 : Int) == (0 : Int)) := e265.trans (by rw [f238])
          have f265 : v 265 = (1 : Int) := n265.trans (by decide)
          have n266 : v 266 = if (1 : Int) ≠ 0 then (1 : Int) else (0 : Int) := e266.trans (by rw [f264, f265])
          have f266 : v 266 = (1 : Int) := n266.trans (if_pos (by decide))
          have n267 : v 267 = if (1 : Int) ≠ 0 then (1 : Int) else (0 : Int) := e267.trans (by rw [f263, f266])
          have f267 : v 267 = (1 : Int) := n267.trans (if_pos (by decide))
          have n268 : v 268 = if (1 : Int) ≠ 0 then (1 : Int) else (0 : Int) := e268.trans (by rw [f262, f267])
          have f268 : v 268 = (1 : Int) := n268.trans (if_pos (by decide))
          have n269 : v 269 = if (1 : Int) ≠ 0 then (1 : Int) else (0 : Int) := e269.trans (by rw [f261, f268])
          have f269 : v 269 = (1 : Int) := n269.trans (if_pos (by decide))
          have n270 : v 270 = if (1 : Int) ≠ 0 then (1 : Int) else (0 : Int) := e270.trans (by rw [f260, f269])
          have f270 : v 270 = (1 : Int) := n270.trans (if_pos (by decide))
          have n271 : v 271 = b2i ((1 : Int) == (1 : Int)) := e271.trans (by rw [f232])
          have f271 : v 271 = (1 : Int) := n271.trans (by decide)
          have n272 : v 272 = if (1 : Int) ≠ 0 then (1 : Int) else (0 : Int) := e272.trans (by rw [f270, f271])
          have f272 : v 272 = (1 : Int) := n272.trans (if_pos (by decide))
          have f278 : v 278 = v 44 := e278.trans (fit_ite e276 (fun q => e44.trans ((sem_fit0 _ _ _ _ (fun u => q (e46.trans u))).1)))
          have f279 : v 279 = v 45 := e279.trans (fit_ite e276 (fun q => e45.trans ((sem_fit0 _ _ _ _ (fun u => q (e46.trans u))).2)))
          have f280 : v 280 = v 53 := e280.trans n53.symm
          have n282 : v 282 = if v 53 ≠ 0 then v 58 else v 46 := e282.trans (by rw [f280])
          have f282 : v 282 = v 61 := n282.trans n61.symm
          have f285 : v 285 = v 56 := e285.trans (fit_ite e283 (fun q => e56.trans ((sem_fit0 _ _ _ _ (fun u => q (e58.trans u))).1)))
          have f286 : v 286 = v 57 := e286.trans (fit_ite e283 (fun q => e57.trans ((sem_fit0 _ _ _ _ (fun u => q (e58.trans u))).2)))
          have n287 : v 287 = b2i (v 61 != (0 : Int)) := e287.trans (by rw [f282])
          have f287 : v 287 = v 68 := n287.trans n68.symm
          have n289 : v 289 = if v 68 ≠ 0 then v 61 else (0 : Int) := e289.trans (by rw [f287, f282])
          have f289 : v 289 = v 61 := n289.trans (keep_ite n68)
          have n290 : v 290 = if v 68 ≠ 0 then (0 : Int) else v 44 := e290.trans (by rw [f287, f278])
          have f290 : v 290 = v 71 := n290.trans e71.symm
          have n291 : v 291 = if v 68 ≠ 0 then (0 : Int) else v 45 := e291.trans (by rw [f287, f279])
          have f291 : v 291 = v 72 := n291.trans e72.symm
          have n292 : v 292 = if v 68 ≠ 0 then (0 : Int) else v 56 := e292.trans (by rw [f287, f285])
          have f292 : v 292 = v 73 := n292.trans e73.symm
          have n293 : v 293 = if v 68 ≠ 0 then (0 : Int) else v 57 := e293.trans (by rw [f287, f286])
          have f293 : v 293 = v 74 := n293.trans e74.symm
          have n294 : v 294 = if v 68 ≠ 0 then (0 : Int) else v 62 := e294.trans (by rw [f287])
          have f294 : v 294 = v 75 := n294.trans e75.symm
          have n295 : v 295 = if v 68 ≠ 0 then (0 : Int) else v 63 := e295.trans (by rw [f287])
          have f295 : v 295 = v 76 := n295.trans e76.symm
          have n296 : v 296 = b2i (v 71 == v 71) := e296.trans (by rw [f78, f290])
          have f296 : v 296 = (1 : Int) := n296.trans (by simp [b2i])
          have n297 : v 297 = b2i (v 72 == v 72) := e297.trans (by rw [f79, f291])
          have f297 : v 297 = (1 : Int) := n297.trans (by simp [b2i])
          have n298 : v 298 = b2i (v 73 == v 73) := e298.trans (by rw [f80, f292])
          have f298 : v 298 = (1 : Int) := n298.trans (by simp [b2i])
          have n299 : v 299 = b2i (v 74 == v 74) := e299.trans (by rw [f81, f293])
          have f299 : v 299 = (1 : Int) := n299.trans (by simp [b2i])
          have n300 : v 300 = b2i (v 75 == v 75) := e300.trans (by rw [f82, f294])
          have f300 : v 300 = (1 : Int) := n300.trans (by simp [b2i])
          have n301 : v 301 = b2i (v 76 == v 76) := e301.trans (by rw [f83, f295])
          have f301 : v 301 = (1 : Int) := n301.trans (by simp [b2i])
          have n302 : v 302 = if (1 : Int) ≠ 0 then (1 : Int) else (0 : Int) := e302.trans (by rw [f300, f301])
          have f302 : v 302 = (1 : Int) := n302.trans (if_pos (by decide))
          have n303 : v 303 = if (1 : Int) ≠ 0 then (1 : Int) else (0 : Int) := e303.trans (by rw [f299, f302])
          have f303 : v 303 = (1 : Int) := n303.trans (if_pos (by decide))
          have n304 : v 304 = if (1 : Int) ≠ 0 then (1 : Int) else (0 : Int) := e304.trans (by rw [f298, f303])
          have f304 : v 304 = (1 : Int) := n304.trans (if_pos (by decide))
          have n305 : v 305 = if (1 : Int) ≠ 0 then (1 : Int) else (0 : Int) := e305.trans (by rw [f297, f304])
          have f305 : v 305 = (1 : Int) := n305.trans (if_pos (by decide))
          have n306 : v 306 = if (1 : Int) ≠ 0 then (1 : Int) else (0 : Int) := e306.trans (by rw [f296, f305])
          have f306 : v 306 = (1 : Int) := n306.trans (if_pos (by decide))
          have n307 : v 307 = b2i (v 61 == v 61) := e307.trans (by rw [f77, f289])
          have f307 : v 307 = (1 : Int) := n307.trans (by simp [b2i])
          have n308 : v 308 = if (1 : Int) ≠ 0 then (1 : Int) else (0 : Int) := e308.trans (by rw [f306, f307])
          have f308 : v 308 = (1 : Int) := n308.trans (if_pos (by decide))
          have n309 : v 309 = if (1 : Int) ≠ 0 then (0 : Int) else (1 : Int) := e309.trans (by rw [f308])
          have f309 : v 309 = (0 : Int) := n309.trans (if_pos (by decide))
          have n311 : v 311 = if (0 : Int) ≠ 0 then v 274 else (0 : Int) := e311.trans (by rw [f245])
          have f311 : v 311 = (0 : Int) := n311.trans (if_neg (by decide))
          have n313 : v 313 = if (1 : Int) ≠ 0 then (0 : Int) else (0 : Int) := e313.trans (by rw [f244, f309])
          have f313 : v 313 = (0 : Int) := n313.trans (if_pos (by decide))
          have n315 : v 315 = if (0 : Int) ≠ 0 then (1 : Int) else (0 : Int) := e315.trans (by rw [f311, f313])
          have f315 : v 315 = (0 : Int) := n315.trans (if_neg (by decide))
          have n316 : v 316 = b2i ((0 : Int) == (0 : Int)) := e316.trans (by rw [f139])
          have f316 : v 316 = (1 : Int) := n316.trans (by decide)
          have n317 : v 317 = b2i ((0 : Int) == (0 : Int)) := e317.trans (by rw [f140])
          have f317 : v 317 = (1 : Int) := n317.trans (by decide)
          have n318 : v 318 = b2i ((0 : Int) == (0 : Int)) := e318.trans (by rw [f141])
          have f318 : v 318 = (1 : Int) := n318.trans (by decide)
          have n319 : v 319 = b2i ((0 : Int) == (0 : Int)) := e319.trans (by rw [f142])
          have f319 : v 319 = (1 : Int) := n319.trans (by decide)
          have n320 : v 320 = b2i ((0 : Int) == (0 : Int)) := e320.trans (by rw [f143])
          have f320 : v 320 = (1 : Int) := n320.trans (by decide)
          have n321 : v 321 = b2i ((0 : Int) == (0 : Int)) := e321.trans (by rw [f144])
          have f321 : v 321 = (1 : Int) := n321.trans (by decide)
          have n322 : v 322 = if (1 : Int) ≠ 0 then (1 : Int) else (0 : Int) := e322.trans (by rw [f320, f321])
          have f322 : v 322 = (1 : Int) := n322.trans (if_pos (by decide))
          have n323 : v 323 = if (1 : Int) ≠ 0 then (1 : Int) else (0 : Int) := e323.trans (by rw [f319, f322])
          have f323 : v 323 = (1 : Int) := n323.trans (if_pos (by decide))
          have n324 : v 324 = if (1 : Int) ≠ 0 then (1 : Int) else (0 : Int) := e324.trans (by rw [f318, f323])
          have f324 : v 324 = (1 : Int) := n324.trans (if_pos (by decide))
          have n325 : v 325 = if (1 : Int) ≠ 0 then (1 : Int) else (0 : Int) := e325.trans (by rw [f317, f324])
          have f325 : v 325 = (1 : Int) := n325.trans (if_pos (by decide))
          have n326 : v 326 = if (1 : Int) ≠ 0 then (1 : Int) else (0 : Int) := e326.trans (by rw [f316, f325])
          have f326 : v 326 = (1 : Int) := n326.trans (if_pos (by decide))
          have n327 : v 327 = b2i ((1 : Int) == (1 : Int)) := e327.trans (by rw [f138])
          have f327 : v 327 = (1 : Int) := n327.trans (by decide)
          have n328 : v 328 = if (1 : Int) ≠ 0 then (1 : Int) else (0 : Int) := e328.trans (by rw [f326, f327])
          have f328 : v 328 = (1 : Int) := n328.trans (if_pos (by decide))
          have n329 : v 329 = if (1 : Int) ≠ 0 then (1 : Int) else (0 : Int) := e329.trans (by rw [f328, f272])
          have f329 : v 329 = (1 : Int) := n329.trans (if_pos (by decide))
          have n331 : v 331 = if (1 : Int) ≠ 0 then (0 : Int) else (1 : Int) := e331.trans (by rw [f241])
          have f331 : v 331 = (0 : Int) := n331.trans (if_pos (by decide))
          have n523 : v 523 = if (0 : Int) ≠ 0 then (1 : Int) else v 522 := e523.trans (by rw [f331, f328])
          have f523 : v 523 = v 522 := n523.trans (if_neg (by decide))
          have n524 : v 524 = if (1 : Int) ≠ 0 then (1 : Int) else v 522 := e524.trans (by rw [f89, f329, f523])
          have f524 : v 524 = (1 : Int) := n524.trans (if_pos (by decide))
          have n526 : v 526 = if (0 : Int) ≠ 0 then (0 : Int) else (1 : Int) := e526.trans (by rw [f315, f524])
          have f526 : v 526 = (1 : Int) := n526.trans (if_neg (by decide))
          have n529 : v 529 = if (0 : Int) ≠ 0 then (0 : Int) else (1 : Int) := e529.trans (by rw [f11, f526])
          have f529 : v 529 = (1 : Int) := n529.trans (if_neg (by decide))
          exact f529
        · skip
          have f10 : v 10 = (1 : Int) := e10.trans (by decide +kernel)
          have n11 : v 11 = if (1 : Int) ≠ 0 then (0 : Int) else (1 : Int) := e11.trans (by rw [f10])
          have f11 : v 11 = (0 : Int) := n11.trans (if_pos (by decide))
          have f21 : v 21 = (1 : Int) := A21.trans (by rw [ha]; rfl)
          have n22 : v 22 = if (1 : Int) ≠ 0 then (0 : Int) else (1 : Int) := e22.trans (by rw [f21])
          have f22 : v 22 = (0 : Int) := n22.trans (if_pos (by decide))
          have f31 : v 31 = (0 : Int) := A31.trans (by rw [hb]; rfl)
          have n32 : v 32 = if (0 : Int) ≠ 0 then (0 : Int) else (1 : Int) := e32.trans (by rw [f31])
          have f32 : v 32 = (1 : Int) := n32.trans (if_neg (by decide))
          have n33 : v 33 = if (0 : Int) ≠ 0 then (1 : Int) else (1 : Int) := e33.trans (by rw [f22, f32])
          have f33 : v 33 = (1 : Int) := n33.trans (if_neg (by decide))
          have f64 : v 64 = (0 : Int) := e64.trans (sem5e _ _)
          have n67 : v 67 = if v 65 ≠ 0 then (0 : Int) else v 61 := e67.trans (by rw [f64])
          have f67 : v 67 = v 61 := n67.trans (err_ite e65)
          have n68 : v 68 = b2i (v 61 != (0 : Int)) := e68.trans (by rw [f67])
          have n70 : v 70 = if v 68 ≠ 0 then v 61 else (0 : Int) := e70.trans (by rw [f67])
          have f70 : v 70 = v 61 := n70.trans (keep_ite n68)
          have n77 : v 77 = if (1 : Int) ≠ 0 then (1 : Int) else v 61 := e77.trans (by rw [f33, f70])
          have f77 : v 77 = (1 : Int) := n77.trans (if_pos (by decide))
          have n78 : v 78 = if (1 : Int) ≠ 0 then (0 : Int) else v 71 := e78.trans (by rw [f33])
          have f78 : v 78 = (0 : Int) := n78.trans (if_pos (by decide))
          have n79 : v 79 = if (1 : Int) ≠ 0 then (0 : Int) else v 72 := e79.trans (by rw [f33])
          have f79 : v 79 = (0 : Int) := n79.trans (if_pos (by decide))
          have n80 : v 80 = if (1 : Int) ≠ 0 then (0 : Int) else v 73 := e80.trans (by rw [f33])
          have f80 : v 80 = (0 : Int) := n80.trans (if_pos (by decide))
          have n81 : v 81 = if (1 : Int) ≠ 0 then (0 : Int) else v 74 := e81.trans (by rw [f33])
          have f81 : v 81 = (0 : Int) := n81.trans (if_pos (by decide))
          have n82 : v 82 = if (1 : Int) ≠ 0 then (0 : Int) else v 75 := e82.trans (by rw [f33])
          have f82 : v 82 = (0 : Int) := n82.trans (if_pos (by decide))
          have n83 : v 83 = if (1 : Int) ≠ 0 then (0 : Int) else v 76 := e83.trans (by rw [f33])
          have f83 : v 83 = (0 : Int) := n83.trans (if_pos (by decide))
          have f88 : v 88 = (0 : Int) := Q88.trans (by rw [hq]; rfl)
          have n89 : v 89 = if (0 : Int) ≠ 0 then (0 : Int) else (1 : Int) := e89.trans (by rw [f88])
          have f89 : v 89 = (1 : Int) := n89.trans (if_neg (by decide))
          have n90 : v 90 = if (1 : Int) ≠ 0 then (1 : Int) else (0 : Int) := e90.trans (by rw [f89, f22])
          have f90 : v 90 = (1 : Int) := n90.trans (if_pos (by decide))
          have f131 : v 131 = v 128 := e131.trans (keep_ite e129)
          have n138 : v 138 = if (1 : Int) ≠ 0 then (1 : Int) else v 128 := e138.trans (by rw [f90, f131])
          have f138 : v 138 = (1 : Int) := n138.trans (if_pos (by decide))
          have n139 : v 139 = if (1 : Int) ≠ 0 then (0 : Int) else v 132 := e139.trans (by rw [f90])
          have f139 : v 139 = (0 : Int) := n139.trans (if_pos (by decide))
          have n140 : v 140 = if (1 : Int) ≠ 0 then (0 : Int) else v 133 := e140.trans (by rw [f90])
          have f140 : v 140 = (0 : Int) := n140.trans (if_pos (by decide))
          have n141 : v 141 = if (1 : Int) ≠ 0 then (0 : Int) else v 134 := e141.trans (by rw [f90])
          have f141 : v 141 = (0 : Int) := n141.trans (if_pos (by decide))
          have n142 : v 142 = if (1 : Int) ≠ 0 then (0 : Int) else v 135 := e142.trans (by rw [f90])
          have f142 : v 142 = (0 : Int) := n142.trans (if_pos (by decide))
          have n143 : v 143 = if (1 : Int) ≠ 0 then (0 : Int) else v 136 := e143.trans (by rw [f90])
          have f143 : v 143 = (0 : Int) := n143.trans (if_pos (by decide))
          have n144 : v 144 = if (1 : Int) ≠ 0 then (0 : Int) else v 137 := e144.trans (by rw [f90])
          have f144 : v 144 = (0 : Int) := n144.trans (if_pos (by decide))
          have n145 : v 145 = if (1 : Int) ≠ 0 then (1 : Int) else (1 : Int) := e145.trans (by rw [f90, f32])
          have f145 : v 145 = (1 : Int) := n145.trans (if_pos (by decide))
          have f225 : v 225 = v 222 := e225.trans (keep_ite e223)
          have n232 : v 232 = if (1 : Int) ≠ 0 then (1 : Int) else v 222 := e232.trans (by rw [f145, f225])
          have f232 : v 232 = (1 : Int) := n232.trans (if_pos (by decide))
          have n233 : v 233 = if (1 : Int) ≠ 0 then (0 : Int) else v 226 := e233.trans (by rw [f145])
          have f233 : v 233 = (0 : Int) := n233.trans (if_pos (by decide))
          have n234 : v 234 = if (1 : Int) ≠ 0 then (0 : Int) else v 227 := e234.trans (by rw [f145])
          have f234 : v 234 = (0 : Int) := n234.trans (if_pos (by decide))
          have n235 : v 235 = if (1 : Int) ≠ 0 then (0 : Int) else v 228 := e235.trans (by rw [f145])
          have f235 : v 235 = (0 : Int) := n235.trans (if_pos (by decide))
          have n236 : v 236 = if (1 : Int) ≠ 0 then (0 : Int) else v 229 := e236.trans (by rw [f145])
          have f236 : v 236 = (0 : Int) := n236.trans (if_pos (by decide))
          have n237 : v 237 = if (1 : Int) ≠ 0 then (0 : Int) else v 230 := e237.trans (by rw [f145])
          have f237 : v 237 = (0 : Int) := n237.trans (if_pos (by decide))
          have n238 : v 238 = if (1 : Int) ≠ 0 then (0 : Int) else v 231 := e238.trans (by rw [f145])
          have f238 : v 238 = (0 : Int) := n238.trans (if_pos (by decide))
          have f241 : v 241 = (1 : Int) := A241.trans (by rw [ha]; rfl)
          have f243 : v 243 = (0 : Int) := A243.trans (by rw [hb]; rfl)
          have n244 : v 244 = if (1 : Int) ≠ 0 then (0 : Int) else (0 : Int) := e244.trans (by rw [f241, f243])
          have f244 : v 244 = (0 : Int) := n244.trans (if_pos (by decide))
          have n245 : v 245 = if (0 : Int) ≠ 0 then (0 : Int) else (1 : Int) := e245.trans (by rw [f244])
          have f245 : v 245 = (1 : Int) := n245.trans (if_neg (by decide))
          have n246 : v 246 = b2i ((0 : Int) == (0 : Int)) := e246.trans (by rw [f78])
          have f246 : v 246 = (1 : Int) := n246.trans (by decide)
          have n247 : v 247 = b2i ((0 : Int) == (0 : Int)) := e247.trans (by rw [f79])
          have f247 : v 247 = (1 : Int) := n247.trans (by decide)
          have n248 : v 248 = b2i ((0 : Int) == (0 : Int)) := e248.trans (by rw [f80])
          have f248 : v 248 = (1 : Int) := n248.trans (by decide)
          have n249 : v 249 = b2i ((0 : Int) == (0 : Int)) := e249.trans (by rw [f81])
          have f249 : v 249 = (1 : Int) := n249.trans (by decide)
          have n250 : v 250 = b2i ((0 : Int) == (0 : Int)) := e250.trans (by rw [f82])
          have f250 : v 250 = (1 : Int) := n250.trans (by decide)
          have n251 : v 251 = b2i ((0 : Int) == (0 : Int)) := e251.trans (by rw [f83])
          have f251 : v 251 = (1 : Int) := n251.trans (by decide)
          have n252 : v 252 = if (1 : Int) ≠ 0 then (1 : Int) else (0 : Int) := e252.trans (by rw [f250, f251])
          have f252 : v 252 = (1 : Int) := n252.trans (if_pos (by decide))
          have n253 : v 253 = if (1 : Int) ≠ 0 then (1 : Int) else (0 : Int) := e253.trans (by rw [f249, f252])
          have f253 : v 253 = (1 : Int) := n253.trans (if_pos (by decide))
          have n254 : v 254 = if (1 : Int) ≠ 0 then (1 : Int) else (0 : Int) := e254.trans (by rw [f248, f253])
          have f254 : v 254 = (1 : Int) := n254.trans (if_pos (by decide))
          have n255 : v 255 = if (1 : Int) ≠ 0 then (1 : Int) else (0 : Int) := e255.trans (by rw [f247, f254])
          have f255 : v 255 = (1 : Int) := n255.trans (if_pos (by decide))
          have n256 : v 256 = if (1 : Int) ≠ 0 then (1 : Int) else (0 : Int) := e256.trans (by rw [f246, f255])
          have f256 : v 256 = (1 : Int) := n256.trans (if_pos (by decide))
          have n257 : v 257 = b2i ((1 : Int) == (1 : Int)) := e257.trans (by rw [f77])
          have f257 : v 257 = (1 : Int) := n257.trans (by decide)
          have n258 : v 258 = if (1 : Int) ≠ 0 then (1 : Int) else (0 : Int) := e258.trans (by rw [f256, f257])
          have f258 : v 258 = (1 : Int) := n258.trans (if_pos (by decide))
          have n259 : v 259 = if (1 : Int) ≠ 0 then (0 : Int) else (1 : Int) := e259.trans (by rw [f258])
          have f259 : v 259 = (0 : Int) := n259.trans (if_pos (by decide))
          have n260 : v 260 = b2i ((0 : Int) == (0 : Int)) := e260.trans (by rw [f233])
          have f260 : v 260 = (1 : Int) := n260.trans (by decide)
          have n261 : v 261 = b2i ((0 : Int) == (0 : Int)) := e261.trans (by rw [f234])
          have f261 : v 261 = (1 : Int) := n261.trans (by decide)
          have n262 : v 262 = b2i ((0 : Int) == (0 : Int)) := e262.trans (by rw [f235])
          have f262 : v 262 = (1 : Int) := n262.trans (by decide)
          have n263 : v 263 = b2i ((0 : Int) == (0 : Int)) := e263.trans (by rw [f236])
          have f263 : v 263 = (1 : Int) := n263.trans (by decide)
          have n264 : v 264 = b2i ((0 : Int) == (0 : Int)) := e264.trans (by rw [f237])
          have f264 : v 264 = (1 : Int) := n264.trans (by decide)
          have n265 : v 265 = b2i ((0 : Int) == (0 : Int)) := e265.trans (by rw [f238])
          have f265 : v 265 = (1 : Int) := n265.trans (by decide)
          have n266 : v 266 = if (1 : Int) ≠ 0 then (1 : Int) else (0 : Int) := e266.trans (by rw [f264, f265])
          have f266 : v 266 = (1 : Int) := n266.trans (if_pos (by decide))
          have n267 : v 267 = if (1 : Int) ≠ 0 then (1 : Int) else (0 : Int) := e267.trans (by rw [f263, f266])
          have f267 : v 267 = (1 : Int) := n267.trans (if_pos (by decide))
          have n268 : v 268 = if (1 : Int) ≠ 0 then (1 : Int) else (0 : Int) := e268.trans (by rw [f262, f267])
          have f268 : v 268 = (1 : Int) := n268.trans (if_pos (by decide))
          have n269 : v 269 = if (1 : Int) ≠ 0 then (1 : Int) else (0 : Int) := e269.trans (by rw [f261, f268])
          have f269 : v 269 = (1 : Int) := n269.trans (if_pos (by decide))
          have n270 : v 270 = if (1 : Int) ≠ 0 then (1 : Int) else (0 : Int) := e270.trans (by rw [f260, f269])
          have f270 : v 270 = (1 : Int) := n270.trans (if_pos (by decide))
          have n271 : v 271 = b2i ((1 : Int) == (1 : Int)) := e271.trans (by rw [f232])
          have f271 : v 271 = (1 : Int) := n271.trans (by decide)
          have n272 : v 272 = if (1 : Int) ≠ 0 then (1 : Int) else (0 : Int) := e272.trans (by rw [f270, f271])
          have f272 : v 272 = (1 : Int) := n272.trans (if_pos (by decide))
          have n273 : v 273 = if (1 : Int) ≠ 0 then (0 : Int) else (1 : Int) := e273.trans (by rw [f272])
          have f273 : v 273 = (0 : Int) := n273.trans (if_pos (by decide))
          have n274 : v 274 = if (0 : Int) ≠ 0 then (1 : Int) else (0 : Int) := e274.trans (by rw [f259, f273])
          have f274 : v 274 = (0 : Int) := n274.trans (if_neg (by decide))
          have n311 : v 311 = if (1 : Int) ≠ 0 then (0 : Int) else (0 : Int) := e311.trans (by rw [f245, f274])
          have f311 : v 311 = (0 : Int) := n311.trans (if_pos (by decide))
          have n313 : v 313 = if (0 : Int) ≠ 0 then v 309 else (0 : Int) := e313.trans (by rw [f244])
          have f313 : v 313 = (0 : Int) := n313.trans (if_neg (by decide))
          have n315 : v 315 = if (0 : Int) ≠ 0 then (1 : Int) else (0 : Int) := e315.trans (by rw [f311, f313])
          have f315 : v 315 = (0 : Int) := n315.trans (if_neg (by decide))
          have n316 : v 316 = b2i ((0 : Int) == (0 : Int)) := e316.trans (by rw [f139])
          have f316 : v 316 = (1 : Int) := n316.trans (by decide)
          have n317 : v 317 = b2i ((0 : Int) == (0 : Int)) := e317.trans (by rw [f140])
          have f317 : v 317 = (1 : Int) := n317.trans (by decide)
          have n318 : v 318 = b2i ((0 : Int) == (0 : Int)) := e318.trans (by rw [f141])
          have f318 : v 318 = (1 : Int) := n318.trans (by decide)
          have n319 : v 319 = b2i ((0 : Int) == (0 : Int)) := e319.trans (by rw [f142])
          have f319 : v 319 = (1 : Int) := n319.trans (by decide)
          have n320 : v 320 = b2i ((0 : Int) == (0 : Int)) := e320.trans (by rw [f143])
          have f320 : v 320 = (1 : Int) := n320.trans (by decide)
          have n321 : v 321 = b2i ((0 : Int) == (0 : Int)) := e321.trans (by rw [f144])
          have f321 : v 321 = (1 : Int) := n321.trans (by decide)
          have n322 : v 322 = if (1 : Int) ≠ 0 then (1 : Int) else (0 : Int) := e322.trans (by rw [f320, f321])
          have f322 : v 322 = (1 : Int) := n322.trans (if_pos (by decide))
          have n323 : v 323 = if (1 : Int) ≠ 0 then (1 : Int) else (0 : Int) := e323.trans (by rw [f319, f322])
          have f323 : v 323 = (1 : Int) := n323.trans (if_pos (by decide))
          have n324 : v 324 = if (1 : Int) ≠ 0 then (1 : Int) else (0 : Int) := e324.trans (by rw [f318, f323])
          have f324 : v 324 = (1 : Int) := n324.trans (if_pos (by decide))
          have n325 : v 325 = if (1 : Int) ≠ 0 then (1 : Int) else (0 : Int) := e325.trans (by rw [f317, f324])
          have f325 : v 325 = (1 : Int) := n325.trans (if_pos (by decide))
          have n326 : v 326 = if (1 : Int) ≠ 0 then (1 : Int) else (0 : Int) := e326.trans (by rw [f316, f325])
          have f326 : v 326 = (1 : Int) := n326.trans (if_pos (by decide))
          have n327 : v 327 = b2i ((1 : Int) == (1 : Int)) := e327.trans (by rw [f138])
          have f327 : v 327 = (1 : Int) := n327.trans (by decide)
          have n328 : v 328 = if (1 : Int) ≠ 0 then (1 : Int) else (0 : Int) := e328.trans (by rw [f326, f327])
          have f328 : v 328 = (1 : Int) := n328.trans (if_pos (by decide))
          have n329 : v 329 = if (1 : Int) ≠ 0 then (1 : Int) else (0 : Int) := e329.trans (by rw [f328, f272])
          have f329 : v 329 = (1 : Int) := n329.trans (if_pos (by decide))
          have n331 : v 331 = if (1 : Int) ≠ 0 then (0 : Int) else (1 : Int) := e331.trans (by rw [f241])
          have f331 : v 331 = (0 : Int) := n331.trans (if_pos (by decide))
          have n523 : v 523 = if (0 : Int) ≠ 0 then (1 : Int) else v 522 := e523.trans (by rw [f331, f328])
          have f523 : v 523 = v 522 := n523.trans (if_neg (by decide))
          have n524 : v 524 = if (1 : Int) ≠ 0 then (1 : Int) else v 522 := e524.trans (by rw [f89, f329, f523])
          have f524 : v 524 = (1 : Int) := n524.trans (if_pos (by decide))
          have n526 : v 526 = if (0 : Int) ≠ 0 then (0 : Int) else (1 : Int) := e526.trans (by rw [f315, f524])
          have f526 : v 526 = (1 : Int) := n526.trans (if_neg (by decide))
          have n529 : v 529 = if (0 : Int) ≠ 0 then (0 : Int) else (1 : Int) := e529.trans (by rw [f11, f526])
          have f529 : v 529 = (1 : Int) := n529.trans (if_neg (by decide))
          exact f529
      · skip
        have f10 : v 10 = (1 : Int) := e10.trans (by decide +kernel)
        have n11 : v 11 = if (1 : Int) ≠ 0 then (0 : Int) else (1 : Int) := e11.trans (by rw [f10])
        have f11 : v 11 = (0 : Int) := n11.trans (if_pos (by decide))
        have f21 : v 21 = (0 : Int) := A21.trans (by rw [ha]; rfl)
        have n22 : v 22 = if (0 : Int) ≠ 0 then (0 : Int) else (1 : Int) := e22.trans (by rw [f21])
        have f22 : v 22 = (1 : Int) := n22.trans (if_neg (by decide))
        have n33 : v 33 = if (1 : Int) ≠ 0 then (1 : Int) else v 32 := e33.trans (by rw [f22])
        have f33 : v 33 = (1 : Int) := n33.trans (if_pos (by decide))
        have f64 : v 64 = (0 : Int) := e64.trans (sem5e _ _)
        have n67 : v 67 = if v 65 ≠ 0 then (0 : Int) else v 61 := e67.trans (by rw [f64])
        have f67 : v 67 = v 61 := n67.trans (err_ite e65)
        have n68 : v 68 = b2i (v 61 != (0 : Int)) := e68.trans (by rw [f67])
        have n70 : v 70 = if v 68 ≠ 0 then v 61 else (0 : Int) := e70.trans (by rw [f67])
        have f70 : v 70 = v 61 := n70.trans (keep_ite n68)
        have n77 : v 77 = if (1 : Int) ≠ 0 then (1 : Int) else v 61 := e77.trans (by rw [f33, f70])
        have f77 : v 77 = (1 : Int) := n77.trans (if_pos (by decide))
        have n78 : v 78 = if (1 : Int) ≠ 0 then (0 : Int) else v 71 := e78.trans (by rw [f33])
        have f78 : v 78 = (0 : Int) := n78.trans (if_pos (by decide))
        have n79 : v 79 = if (1 : Int) ≠ 0 then (0 : Int) else v 72 := e79.trans (by rw [f33])
        have f79 : v 79 = (0 : Int) := n79.trans (if_pos (by decide))
        have n80 : v 80 = if (1 : Int) ≠ 0 then (0 : Int) else v 73 := e80.trans (by rw [f33])
        have f80 : v 80 = (0 : Int) := n80.trans (if_pos (by decide))
        have n81 : v 81 = if (1 : Int) ≠ 0 then (0 : Int) else v 74 := e81.trans (by rw [f33])
        have f81 : v 81 = (0 : Int) := n81.trans (if_pos (by decide))
        have n82 : v 82 = if (1 : Int) ≠ 0 then (0 : Int) else v 75 := e82.trans (by rw [f33])
        have f82 : v 82 = (0 : Int) := n82.trans (if_pos (by decide))
        have n83 : v 83 = if (1 : Int) ≠ 0 then (0 : Int) else v 76 := e83.trans (by rw [f33])
        have f83 : v 83 = (0 : Int) := n83.trans (if_pos (by decide))
        have f88 : v 88 = (0 : Int) := Q88.trans (by rw [hq]; rfl)
        have n89 : v 89 = if (0 : Int) ≠ 0 then (0 : Int) else (1 : Int) := e89.trans (by rw [f88])
        have f89 : v 89 = (1 : Int) := n89.trans (if_neg (by decide))
        have n90 : v 90 = if (1 : Int) ≠ 0 then (1 : Int) else (1 : Int) := e90.trans (by rw [f89, f22])
        have f90 : v 90 = (1 : Int) := n90.trans (if_pos (by decide))
        have f131 : v 131 = v 128 := e131.trans (keep_ite e129)
        have n138 : v 138 = if (1 : Int) ≠ 0 then (1 : Int) else v 128 := e138.trans (by rw [f90, f131])
        have f138 : v 138 = (1 : Int) := n138.trans (if_pos (by decide))
        have n139 : v 139 = if (1 : Int) ≠ 0 then (0 : Int) else v 132 := e139.trans (by rw [f90])
        have f139 : v 139 = (0 : Int) := n139.trans (if_pos (by decide))
        have n140 : v 140 = if (1 : Int) ≠ 0 then (0 : Int) else v 133 := e140.trans (by rw [f90])
        have f140 : v 140 = (0 : Int) := n140.trans (if_pos (by decide))
        have n141 : v 141 = if (1 : Int) ≠ 0 then (0 : Int) else v 134 := e141.trans (by rw [f90])
        have f141 : v 141 = (0 : Int) := n141.trans (if_pos (by decide))
        have n142 : v 142 = if (1 : Int) ≠ 0 then (0 : Int) else v 135 := e142.trans (by rw [f90])
        have f142 : v 142 = (0 : Int) := n142.trans (if_pos (by decide))
        have n143 : v 143 = if (1 : Int) ≠ 0 then (0 : Int) else v 136 := e143.trans (by rw [f90])
        have f143 : v 143 = (0 : Int) := n143.trans (if_pos (by decide))
        have n144 : v 144 = if (1 : Int) ≠ 0 then (0 : Int) else v 137 := e144.trans (by rw [f90])
        have f144 : v 144 = (0 : Int) := n144.trans (if_pos (by decide))
        have n145 : v 145 = if (1 : Int) ≠ 0 then (1 : Int) else v 32 := e145.trans (by rw [f90])
        have f145 : v 145 = (1 : Int) := n145.trans (if_pos (by decide))
        have f225 : v 225 = v 222 := e225.trans (keep_ite e223)
        have n232 : v 232 = if (1 : Int) ≠ 0 then (1 : Int) else v 222 := e232.trans (by rw [f145, f225])
        have f232 : v 232 = (1 : Int) := n232.trans (if_pos (by decide))
        have n233 : v 233 = if (1 : Int) ≠ 0 then (0 : Int) else v 226 := e233.trans (by rw [f145])
        have f233 : v 233 = (0 : Int) := n233.trans (if_pos (by decide))
        have n234 : v 234 = if (1 : Int) ≠ 0 then (0 : Int) else v 227 := e234.trans (by rw [f145])
        have f234 : v 234 = (0 : Int) := n234.trans (if_pos (by decide))
        have n235 : v 235 = if (1 : Int) ≠ 0 then (0 : Int) else v 228 := e235.trans (by rw [f145])
        have f235 : v 235 = (0 : Int) := n235.trans (if_pos (by decide))
        have n236 : v 236 = if (1 : Int) ≠ 0 then (0 : Int) else v 229 := e236.trans (by rw [f145])
        have f236 : v 236 = (0 : Int) := n236.trans (if_pos (by decide))
        have n237 : v 237 = if (1 : Int) ≠ 0 then (0 : Int) else v 230 := e237.trans (by rw [f145])
        have f237 : v 237 = (0 : Int) := n237.trans (if_pos (by decide))
        have n238 : v 238 = if (1 : Int) ≠ 0 then (0 : Int) else v 231 := e238.trans (by rw [f145])
        have f238 : v 238 = (0 : Int) := n238.trans (if_pos (by decide))
        have f241 : v 241 = (0 : Int) := A241.trans (by rw [ha]; rfl)
        have n244 : v 244 = if (0 : Int) ≠ 0 then v 243 else (0 : Int) := e244.trans (by rw [f241])
        have f244 : v 244 = (0 : Int) := n244.trans (if_neg (by decide))
        have n245 : v 245 = if (0 : Int) ≠ 0 then (0 : Int) else (1 : Int) := e245.trans (by rw [f244])
        have f245 : v 245 = (1 : Int) := n245.trans (if_neg (by decide))
        have n246 : v 246 = b2i ((0 : Int) == (0 : Int)) := e246.trans (by rw [f78])
        have f246 : v 246 = (1 : Int) := n246.trans (by decide)
        have n247 : v 247 = b2i ((0 : Int) == (0 : Int)) := e247.trans (by rw [f79])
        have f247 : v 247 = (1 : Int) := n247.trans (by decide)
        have n248 : v 248 = b2i ((0 : Int) == (0 : Int)) := e248.trans (by rw [f80])
        have f248 : v 248 = (1 : Int) := n248.trans (by decide)
        have n249 : v 249 = b2i ((0 : Int) == (0 : Int)) := e249.trans (by rw [f81])
        have f249 : v 249 = (1 : Int) := n249.trans (by decide)
        have n250 : v 250 = b2i ((0 : Int) == (0 : Int)) := e250.trans (by rw [f82])
        have f250 : v 250 = (1 : Int) := n250.trans (by decide)
        have n251 : v 251 = b2i ((0 : Int) == (0 : Int)) := e251.trans (by rw [f83])
        have f251 : v 251 = (1 : Int) := n251.trans (by decide)
        have n252 : v 252 = if (1 : Int) ≠ 0 then (1 : Int) else (0 : Int) := e252.trans (by rw [f250, f251])
        have f252 : v 252 = (1 : Int) := n252.trans (if_pos (by decide))
        have n253 : v 253 = if (1 : Int) ≠ 0 then (1 : Int) else (0 : Int) := e253.trans (by rw [f249, f252])
        have f253 : v 253 = (1 : Int) := n253.trans (if_pos (by decide))
        have n254 : v 254 = if (1 : Int) ≠ 0 then (1 : Int) else (0 : Int) := e254.trans (by rw [f248, f253])
        have f254 : v 254 = (1 : Int) := n254.trans (if_pos (by decide))
        have n255 : v 255 = if (1 : Int) ≠ 0 then (1 : Int) else (0 : Int) := e255.trans (by rw [f247, f254])
        have f255 : v 255 = (1 : Int) := n255.trans (if_pos (by decide))
        have n256 : v 256 = if (1 : Int) ≠ 0 then (1 : Int) else (0 : Int) := e256.trans (by rw [f246, f255])
        have f256 : v 256 = (1 : Int) := n256.trans (if_pos (by decide))
        have n257 : v 257 = b2i ((1 : Int) == (1 : Int)) := e257.trans (by rw [f77])
        have f257 : v 257 = (1 : Int) := n257.trans (by decide)
        have n258 : v 258 = if (1 : Int) ≠ 0 then (1 : Int) else (0 : Int) := e258.trans (by rw [f256, f257])
        have f258 : v 258 = (1 : Int) := n258.trans (if_pos (by decide))
        have n259 : v 259 = if (1 : Int) ≠ 0 then (0 : Int) else (1 : Int) := e259.trans (by rw [f258])
        have f259 : v 259 = (0 : Int) := n259.trans (if_pos (by decide))
        have n260 : v 260 = b2i ((0 : Int) == (0 : Int)) := e260.trans (by rw [f233])
        have f260 : v 260 = (1 : Int) := n260.trans (by decide)
        have n261 : v 261 = b2i ((0 : Int) == (0 : Int)) := e261.trans (by rw [f234])
        have f261 : v 261 = (1 : Int) := n261.trans (by decide)
        have n262 : v 262 = b2i ((0 : Int) == (0 : Int)) := e262.trans (by rw [f235])
        have f262 : v 262 = (1 : Int) := n262.trans (by decide)
        have n263 : v 263 = b2i ((0 : Int) == (0 : Int)) := e263.trans (by rw [f236])
        have f263 : v 263 = (1 : Int) := n263.trans (by decide)
        have n264 : v 264 = b2i ((0 : Int) == (0 : Int)) := e264.trans (by rw [f237])
        have f264 : v 264 = (1 : Int) := n264.trans (by decide)
        have n265 : v 265 = b2i ((0 : Int) == (0 : Int)) := e265.trans (by rw [f238])
        have f265 : v 265 = (1 : Int) := n265.trans (by decide)
        have n266 : v 266 = if (1 : Int) ≠ 0 then (1 : Int) else (0 : Int) := e266.trans (by rw [f264, f265])
        have f266 : v 266 = (1 : Int) := n266.trans (if_pos (by decide))
        have n267 : v 267 = if (1 : Int) ≠ 0 then (1 : Int) else (0 : Int) := e267.trans (by rw [f263, f266])
        have f267 : v 267 = (1 : Int) := n267.trans (if_pos (by decide))
        have n268 : v 268 = if (1 : Int) ≠ 0 then (1 : Int) else (0 : Int) := e268.trans (by rw [f262, f267])
        have f268 : v 268 = (1 : Int) := n268.trans (if_pos (by decide))
        have n269 : v 269 = if (1 : Int) ≠ 0 then (1 : Int) else (0 : Int) := e269.trans (by rw [f261, f268])
        have f269 : v 269 = (1 : Int) := n269.trans (if_pos (by decide))
        have n270 : v 270 = if (1 : Int) ≠ 0 then (1 : Int) else (0 : Int) := e270.trans (by rw [f260, f269])
        have f270 : v 270 = (1 : Int) := n270.trans (if_pos (by decide))
        have n271 : v 271 = b2i ((1 : Int) == (1 : Int)) := e271.trans (by rw [f232])
        have f271 : v 271 = (1 : Int) := n271.trans (by decide)
        have n272 : v 272 = if (1 : Int) ≠ 0 then (1 : Int) else (0 : Int) := e272.trans (by rw [f270, f271])
        have f272 : v 272 = (1 : Int) := n272.trans (if_pos (by decide))
        have n273 : v 273 = if (1 : Int) ≠ 0 then (0 : Int) else (1 : Int) := e273.trans (by rw [f272])
        have f273 : v 273 = (0 : Int) := n273.trans (if_pos (by decide))
        have n274 : v 274 = if (0 : Int) ≠ 0 then (1 : Int) else (0 : Int) := e274.trans (by rw [f259, f273])
        have f274 : v 274 = (0 : Int) := n274.trans (if_neg (by decide))
        have n311 : v 311 = if (1 : Int) ≠ 0 then (0 : Int) else (0 : Int) := e311.trans (by rw [f245, f274])
        have f311 : v 311 = (0 : Int) := n311.trans (if_pos (by decide))
        have n313 : v 313 = if (0 : Int) ≠ 0 then v 309 else (0 : Int) := e313.trans (by rw [f244])
        have f313 : v 313 = (0 : Int) := n313.trans (if_neg (by decide))
        have n315 : v 315 = if (0 : Int) ≠ 0 then (1 : Int) else (0 : Int) := e315.trans (by rw [f311, f313])
        have f315 : v 315 = (0 : Int) := n315.trans (if_neg (by decide))
        have n316 : v 316 = b2i ((0 : Int) == (0 : Int)) := e316.trans (by rw [f139])
        have f316 : v 316 = (1 : Int) := n316.trans (by decide)
        have n317 : v 317 = b2i ((0 : Int) == (0 : Int)) := e317.trans (by rw [f140])
        have f317 : v 317 = (1 : Int) := n317.trans (by decide)
        have n318 : v 318 = b2i ((0 : Int) == (0 : Int)) := e318.trans (by rw [f141])
        have f318 : v 318 = (1 : Int) := n318.trans (by decide)
        have n319 : v 319 = b2i ((0 : Int) == (0 : Int)) := e319.trans (by rw [f142])
        have f319 : v 319 = (1 : Int) := n319.trans (by decide)
        have n320 : v 320 = b2i ((0 : Int) == (0 : Int)) := e320.trans (by rw [f143])
        have f320 : v 320 = (1 : Int) := n320.trans (by decide)
        have n321 : v 321 = b2i ((0 : Int) == (0 : Int)) := e321.trans (by rw [f144])
        have f321 : v 321 = (1 : Int) := n321.trans (by decide)
        have n322 : v 322 = if (1 : Int) ≠ 0 then (1 : Int) else (0 : Int) := e322.trans (by rw [f320, f321])
        have f322 : v 322 = (1 : Int) := n322.trans (if_pos (by decide))
        have n323 : v 323 = if (1 : Int) ≠ 0 then (1 : Int) else (0 : Int) := e323.trans (by rw [f319, f322])
        have f323 : v 323 = (1 : Int) := n323.trans (if_pos (by decide))
        have n324 : v 324 = if (1 : Int) ≠ 0 then (1 : Int) else (0 : Int) := e324.trans (by rw [f318, f323])
        have f324 : v 324 = (1 : Int) := n324.trans (if_pos (by decide))
        have n325 : v 325 = if (1 : Int) ≠ 0 then (1 : Int) else (0 : Int) := e325.trans (by rw [f317, f324])
        have f325 : v 325 = (1 : Int) := n325.trans (if_pos (by decide))
        have n326 : v 326 = if (1 : Int) ≠ 0 then (1 : Int) else (0 : Int) := e326.trans (by rw [f316, f325])
        have f326 : v 326 = (1 : Int) := n326.trans (if_pos (by decide))
        have n327 : v 327 = b2i ((1 : Int) == (1 : Int)) := e327.trans (by rw [f138])
        have f327 : v 327 = (1 : Int) := n327.trans (by decide)
        have n328 : v 328 = if (1 : Int) ≠ 0 then (1 : Int) else (0 : Int) := e328.trans (by rw [f326, f327])
        have f328 : v 328 = (1 : Int) := n328.trans (if_pos (by decide))
        have n329 : v 329 = if (1 : Int) ≠ 0 then (1 : Int) else (0 : Int) := e329.trans (by rw [f328, f272])
        have f329 : v 329 = (1 : Int) := n329.trans (if_pos (by decide))
        have n331 : v 331 = if (0 : Int) ≠ 0 then (0 : Int) else (1 : Int) := e331.trans (by rw [f241])
        have f331 : v 331 = (1 : Int) := n331.trans (if_neg (by decide))
        have n523 : v 523 = if (1 : Int) ≠ 0 then (1 : Int) else v 522 := e523.trans (by rw [f331, f328])
        have f523 : v 523 = (1 : Int) := n523.trans (if_pos (by decide))
        have n524 : v 524 = if (1 : Int) ≠ 0 then (1 : Int) else (1 : Int) := e524.trans (by rw [f89, f329, f523])
        have f524 : v 524 = (1 : Int) := n524.trans (if_pos (by decide))
        have n526 : v 526 = if (0 : Int) ≠ 0 then (0 : Int) else (1 : Int) := e526.trans (by rw [f315, f524])
        have f526 : v 526 = (1 : Int) := n526.trans (if_neg (by decide))
        have n529 : v 529 = if (0 : Int) ≠ 0 then (0 : Int) else (1 : Int) := e529.trans (by rw [f11, f526])
        have f529 : v 529 = (1 : Int) := n529.trans (if_neg (by decide))
        exact f529
end Go.Proofs.YtlloiallkcfomaaGreat
