/- The law VectorsAngles: Between and Place return the specified angles and places, or the specified errors. -/
import Derived.Test.YtfffpodaabdpfaaGreatSpN
import Derived.Test.YtfffpodaabdpfaaGreatAwake24
import Derived.Test.YtfffpodaabdpfaaGreatDirs
set_option linter.unusedVariables false
set_option linter.unusedSimpArgs false
namespace Go.Proofs.YtfffpodaabdpfaaGreat
open Go.RowKit Alm Sx
def spAng : List Sx.Spec := spProg ++ spRef4 ++ spRef7 ++ [sAwake24]
theorem spAng_ok (args : List Int) : ∀ s ∈ spAng, SpecOK Tryz.prog (cxB args) s := by
  intro s hs
  rcases List.mem_append.1 hs with h | h
  · rcases List.mem_append.1 h with h | h
    · exact spBoth_ok args s h
    · exact spRef7_ok args s h
  · rw [List.mem_singleton.1 h]; exact sAwake24_ok args
def nd_ang : List Nd := [
  .arg 0,
  .arg 1,
  .arg 2,
  .arg 3,
  .arg 4,
  .arg 5,
  .arg 6,
  .arg 7,
  .arg 8,
  .arg 9,
  .arg 10,
  .arg 11,
  .app 20 0 [],
  .ite (.n 12) (.c 0) (.c 1),
  .ite (.n 13) (.c 0) (.c 1),
  .app 8 0 [.n 0, .n 1],
  .app 8 0 [.n 2, .n 3],
  .ite (.n 15) (.n 16) (.c 0),
  .app 8 0 [.n 4, .n 5],
  .ite (.n 17) (.n 18) (.c 0),
  .ite (.n 19) (.c 0) (.c 1),
  .app 8 0 [.n 6, .n 7],
  .app 8 0 [.n 8, .n 9],
  .ite (.n 21) (.n 22) (.c 0),
  .app 8 0 [.n 10, .n 11],
  .ite (.n 23) (.n 24) (.c 0),
  .ite (.n 25) (.c 0) (.c 1),
  .ite (.n 20) (.c 1) (.n 26),
  .ite (.n 27) (.c 0) (.c 1),
  .app 0 0 [.n 2, .n 3, .n 10, .n 11],
  .app 0 1 [.n 2, .n 3, .n 10, .n 11],
  .app 0 2 [.n 2, .n 3, .n 10, .n 11],
  .app 0 0 [.n 4, .n 5, .n 8, .n 9],
  .app 0 1 [.n 4, .n 5, .n 8, .n 9],
  .app 0 2 [.n 4, .n 5, .n 8, .n 9],
  .bin .eql .i64 (.n 31) (.c 0),
  .ite (.n 35) (.c 0) (.c 1),
  .ite (.n 35) (.n 34) (.n 31),
  .app 2 0 [.n 29, .n 30, .n 32, .n 33],
  .app 2 1 [.n 29, .n 30, .n 32, .n 33],
  .app 2 2 [.n 29, .n 30, .n 32, .n 33],
  .bin .eql .i64 (.n 37) (.c 0),
  .ite (.n 41) (.c 0) (.c 1),
  .ite (.n 41) (.n 40) (.n 37),
  .app 0 0 [.n 4, .n 5, .n 6, .n 7],
  .app 0 1 [.n 4, .n 5, .n 6, .n 7],
  .app 0 2 [.n 4, .n 5, .n 6, .n 7],
  .bin .eql .i64 (.n 43) (.c 0),
  .ite (.n 47) (.c 0) (.c 1),
  .ite (.n 47) (.n 46) (.n 43),
  .app 0 0 [.n 0, .n 1, .n 10, .n 11],
  .app 0 1 [.n 0, .n 1, .n 10, .n 11],
  .app 0 2 [.n 0, .n 1, .n 10, .n 11],
  .bin .eql .i64 (.n 49) (.c 0),
  .ite (.n 53) (.c 0) (.c 1),
  .ite (.n 53) (.n 52) (.n 49),
  .app 2 0 [.n 44, .n 45, .n 50, .n 51],
  .app 2 1 [.n 44, .n 45, .n 50, .n 51],
  .app 2 2 [.n 44, .n 45, .n 50, .n 51],
  .bin .eql .i64 (.n 55) (.c 0),
  .ite (.n 59) (.c 0) (.c 1),
  .ite (.n 59) (.n 58) (.n 55),
  .app 0 0 [.n 0, .n 1, .n 8, .n 9],
  .app 0 1 [.n 0, .n 1, .n 8, .n 9],
  .app 0 2 [.n 0, .n 1, .n 8, .n 9],
  .bin .eql .i64 (.n 61) (.c 0),
  .ite (.n 65) (.c 0) (.c 1),
  .ite (.n 65) (.n 64) (.n 61),
  .app 0 0 [.n 2, .n 3, .n 6, .n 7],
  .app 0 1 [.n 2, .n 3, .n 6, .n 7],
  .app 0 2 [.n 2, .n 3, .n 6, .n 7],
  .bin .eql .i64 (.n 67) (.c 0),
  .ite (.n 71) (.c 0) (.c 1),
  .ite (.n 71) (.n 70) (.n 67),
  .app 2 0 [.n 62, .n 63, .n 68, .n 69],
  .app 2 1 [.n 62, .n 63, .n 68, .n 69],
  .app 2 2 [.n 62, .n 63, .n 68, .n 69],
  .bin .eql .i64 (.n 73) (.c 0),
  .ite (.n 77) (.c 0) (.c 1),
  .ite (.n 77) (.n 76) (.n 73),
  .app 3 0 [.n 38, .n 39],
  .app 3 1 [.n 38, .n 39],
  .app 3 2 [.n 38, .n 39],
  .bin .eql .i64 (.n 79) (.c 0),
  .ite (.n 83) (.c 0) (.c 1),
  .ite (.n 83) (.n 82) (.n 79),
  .app 3 0 [.n 56, .n 57],
  .app 3 1 [.n 56, .n 57],
  .app 3 2 [.n 56, .n 57],
  .bin .eql .i64 (.n 85) (.c 0),
  .ite (.n 89) (.c 0) (.c 1),
  .ite (.n 89) (.n 88) (.n 85),
  .app 1 0 [.n 80, .n 81, .n 86, .n 87],
  .app 1 1 [.n 80, .n 81, .n 86, .n 87],
  .app 1 2 [.n 80, .n 81, .n 86, .n 87],
  .bin .eql .i64 (.n 91) (.c 0),
  .ite (.n 95) (.c 0) (.c 1),
  .ite (.n 95) (.n 94) (.n 91),
  .app 3 0 [.n 74, .n 75],
  .app 3 1 [.n 74, .n 75],
  .app 3 2 [.n 74, .n 75],
  .bin .eql .i64 (.n 97) (.c 0),
  .ite (.n 101) (.c 0) (.c 1),
  .ite (.n 101) (.n 100) (.n 97),
  .app 1 0 [.n 92, .n 93, .n 98, .n 99],
  .app 1 1 [.n 92, .n 93, .n 98, .n 99],
  .app 1 2 [.n 92, .n 93, .n 98, .n 99],
  .bin .eql .i64 (.n 103) (.c 0),
  .ite (.n 107) (.c 0) (.c 1),
  .ite (.n 107) (.n 106) (.n 103),
  .app 4 0 [.n 104, .n 105],
  .app 4 1 [.n 104, .n 105],
  .app 4 2 [.n 104, .n 105],
  .bin .eql .i64 (.n 109) (.c 0),
  .ite (.n 113) (.c 0) (.c 1),
  .ite (.n 113) (.n 112) (.n 109),
  .app 0 0 [.n 0, .n 1, .n 6, .n 7],
  .app 0 1 [.n 0, .n 1, .n 6, .n 7],
  .app 0 2 [.n 0, .n 1, .n 6, .n 7],
  .bin .eql .i64 (.n 115) (.c 0),
  .ite (.n 119) (.c 0) (.c 1),
  .ite (.n 119) (.n 118) (.n 115),
  .app 0 0 [.n 2, .n 3, .n 8, .n 9],
  .app 0 1 [.n 2, .n 3, .n 8, .n 9],
  .app 0 2 [.n 2, .n 3, .n 8, .n 9],
  .bin .eql .i64 (.n 121) (.c 0),
  .ite (.n 125) (.c 0) (.c 1),
  .ite (.n 125) (.n 124) (.n 121),
  .app 1 0 [.n 116, .n 117, .n 122, .n 123],
  .app 1 1 [.n 116, .n 117, .n 122, .n 123],
  .app 1 2 [.n 116, .n 117, .n 122, .n 123],
  .bin .eql .i64 (.n 127) (.c 0),
  .ite (.n 131) (.c 0) (.c 1),
  .ite (.n 131) (.n 130) (.n 127),
  .app 0 0 [.n 4, .n 5, .n 10, .n 11],
  .app 0 1 [.n 4, .n 5, .n 10, .n 11],
  .app 0 2 [.n 4, .n 5, .n 10, .n 11],
  .bin .eql .i64 (.n 133) (.c 0),
  .ite (.n 137) (.c 0) (.c 1),
  .ite (.n 137) (.n 136) (.n 133),
  .app 1 0 [.n 128, .n 129, .n 134, .n 135],
  .app 1 1 [.n 128, .n 129, .n 134, .n 135],
  .app 1 2 [.n 128, .n 129, .n 134, .n 135],
  .bin .eql .i64 (.n 139) (.c 0),
  .ite (.n 143) (.c 0) (.c 1),
  .ite (.n 143) (.n 142) (.n 139),
  .bin .neq .i64 (.n 145) (.c 0),
  .ite (.n 146) (.c 0) (.c 1),
  .app 7 0 [.n 110, .n 111, .n 140, .n 141],
  .app 7 1 [.n 110, .n 111, .n 140, .n 141],
  .app 7 2 [.n 110, .n 111, .n 140, .n 141],
  .bin .neq .i64 (.n 150) (.c 0),
  .bin .sub .i64 (.n 149) (.n 148),
  .bin .geq .i64 (.n 152) (.c 21600000),
  .ite (.n 153) (.c 0) (.c 1),
  .ite (.n 151) (.c 0) (.c 1),
  .ite (.n 155) (.n 154) (.c 0),
  .ite (.n 155) (.n 153) (.c 0),
  .ite (.n 151) (.c 1) (.n 157),
  .ite (.n 151) (.n 150) (.c 24),
  .ite (.n 158) (.c 1) (.n 156),
  .ite (.n 158) (.n 159) (.c 0),
  .ite (.n 158) (.c 0) (.n 148),
  .ite (.n 158) (.c 0) (.n 149),
  .ite (.n 147) (.n 160) (.c 0),
  .ite (.n 146) (.c 1) (.n 164),
  .ite (.n 146) (.n 145) (.n 161),
  .ite (.n 146) (.c 0) (.n 162),
  .ite (.n 146) (.c 0) (.n 163),
  .ite (.n 28) (.n 165) (.c 0),
  .ite (.n 27) (.c 1) (.n 169),
  .ite (.n 27) (.c 1) (.n 166),
  .ite (.n 27) (.c 0) (.n 167),
  .ite (.n 27) (.c 0) (.n 168),
  .ite (.n 20) (.c 0) (.c 1),
  .app 3 0 [.n 0, .n 1],
  .app 3 1 [.n 0, .n 1],
  .app 3 2 [.n 0, .n 1],
  .app 3 0 [.n 2, .n 3],
  .app 3 1 [.n 2, .n 3],
  .app 3 2 [.n 2, .n 3],
  .bin .eql .i64 (.n 177) (.c 0),
  .ite (.n 181) (.c 0) (.c 1),
  .ite (.n 181) (.n 180) (.n 177),
  .app 1 0 [.n 175, .n 176, .n 178, .n 179],
  .app 1 1 [.n 175, .n 176, .n 178, .n 179],
  .app 1 2 [.n 175, .n 176, .n 178, .n 179],
  .bin .eql .i64 (.n 183) (.c 0),
  .ite (.n 187) (.c 0) (.c 1),
  .ite (.n 187) (.n 186) (.n 183),
  .app 4 0 [.n 184, .n 185],
  .app 4 1 [.n 184, .n 185],
  .app 4 2 [.n 184, .n 185],
  .bin .eql .i64 (.n 189) (.c 0),
  .ite (.n 193) (.c 0) (.c 1),
  .ite (.n 193) (.n 192) (.n 189),
  .bin .neq .i64 (.n 195) (.c 0),
  .ite (.n 196) (.c 0) (.c 1),
  .app 7 0 [.n 4, .n 5, .n 190, .n 191],
  .app 7 1 [.n 4, .n 5, .n 190, .n 191],
  .app 7 2 [.n 4, .n 5, .n 190, .n 191],
  .app 7 0 [.n 2, .n 3, .n 0, .n 1],
  .app 7 1 [.n 2, .n 3, .n 0, .n 1],
  .app 7 2 [.n 2, .n 3, .n 0, .n 1],
  .bin .neq .i64 (.n 200) (.c 0),
  .bin .neq .i64 (.n 203) (.c 0),
  .ite (.n 204) (.c 1) (.n 205),
  .mx (.n 200) (.n 203),
  .ite (.n 206) (.c 0) (.c 1),
  .bin .sub .i64 (.n 199) (.n 198),
  .bin .geq .i64 (.n 209) (.c 21600000),
  .ite (.n 210) (.c 0) (.c 1),
  .bin .geq .i64 (.n 198) (.c 10800000),
  .bin .sub .i64 (.n 198) (.c 21600000),
  .bin .sub .i64 (.n 199) (.c 21600000),
  .ite (.n 212) (.c 0) (.c 1),
  .ite (.n 212) (.n 213) (.n 198),
  .ite (.n 212) (.n 214) (.n 199),
  .mx (.n 216) (.c (-5400000)),
  .mn (.n 217) (.c 5400000),
  .bin .sub .i64 (.n 202) (.n 201),
  .bin .lss .i64 (.n 220) (.c 21600000),
  .bin .rem .i64 (.n 201) (.c 21600000),
  .bin .lss .i64 (.n 222) (.c 0),
  .bin .add .i64 (.n 222) (.c 21600000),
  .ite (.n 223) (.c 0) (.c 1),
  .ite (.n 223) (.n 224) (.n 222),
  .bin .geq .i64 (.n 226) (.c 10800000),
  .bin .sub .i64 (.n 226) (.c 21600000),
  .ite (.n 227) (.c 0) (.c 1),
  .ite (.n 227) (.n 228) (.n 226),
  .bin .add .i64 (.n 230) (.n 220),
  .ite (.n 221) (.c 0) (.c 1),
  .ite (.n 221) (.n 230) (.c (-10800000)),
  .ite (.n 221) (.n 231) (.c 10800000),
  .bin .leq .i64 (.n 218) (.n 219),
  .bin .geq .i64 (.n 218) (.c (-5400000)),
  .ite (.n 235) (.n 236) (.c 0),
  .bin .leq .i64 (.n 219) (.c 5400000),
  .ite (.n 237) (.n 238) (.c 0),
  .bin .eql .i64 (.n 233) (.c (-10800000)),
  .bin .eql .i64 (.n 234) (.c 10800000),
  .ite (.n 240) (.n 241) (.c 0),
  .bin .geq .i64 (.n 233) (.c (-10800000)),
  .bin .lss .i64 (.n 233) (.c 10800000),
  .ite (.n 243) (.n 244) (.c 0),
  .bin .leq .i64 (.n 233) (.n 234),
  .ite (.n 245) (.n 246) (.c 0),
  .bin .sub .i64 (.n 234) (.n 233),
  .bin .lss .i64 (.n 248) (.c 21600000),
  .ite (.n 247) (.n 249) (.c 0),
  .ite (.n 242) (.c 1) (.n 250),
  .ite (.n 239) (.n 251) (.c 0),
  .ite (.n 252) (.c 0) (.c 1),
  .ite (.n 253) (.c 21) (.c 0),
  .ite (.n 253) (.c 0) (.n 218),
  .ite (.n 253) (.c 0) (.n 219),
  .ite (.n 253) (.c 0) (.n 233),
  .ite (.n 253) (.c 0) (.n 234),
  .ite (.n 210) (.c 21) (.n 254),
  .ite (.n 210) (.n 198) (.n 216),
  .ite (.n 210) (.n 199) (.n 217),
  .ite (.n 210) (.c 0) (.n 255),
  .ite (.n 210) (.c 0) (.n 256),
  .ite (.n 210) (.c 0) (.n 257),
  .ite (.n 210) (.c 0) (.n 258),
  .ite (.n 206) (.n 207) (.n 259),
  .ite (.n 206) (.n 198) (.n 260),
  .ite (.n 206) (.n 199) (.n 261),
  .ite (.n 206) (.c 0) (.n 262),
  .ite (.n 206) (.c 0) (.n 263),
  .ite (.n 206) (.c 0) (.n 264),
  .ite (.n 206) (.c 0) (.n 265),
  .ite (.n 196) (.n 195) (.n 266),
  .ite (.n 196) (.c 0) (.n 269),
  .ite (.n 196) (.c 0) (.n 270),
  .ite (.n 196) (.c 0) (.n 271),
  .ite (.n 196) (.c 0) (.n 272),
  .ite (.n 20) (.c 1) (.n 273),
  .ite (.n 20) (.c 0) (.n 274),
  .ite (.n 20) (.c 0) (.n 275),
  .ite (.n 20) (.c 0) (.n 276),
  .ite (.n 20) (.c 0) (.n 277),
  .bin .eql .i64 (.n 172) (.c 0),
  .bin .eql .i64 (.n 173) (.c 0),
  .ite (.n 283) (.n 284) (.c 0),
  .bin .eql .i64 (.n 171) (.c 1),
  .ite (.n 285) (.n 286) (.c 0),
  .bin .eql .i64 (.n 279) (.c 0),
  .bin .eql .i64 (.n 280) (.c 0),
  .bin .eql .i64 (.n 281) (.c 0),
  .bin .eql .i64 (.n 282) (.c 0),
  .ite (.n 290) (.n 291) (.c 0),
  .ite (.n 289) (.n 292) (.c 0),
  .ite (.n 288) (.n 293) (.c 0),
  .ite (.n 287) (.n 294) (.c 0),
  .bin .eql .i64 (.n 278) (.c 1),
  .ite (.n 295) (.n 296) (.c 0),
  .bin .neq .i64 (.n 177) (.c 0),
  .ite (.n 298) (.c 0) (.c 1),
  .ite (.n 298) (.c 0) (.n 175),
  .ite (.n 298) (.c 0) (.n 176),
  .bin .neq .i64 (.n 180) (.c 0),
  .ite (.n 302) (.c 0) (.c 1),
  .ite (.n 302) (.c 0) (.n 178),
  .ite (.n 302) (.c 0) (.n 179),
  .app 1 0 [.n 300, .n 301, .n 304, .n 305],
  .app 1 1 [.n 300, .n 301, .n 304, .n 305],
  .app 1 2 [.n 300, .n 301, .n 304, .n 305],
  .ite (.n 187) (.n 308) (.n 183),
  .bin .neq .i64 (.n 308) (.c 0),
  .ite (.n 310) (.c 0) (.c 1),
  .ite (.n 310) (.c 0) (.n 306),
  .ite (.n 310) (.c 0) (.n 307),
  .app 4 0 [.n 312, .n 313],
  .app 4 1 [.n 312, .n 313],
  .app 4 2 [.n 312, .n 313],
  .bin .eql .i64 (.n 309) (.c 0),
  .ite (.n 317) (.c 0) (.c 1),
  .ite (.n 317) (.n 316) (.n 309),
  .bin .neq .i64 (.n 316) (.c 0),
  .ite (.n 320) (.c 0) (.c 1),
  .ite (.n 320) (.c 0) (.n 314),
  .ite (.n 320) (.c 0) (.n 315),
  .bin .neq .i64 (.n 319) (.c 0),
  .ite (.n 324) (.c 0) (.c 1),
  .app 7 0 [.n 4, .n 5, .n 322, .n 323],
  .app 7 1 [.n 4, .n 5, .n 322, .n 323],
  .app 7 2 [.n 4, .n 5, .n 322, .n 323],
  .bin .sub .i64 (.n 327) (.n 326),
  .bin .geq .i64 (.n 329) (.c 21600000),
  .ite (.n 330) (.c 0) (.c 1),
  .bin .geq .i64 (.n 326) (.c 10800000),
  .bin .sub .i64 (.n 326) (.c 21600000),
  .bin .sub .i64 (.n 327) (.c 21600000),
  .ite (.n 332) (.c 0) (.c 1),
  .ite (.n 332) (.n 333) (.n 326),
  .ite (.n 332) (.n 334) (.n 327),
  .bin .lss .i64 (.n 336) (.c (-5400000)),
  .ite (.n 338) (.c 0) (.c 1),
  .ite (.n 338) (.c (-5400000)) (.n 336),
  .bin .gtr .i64 (.n 337) (.c 5400000),
  .ite (.n 341) (.c 0) (.c 1),
  .ite (.n 341) (.c 5400000) (.n 337),
  .bin .geq .i64 (.n 220) (.c 21600000),
  .ite (.n 344) (.c 0) (.c 1),
  .bin .add .i64 (.n 230) (.n 202),
  .bin .sub .i64 (.n 346) (.n 201),
  .ite (.n 344) (.c (-10800000)) (.n 230),
  .ite (.n 344) (.c 10800000) (.n 347),
  .ite (.n 330) (.c 21) (.c 0),
  .ite (.n 330) (.c 0) (.n 340),
  .ite (.n 330) (.c 0) (.n 343),
  .ite (.n 330) (.c 0) (.n 348),
  .ite (.n 330) (.c 0) (.n 349),
  .ite (.n 324) (.n 319) (.n 350),
  .ite (.n 324) (.c 0) (.n 351),
  .ite (.n 324) (.c 0) (.n 352),
  .ite (.n 324) (.c 0) (.n 353),
  .ite (.n 324) (.c 0) (.n 354),
  .bin .eql .i64 (.n 279) (.n 356),
  .bin .eql .i64 (.n 280) (.n 357),
  .bin .eql .i64 (.n 281) (.n 358),
  .bin .eql .i64 (.n 282) (.n 359),
  .ite (.n 362) (.n 363) (.c 0),
  .ite (.n 361) (.n 364) (.c 0),
  .ite (.n 360) (.n 365) (.c 0),
  .ite (.n 366) (.c 0) (.c 1),
  .bin .neq .i64 (.n 278) (.n 355),
  .ite (.n 367) (.c 1) (.n 368),
  .ite (.n 369) (.c 0) (.c 1),
  .ite (.n 26) (.c 0) (.c 1),
  .bin .neq .i64 (.n 31) (.c 0),
  .ite (.n 372) (.c 0) (.c 1),
  .ite (.n 372) (.c 0) (.n 29),
  .ite (.n 372) (.c 0) (.n 30),
  .bin .neq .i64 (.n 34) (.c 0),
  .ite (.n 376) (.c 0) (.c 1),
  .ite (.n 376) (.c 0) (.n 32),
  .ite (.n 376) (.c 0) (.n 33),
  .app 2 0 [.n 374, .n 375, .n 378, .n 379],
  .app 2 1 [.n 374, .n 375, .n 378, .n 379],
  .app 2 2 [.n 374, .n 375, .n 378, .n 379],
  .ite (.n 41) (.n 382) (.n 37),
  .bin .neq .i64 (.n 382) (.c 0),
  .ite (.n 384) (.c 0) (.c 1),
  .ite (.n 384) (.c 0) (.n 380),
  .ite (.n 384) (.c 0) (.n 381),
  .bin .eql .i64 (.n 383) (.c 0),
  .ite (.n 388) (.c 0) (.c 1),
  .ite (.n 388) (.n 46) (.n 383),
  .bin .neq .i64 (.n 46) (.c 0),
  .ite (.n 391) (.c 0) (.c 1),
  .ite (.n 391) (.c 0) (.n 44),
  .ite (.n 391) (.c 0) (.n 45),
  .bin .eql .i64 (.n 390) (.c 0),
  .ite (.n 395) (.c 0) (.c 1),
  .ite (.n 395) (.n 52) (.n 390),
  .bin .neq .i64 (.n 52) (.c 0),
  .ite (.n 398) (.c 0) (.c 1),
  .ite (.n 398) (.c 0) (.n 50),
  .ite (.n 398) (.c 0) (.n 51),
  .app 2 0 [.n 393, .n 394, .n 400, .n 401],
  .app 2 1 [.n 393, .n 394, .n 400, .n 401],
  .app 2 2 [.n 393, .n 394, .n 400, .n 401],
  .bin .eql .i64 (.n 397) (.c 0),
  .ite (.n 405) (.c 0) (.c 1),
  .ite (.n 405) (.n 404) (.n 397),
  .bin .neq .i64 (.n 404) (.c 0),
  .ite (.n 408) (.c 0) (.c 1),
  .ite (.n 408) (.c 0) (.n 402),
  .ite (.n 408) (.c 0) (.n 403),
  .bin .eql .i64 (.n 407) (.c 0),
  .ite (.n 412) (.c 0) (.c 1),
  .ite (.n 412) (.n 64) (.n 407),
  .bin .neq .i64 (.n 64) (.c 0),
  .ite (.n 415) (.c 0) (.c 1),
  .ite (.n 415) (.c 0) (.n 62),
  .ite (.n 415) (.c 0) (.n 63),
  .bin .eql .i64 (.n 414) (.c 0),
  .ite (.n 419) (.c 0) (.c 1),
  .ite (.n 419) (.n 70) (.n 414),
  .bin .neq .i64 (.n 70) (.c 0),
  .ite (.n 422) (.c 0) (.c 1),
  .ite (.n 422) (.c 0) (.n 68),
  .ite (.n 422) (.c 0) (.n 69),
  .app 2 0 [.n 417, .n 418, .n 424, .n 425],
  .app 2 1 [.n 417, .n 418, .n 424, .n 425],
  .app 2 2 [.n 417, .n 418, .n 424, .n 425],
  .bin .eql .i64 (.n 421) (.c 0),
  .ite (.n 429) (.c 0) (.c 1),
  .ite (.n 429) (.n 428) (.n 421),
  .bin .neq .i64 (.n 428) (.c 0),
  .ite (.n 432) (.c 0) (.c 1),
  .ite (.n 432) (.c 0) (.n 426),
  .ite (.n 432) (.c 0) (.n 427),
  .bin .neq .i64 (.n 431) (.c 0),
  .ite (.n 436) (.c 0) (.c 1),
  .ite (.n 436) (.n 431) (.c 0),
  .ite (.n 436) (.c 0) (.n 386),
  .ite (.n 436) (.c 0) (.n 387),
  .ite (.n 436) (.c 0) (.n 410),
  .ite (.n 436) (.c 0) (.n 411),
  .ite (.n 436) (.c 0) (.n 434),
  .ite (.n 436) (.c 0) (.n 435),
  .bin .neq .i64 (.n 438) (.c 0),
  .ite (.n 445) (.c 0) (.c 1),
  .app 3 0 [.n 439, .n 440],
  .app 3 1 [.n 439, .n 440],
  .app 3 2 [.n 439, .n 440],
  .bin .neq .i64 (.n 449) (.c 0),
  .ite (.n 450) (.c 0) (.c 1),
  .ite (.n 450) (.c 0) (.n 447),
  .ite (.n 450) (.c 0) (.n 448),
  .app 3 0 [.n 441, .n 442],
  .app 3 1 [.n 441, .n 442],
  .app 3 2 [.n 441, .n 442],
  .bin .eql .i64 (.n 449) (.c 0),
  .ite (.n 457) (.c 0) (.c 1),
  .ite (.n 457) (.n 456) (.n 449),
  .bin .neq .i64 (.n 456) (.c 0),
  .ite (.n 460) (.c 0) (.c 1),
  .ite (.n 460) (.c 0) (.n 454),
  .ite (.n 460) (.c 0) (.n 455),
  .app 1 0 [.n 452, .n 453, .n 462, .n 463],
  .app 1 1 [.n 452, .n 453, .n 462, .n 463],
  .app 1 2 [.n 452, .n 453, .n 462, .n 463],
  .bin .eql .i64 (.n 459) (.c 0),
  .ite (.n 467) (.c 0) (.c 1),
  .ite (.n 467) (.n 466) (.n 459),
  .bin .neq .i64 (.n 466) (.c 0),
  .ite (.n 470) (.c 0) (.c 1),
  .ite (.n 470) (.c 0) (.n 464),
  .ite (.n 470) (.c 0) (.n 465),
  .app 3 0 [.n 443, .n 444],
  .app 3 1 [.n 443, .n 444],
  .app 3 2 [.n 443, .n 444],
  .bin .eql .i64 (.n 469) (.c 0),
  .ite (.n 477) (.c 0) (.c 1),
  .ite (.n 477) (.n 476) (.n 469),
  .bin .neq .i64 (.n 476) (.c 0),
  .ite (.n 480) (.c 0) (.c 1),
  .ite (.n 480) (.c 0) (.n 474),
  .ite (.n 480) (.c 0) (.n 475),
  .app 1 0 [.n 472, .n 473, .n 482, .n 483],
  .app 1 1 [.n 472, .n 473, .n 482, .n 483],
  .app 1 2 [.n 472, .n 473, .n 482, .n 483],
  .bin .eql .i64 (.n 479) (.c 0),
  .ite (.n 487) (.c 0) (.c 1),
  .ite (.n 487) (.n 486) (.n 479),
  .bin .neq .i64 (.n 486) (.c 0),
  .ite (.n 490) (.c 0) (.c 1),
  .ite (.n 490) (.c 0) (.n 484),
  .ite (.n 490) (.c 0) (.n 485),
  .app 4 0 [.n 492, .n 493],
  .app 4 1 [.n 492, .n 493],
  .app 4 2 [.n 492, .n 493],
  .bin .eql .i64 (.n 489) (.c 0),
  .ite (.n 497) (.c 0) (.c 1),
  .ite (.n 497) (.n 496) (.n 489),
  .bin .neq .i64 (.n 496) (.c 0),
  .ite (.n 500) (.c 0) (.c 1),
  .ite (.n 500) (.c 0) (.n 494),
  .ite (.n 500) (.c 0) (.n 495),
  .bin .neq .i64 (.n 118) (.c 0),
  .ite (.n 504) (.c 0) (.c 1),
  .ite (.n 504) (.c 0) (.n 116),
  .ite (.n 504) (.c 0) (.n 117),
  .bin .eql .i64 (.n 118) (.c 0),
  .ite (.n 508) (.c 0) (.c 1),
  .ite (.n 508) (.n 124) (.n 118),
  .bin .neq .i64 (.n 124) (.c 0),
  .ite (.n 511) (.c 0) (.c 1),
  .ite (.n 511) (.c 0) (.n 122),
  .ite (.n 511) (.c 0) (.n 123),
  .app 1 0 [.n 506, .n 507, .n 513, .n 514],
  .app 1 1 [.n 506, .n 507, .n 513, .n 514],
  .app 1 2 [.n 506, .n 507, .n 513, .n 514],
  .bin .eql .i64 (.n 510) (.c 0),
  .ite (.n 518) (.c 0) (.c 1),
  .ite (.n 518) (.n 517) (.n 510),
  .bin .neq .i64 (.n 517) (.c 0),
  .ite (.n 521) (.c 0) (.c 1),
  .ite (.n 521) (.c 0) (.n 515),
  .ite (.n 521) (.c 0) (.n 516),
  .bin .eql .i64 (.n 520) (.c 0),
  .ite (.n 525) (.c 0) (.c 1),
  .ite (.n 525) (.n 136) (.n 520),
  .bin .neq .i64 (.n 136) (.c 0),
  .ite (.n 528) (.c 0) (.c 1),
  .ite (.n 528) (.c 0) (.n 134),
  .ite (.n 528) (.c 0) (.n 135),
  .app 1 0 [.n 523, .n 524, .n 530, .n 531],
  .app 1 1 [.n 523, .n 524, .n 530, .n 531],
  .app 1 2 [.n 523, .n 524, .n 530, .n 531],
  .bin .eql .i64 (.n 527) (.c 0),
  .ite (.n 535) (.c 0) (.c 1),
  .ite (.n 535) (.n 534) (.n 527),
  .bin .neq .i64 (.n 534) (.c 0),
  .ite (.n 538) (.c 0) (.c 1),
  .ite (.n 538) (.c 0) (.n 532),
  .ite (.n 538) (.c 0) (.n 533),
  .bin .neq .i64 (.n 537) (.c 0),
  .ite (.n 542) (.c 0) (.c 1),
  .ite (.n 542) (.n 537) (.c 0),
  .ite (.n 542) (.c 0) (.n 540),
  .ite (.n 542) (.c 0) (.n 541),
  .bin .neq .i64 (.n 499) (.c 0),
  .ite (.n 547) (.c 0) (.c 1),
  .bin .neq .i64 (.n 544) (.c 0),
  .ite (.n 549) (.c 0) (.c 1),
  .app 7 0 [.n 502, .n 503, .n 545, .n 546],
  .app 7 1 [.n 502, .n 503, .n 545, .n 546],
  .app 7 2 [.n 502, .n 503, .n 545, .n 546],
  .bin .sub .i64 (.n 552) (.n 551),
  .bin .geq .i64 (.n 554) (.c 21600000),
  .ite (.n 555) (.c 0) (.c 1),
  .ite (.n 555) (.c 24) (.c 0),
  .ite (.n 555) (.c 0) (.n 551),
  .ite (.n 555) (.c 0) (.n 552),
  .ite (.n 549) (.n 544) (.n 557),
  .ite (.n 549) (.c 0) (.n 558),
  .ite (.n 549) (.c 0) (.n 559),
  .ite (.n 547) (.n 499) (.n 560),
  .ite (.n 547) (.c 0) (.n 561),
  .ite (.n 547) (.c 0) (.n 562),
  .ite (.n 445) (.n 438) (.n 563),
  .ite (.n 445) (.n 438) (.n 544),
  .ite (.n 445) (.c 0) (.n 564),
  .ite (.n 445) (.c 0) (.n 565),
  .bin .eql .i64 (.n 172) (.n 568),
  .bin .eql .i64 (.n 173) (.n 569),
  .ite (.n 570) (.n 571) (.c 0),
  .bin .eql .i64 (.n 171) (.n 566),
  .ite (.n 572) (.n 573) (.c 0),
  .ite (.n 26) (.n 287) (.n 574),
  .ite (.n 369) (.c 0) (.n 575),
  .ite (.n 20) (.n 297) (.n 576),
  .ite (.n 13) (.c 0) (.n 577)]
def vc_ang : List Vc := [
  ⟨[], .pre 20 []⟩,
  ⟨[(.n 14, true)], .pre 8 [.n 0, .n 1]⟩,
  ⟨[(.n 14, true), (.n 15, true)], .pre 8 [.n 2, .n 3]⟩,
  ⟨[(.n 14, true), (.n 17, true)], .pre 8 [.n 4, .n 5]⟩,
  ⟨[(.n 14, true), (.n 20, false)], .pre 8 [.n 6, .n 7]⟩,
  ⟨[(.n 14, true), (.n 20, false), (.n 21, true)], .pre 8 [.n 8, .n 9]⟩,
  ⟨[(.n 14, true), (.n 20, false), (.n 23, true)], .pre 8 [.n 10, .n 11]⟩,
  ⟨[(.n 28, true), (.n 14, true)], .pre 0 [.n 2, .n 3, .n 10, .n 11]⟩,
  ⟨[(.n 28, true), (.n 14, true)], .pre 0 [.n 4, .n 5, .n 8, .n 9]⟩,
  ⟨[(.n 28, true), (.n 14, true)], .pre 2 [.n 29, .n 30, .n 32, .n 33]⟩,
  ⟨[(.n 28, true), (.n 14, true)], .pre 0 [.n 4, .n 5, .n 6, .n 7]⟩,
  ⟨[(.n 28, true), (.n 14, true)], .pre 0 [.n 0, .n 1, .n 10, .n 11]⟩,
  ⟨[(.n 28, true), (.n 14, true)], .pre 2 [.n 44, .n 45, .n 50, .n 51]⟩,
  ⟨[(.n 28, true), (.n 14, true)], .pre 0 [.n 0, .n 1, .n 8, .n 9]⟩,
  ⟨[(.n 28, true), (.n 14, true)], .pre 0 [.n 2, .n 3, .n 6, .n 7]⟩,
  ⟨[(.n 28, true), (.n 14, true)], .pre 2 [.n 62, .n 63, .n 68, .n 69]⟩,
  ⟨[(.n 28, true), (.n 14, true)], .pre 3 [.n 38, .n 39]⟩,
  ⟨[(.n 28, true), (.n 14, true)], .pre 3 [.n 56, .n 57]⟩,
  ⟨[(.n 28, true), (.n 14, true)], .pre 1 [.n 80, .n 81, .n 86, .n 87]⟩,
  ⟨[(.n 28, true), (.n 14, true)], .pre 3 [.n 74, .n 75]⟩,
  ⟨[(.n 28, true), (.n 14, true)], .pre 1 [.n 92, .n 93, .n 98, .n 99]⟩,
  ⟨[(.n 28, true), (.n 14, true)], .pre 4 [.n 104, .n 105]⟩,
  ⟨[(.n 28, true), (.n 14, true)], .pre 0 [.n 0, .n 1, .n 6, .n 7]⟩,
  ⟨[(.n 28, true), (.n 14, true)], .pre 0 [.n 2, .n 3, .n 8, .n 9]⟩,
  ⟨[(.n 28, true), (.n 14, true)], .pre 1 [.n 116, .n 117, .n 122, .n 123]⟩,
  ⟨[(.n 28, true), (.n 14, true)], .pre 0 [.n 4, .n 5, .n 10, .n 11]⟩,
  ⟨[(.n 28, true), (.n 14, true)], .pre 1 [.n 128, .n 129, .n 134, .n 135]⟩,
  ⟨[(.n 147, true), (.n 28, true), (.n 14, true)], .pre 7 [.n 110, .n 111, .n 140, .n 141]⟩,
  ⟨[(.n 14, true)], .pre 8 [.n 0, .n 1]⟩,
  ⟨[(.n 14, true), (.n 15, true)], .pre 8 [.n 2, .n 3]⟩,
  ⟨[(.n 14, true), (.n 17, true)], .pre 8 [.n 4, .n 5]⟩,
  ⟨[(.n 174, true), (.n 14, true)], .pre 3 [.n 0, .n 1]⟩,
  ⟨[(.n 174, true), (.n 14, true)], .pre 3 [.n 2, .n 3]⟩,
  ⟨[(.n 174, true), (.n 14, true)], .pre 1 [.n 175, .n 176, .n 178, .n 179]⟩,
  ⟨[(.n 174, true), (.n 14, true)], .pre 4 [.n 184, .n 185]⟩,
  ⟨[(.n 197, true), (.n 174, true), (.n 14, true)], .pre 7 [.n 4, .n 5, .n 190, .n 191]⟩,
  ⟨[(.n 197, true), (.n 174, true), (.n 14, true)], .pre 7 [.n 2, .n 3, .n 0, .n 1]⟩,
  ⟨[(.n 14, true)], .pre 8 [.n 0, .n 1]⟩,
  ⟨[(.n 14, true), (.n 15, true)], .pre 8 [.n 2, .n 3]⟩,
  ⟨[(.n 14, true), (.n 17, true)], .pre 8 [.n 4, .n 5]⟩,
  ⟨[(.n 174, true), (.n 14, true)], .pre 3 [.n 0, .n 1]⟩,
  ⟨[(.n 174, true), (.n 14, true)], .pre 3 [.n 2, .n 3]⟩,
  ⟨[(.n 174, true), (.n 14, true)], .pre 1 [.n 300, .n 301, .n 304, .n 305]⟩,
  ⟨[(.n 174, true), (.n 14, true)], .pre 4 [.n 312, .n 313]⟩,
  ⟨[(.n 325, true), (.n 174, true), (.n 14, true)], .pre 7 [.n 4, .n 5, .n 322, .n 323]⟩,
  ⟨[(.n 331, true), (.n 325, true), (.n 174, true), (.n 14, true)], .pre 7 [.n 2, .n 3, .n 0, .n 1]⟩,
  ⟨[(.n 370, true), (.n 174, true), (.n 14, true)], .pre 8 [.n 6, .n 7]⟩,
  ⟨[(.n 370, true), (.n 174, true), (.n 14, true), (.n 21, true)], .pre 8 [.n 8, .n 9]⟩,
  ⟨[(.n 370, true), (.n 174, true), (.n 14, true), (.n 23, true)], .pre 8 [.n 10, .n 11]⟩,
  ⟨[(.n 371, true), (.n 370, true), (.n 174, true), (.n 14, true)], .pre 0 [.n 2, .n 3, .n 10, .n 11]⟩,
  ⟨[(.n 371, true), (.n 370, true), (.n 174, true), (.n 14, true)], .pre 0 [.n 4, .n 5, .n 8, .n 9]⟩,
  ⟨[(.n 371, true), (.n 370, true), (.n 174, true), (.n 14, true)], .pre 2 [.n 374, .n 375, .n 378, .n 379]⟩,
  ⟨[(.n 371, true), (.n 370, true), (.n 174, true), (.n 14, true)], .pre 0 [.n 4, .n 5, .n 6, .n 7]⟩,
  ⟨[(.n 371, true), (.n 370, true), (.n 174, true), (.n 14, true)], .pre 0 [.n 0, .n 1, .n 10, .n 11]⟩,
  ⟨[(.n 371, true), (.n 370, true), (.n 174, true), (.n 14, true)], .pre 2 [.n 393, .n 394, .n 400, .n 401]⟩,
  ⟨[(.n 371, true), (.n 370, true), (.n 174, true), (.n 14, true)], .pre 0 [.n 0, .n 1, .n 8, .n 9]⟩,
  ⟨[(.n 371, true), (.n 370, true), (.n 174, true), (.n 14, true)], .pre 0 [.n 2, .n 3, .n 6, .n 7]⟩,
  ⟨[(.n 371, true), (.n 370, true), (.n 174, true), (.n 14, true)], .pre 2 [.n 417, .n 418, .n 424, .n 425]⟩,
  ⟨[(.n 446, true), (.n 371, true), (.n 370, true), (.n 174, true), (.n 14, true)], .pre 3 [.n 439, .n 440]⟩,
  ⟨[(.n 446, true), (.n 371, true), (.n 370, true), (.n 174, true), (.n 14, true)], .pre 3 [.n 441, .n 442]⟩,
  ⟨[(.n 446, true), (.n 371, true), (.n 370, true), (.n 174, true), (.n 14, true)], .pre 1 [.n 452, .n 453, .n 462, .n 463]⟩,
  ⟨[(.n 446, true), (.n 371, true), (.n 370, true), (.n 174, true), (.n 14, true)], .pre 3 [.n 443, .n 444]⟩,
  ⟨[(.n 446, true), (.n 371, true), (.n 370, true), (.n 174, true), (.n 14, true)], .pre 1 [.n 472, .n 473, .n 482, .n 483]⟩,
  ⟨[(.n 446, true), (.n 371, true), (.n 370, true), (.n 174, true), (.n 14, true)], .pre 4 [.n 492, .n 493]⟩,
  ⟨[(.n 446, true), (.n 371, true), (.n 370, true), (.n 174, true), (.n 14, true)], .pre 0 [.n 0, .n 1, .n 6, .n 7]⟩,
  ⟨[(.n 446, true), (.n 371, true), (.n 370, true), (.n 174, true), (.n 14, true)], .pre 0 [.n 2, .n 3, .n 8, .n 9]⟩,
  ⟨[(.n 446, true), (.n 371, true), (.n 370, true), (.n 174, true), (.n 14, true)], .pre 1 [.n 506, .n 507, .n 513, .n 514]⟩,
  ⟨[(.n 446, true), (.n 371, true), (.n 370, true), (.n 174, true), (.n 14, true)], .pre 0 [.n 4, .n 5, .n 10, .n 11]⟩,
  ⟨[(.n 446, true), (.n 371, true), (.n 370, true), (.n 174, true), (.n 14, true)], .pre 1 [.n 523, .n 524, .n 530, .n 531]⟩,
  ⟨[(.n 550, true), (.n 548, true), (.n 446, true), (.n 371, true), (.n 370, true), (.n 174, true), (.n 14, true)], .pre 7 [.n 502, .n 503, .n 545, .n 546]⟩]
theorem wh_ang : whole Tryz.prog spAng 20 30 3 [(true, [some .i64, some .i64, some .i64, some .i64, some .i64, some .i64]), (true, [some .i64, some .i64, some .i64, some .i64, some .i64, some .i64])] = some (.p (.c (.bool (.n 578))), ⟨nd_ang.reverse, vc_ang.reverse⟩) := by kernel_rfl
theorem wf_ang : wfN nd_ang.reverse = true := by kernel_rfl
set_option maxRecDepth 100000 in
theorem ang_a0 {ar : List Int} {v : Nat → Int} (hs : SatN (cxB ar) v nd_ang.reverse) (P12 : v 12 = 1) (P19 : v 19 = 0) : v 578 = 1 :=
  norm_val (X := cxB ar) (v := v) (l := nd_ang) (extB_ok _) hs (k := 578) (r := .c 1) (ps := [(12, .c 1), (19, .c 0)]) (nz := []) (ps_cons P12 (ps_cons P19 ps_nil)) nz_nil (by kernel_rfl)
set_option maxRecDepth 100000 in
theorem ang_p1 {ar : List Int} {v : Nat → Int} (hs : SatN (cxB ar) v nd_ang.reverse) (P12 : v 12 = 1) (P19 : v 19 = 1) (h195 : v 195 ≠ 0) : v 369 = 0 :=
  norm_val (X := cxB ar) (v := v) (l := nd_ang) (extB_ok _) hs (k := 369) (r := .c 0) (ps := [(12, .c 1), (19, .c 1)]) (nz := [.n 195]) (ps_cons P12 (ps_cons P19 ps_nil)) (nz_cons h195 nz_nil) (by kernel_rfl)
set_option maxRecDepth 100000 in
theorem ang_p2 {ar : List Int} {v : Nat → Int} (hs : SatN (cxB ar) v nd_ang.reverse) (P12 : v 12 = 1) (P19 : v 19 = 1) (P195 : v 195 = 0) (P210 : v 210 = 1) : v 369 = 0 :=
  norm_val (X := cxB ar) (v := v) (l := nd_ang) (extB_ok _) hs (k := 369) (r := .c 0) (ps := [(12, .c 1), (19, .c 1), (195, .c 0), (210, .c 1)]) (nz := []) (ps_cons P12 (ps_cons P19 (ps_cons P195 (ps_cons P210 ps_nil)))) nz_nil (by kernel_rfl)
set_option maxRecDepth 100000 in
theorem ang_p3 {ar : List Int} {v : Nat → Int} (hs : SatN (cxB ar) v nd_ang.reverse) (P12 : v 12 = 1) (P19 : v 19 = 1) (P195 : v 195 = 0) (P210 : v 210 = 0) (P252 : v 252 = 1) (L347 : v 347 = v 231) : v 369 = 0 :=
  norm_val (X := cxB ar) (v := v) (l := nd_ang) (extB_ok _) hs (k := 369) (r := .c 0) (ps := [(12, .c 1), (19, .c 1), (195, .c 0), (210, .c 0), (252, .c 1), (347, .n 231)]) (nz := []) (ps_cons P12 (ps_cons P19 (ps_cons P195 (ps_cons P210 (ps_cons P252 (ps_cons L347 ps_nil)))))) nz_nil (by kernel_rfl)
set_option maxRecDepth 100000 in
theorem ang_b0 {ar : List Int} {v : Nat → Int} (hs : SatN (cxB ar) v nd_ang.reverse) (P12 : v 12 = 1) (P19 : v 19 = 1) (P369 : v 369 = 0) (P25 : v 25 = 0) : v 578 = 1 :=
  norm_val (X := cxB ar) (v := v) (l := nd_ang) (extB_ok _) hs (k := 578) (r := .c 1) (ps := [(12, .c 1), (19, .c 1), (369, .c 0), (25, .c 0)]) (nz := []) (ps_cons P12 (ps_cons P19 (ps_cons P369 (ps_cons P25 ps_nil)))) nz_nil (by kernel_rfl)
set_option maxRecDepth 100000 in
theorem ang_c1 {ar : List Int} {v : Nat → Int} (hs : SatN (cxB ar) v nd_ang.reverse) (P12 : v 12 = 1) (P19 : v 19 = 1) (P369 : v 369 = 0) (P25 : v 25 = 1) (h79 : v 79 ≠ 0) : v 578 = 1 :=
  norm_val (X := cxB ar) (v := v) (l := nd_ang) (extB_ok _) hs (k := 578) (r := .c 1) (ps := [(12, .c 1), (19, .c 1), (369, .c 0), (25, .c 1)]) (nz := [.n 79]) (ps_cons P12 (ps_cons P19 (ps_cons P369 (ps_cons P25 ps_nil)))) (nz_cons h79 nz_nil) (by kernel_rfl)
set_option maxRecDepth 100000 in
theorem ang_d1 {ar : List Int} {v : Nat → Int} (hs : SatN (cxB ar) v nd_ang.reverse) (P12 : v 12 = 1) (P19 : v 19 = 1) (P369 : v 369 = 0) (P25 : v 25 = 1) (P79 : v 79 = 0) (h115 : v 115 ≠ 0) : v 578 = 1 :=
  norm_val (X := cxB ar) (v := v) (l := nd_ang) (extB_ok _) hs (k := 578) (r := .c 1) (ps := [(12, .c 1), (19, .c 1), (369, .c 0), (25, .c 1), (79, .c 0)]) (nz := [.n 115]) (ps_cons P12 (ps_cons P19 (ps_cons P369 (ps_cons P25 (ps_cons P79 ps_nil))))) (nz_cons h115 nz_nil) (by kernel_rfl)
set_option maxRecDepth 100000 in
theorem ang_f1 {ar : List Int} {v : Nat → Int} (hs : SatN (cxB ar) v nd_ang.reverse) (P12 : v 12 = 1) (P19 : v 19 = 1) (P369 : v 369 = 0) (P25 : v 25 = 1) (P79 : v 79 = 0) (P115 : v 115 = 0) (h145 : v 145 ≠ 0) : v 578 = 1 :=
  norm_val (X := cxB ar) (v := v) (l := nd_ang) (extB_ok _) hs (k := 578) (r := .c 1) (ps := [(12, .c 1), (19, .c 1), (369, .c 0), (25, .c 1), (79, .c 0), (115, .c 0)]) (nz := [.n 145]) (ps_cons P12 (ps_cons P19 (ps_cons P369 (ps_cons P25 (ps_cons P79 (ps_cons P115 ps_nil)))))) (nz_cons h145 nz_nil) (by kernel_rfl)
set_option maxRecDepth 100000 in
theorem ang_f0 {ar : List Int} {v : Nat → Int} (hs : SatN (cxB ar) v nd_ang.reverse) (P12 : v 12 = 1) (P19 : v 19 = 1) (P369 : v 369 = 0) (P25 : v 25 = 1) (P79 : v 79 = 0) (P115 : v 115 = 0) (P145 : v 145 = 0) : v 578 = 1 :=
  norm_val (X := cxB ar) (v := v) (l := nd_ang) (extB_ok _) hs (k := 578) (r := .c 1) (ps := [(12, .c 1), (19, .c 1), (369, .c 0), (25, .c 1), (79, .c 0), (115, .c 0), (145, .c 0)]) (nz := []) (ps_cons P12 (ps_cons P19 (ps_cons P369 (ps_cons P25 (ps_cons P79 (ps_cons P115 (ps_cons P145 ps_nil))))))) nz_nil (by kernel_rfl)
set_option maxRecDepth 100000 in
theorem ang_lin {ar : List Int} {v : Nat → Int} (hs : SatN (cxB ar) v nd_ang.reverse) : v 347 = v 231 := by
  have e220 : v 220 = IntKind.i64.wrap (v 202 - v 201) := satF hs 220 rfl
  have e231 : v 231 = IntKind.i64.wrap (v 230 + v 220) := satF hs 231 rfl
  have e346 : v 346 = IntKind.i64.wrap (v 230 + v 202) := satF hs 346 rfl
  have e347 : v 347 = IntKind.i64.wrap (v 346 - v 201) := satF hs 347 rfl
  rw [IntKind.wrap_i64] at *
  omega
set_option maxRecDepth 100000 in
set_option maxHeartbeats 4000000 in
/-- the place that Place finds is valid -/
theorem ang_place {ar : List Int} {v : Nat → Int} (hs : SatN (cxB ar) v nd_ang.reverse) (Q1 : fxV (v 0) (v 1) = true) (Q2 : fxV (v 2) (v 3) = true) (Q3 : fxV (v 4) (v 5) = true) (P210 : v 210 = 0) : v 252 = 1 := by
  have e190 : v 190 = (semB 4 [v 184, v 185]).getD 0 0 := satF hs 190 rfl
  have e191 : v 191 = (semB 4 [v 184, v 185]).getD 1 0 := satF hs 191 rfl
  have e198 : v 198 = (semB 7 [v 4, v 5, v 190, v 191]).getD 0 0 := satF hs 198 rfl
  have e199 : v 199 = (semB 7 [v 4, v 5, v 190, v 191]).getD 1 0 := satF hs 199 rfl
  have e201 : v 201 = (semB 7 [v 2, v 3, v 0, v 1]).getD 0 0 := satF hs 201 rfl
  have e202 : v 202 = (semB 7 [v 2, v 3, v 0, v 1]).getD 1 0 := satF hs 202 rfl
  have e209 : v 209 = IntKind.i64.wrap (v 199 - v 198) := satF hs 209 rfl
  have e210 : v 210 = b2i (decide (v 209 ≥ (21600000 : Int))) := satF hs 210 rfl
  have e212 : v 212 = b2i (decide (v 198 ≥ (10800000 : Int))) := satF hs 212 rfl
  have e213 : v 213 = IntKind.i64.wrap (v 198 - (21600000 : Int)) := satF hs 213 rfl
  have e214 : v 214 = IntKind.i64.wrap (v 199 - (21600000 : Int)) := satF hs 214 rfl
  have e216 : v 216 = if v 212 ≠ 0 then v 213 else v 198 := satF hs 216 rfl
  have e217 : v 217 = if v 212 ≠ 0 then v 214 else v 199 := satF hs 217 rfl
  have e218 : v 218 = if (-5400000 : Int) > v 216 then (-5400000 : Int) else v 216 := satF hs 218 rfl
  have e219 : v 219 = if (5400000 : Int) < v 217 then (5400000 : Int) else v 217 := satF hs 219 rfl
  have e220 : v 220 = IntKind.i64.wrap (v 202 - v 201) := satF hs 220 rfl
  have e221 : v 221 = b2i (decide (v 220 < (21600000 : Int))) := satF hs 221 rfl
  have e222 : v 222 = Int.tmod (v 201) ((21600000 : Int)) := satF hs 222 rfl
  have e223 : v 223 = b2i (decide (v 222 < (0 : Int))) := satF hs 223 rfl
  have e224 : v 224 = IntKind.i64.wrap (v 222 + (21600000 : Int)) := satF hs 224 rfl
  have e226 : v 226 = if v 223 ≠ 0 then v 224 else v 222 := satF hs 226 rfl
  have e227 : v 227 = b2i (decide (v 226 ≥ (10800000 : Int))) := satF hs 227 rfl
  have e228 : v 228 = IntKind.i64.wrap (v 226 - (21600000 : Int)) := satF hs 228 rfl
  have e230 : v 230 = if v 227 ≠ 0 then v 228 else v 226 := satF hs 230 rfl
  have e231 : v 231 = IntKind.i64.wrap (v 230 + v 220) := satF hs 231 rfl
  have e233 : v 233 = if v 221 ≠ 0 then v 230 else (-10800000 : Int) := satF hs 233 rfl
  have e234 : v 234 = if v 221 ≠ 0 then v 231 else (10800000 : Int) := satF hs 234 rfl
  have e235 : v 235 = b2i (decide (v 218 ≤ v 219)) := satF hs 235 rfl
  have e236 : v 236 = b2i (decide (v 218 ≥ (-5400000 : Int))) := satF hs 236 rfl
  have e237 : v 237 = if v 235 ≠ 0 then v 236 else (0 : Int) := satF hs 237 rfl
  have e238 : v 238 = b2i (decide (v 219 ≤ (5400000 : Int))) := satF hs 238 rfl
  have e239 : v 239 = if v 237 ≠ 0 then v 238 else (0 : Int) := satF hs 239 rfl
  have e240 : v 240 = b2i (v 233 == (-10800000 : Int)) := satF hs 240 rfl
  have e241 : v 241 = b2i (v 234 == (10800000 : Int)) := satF hs 241 rfl
  have e242 : v 242 = if v 240 ≠ 0 then v 241 else (0 : Int) := satF hs 242 rfl
  have e243 : v 243 = b2i (decide (v 233 ≥ (-10800000 : Int))) := satF hs 243 rfl
  have e244 : v 244 = b2i (decide (v 233 < (10800000 : Int))) := satF hs 244 rfl
  have e245 : v 245 = if v 243 ≠ 0 then v 244 else (0 : Int) := satF hs 245 rfl
  have e246 : v 246 = b2i (decide (v 233 ≤ v 234)) := satF hs 246 rfl
  have e247 : v 247 = if v 245 ≠ 0 then v 246 else (0 : Int) := satF hs 247 rfl
  have e248 : v 248 = IntKind.i64.wrap (v 234 - v 233) := satF hs 248 rfl
  have e249 : v 249 = b2i (decide (v 248 < (21600000 : Int))) := satF hs 249 rfl
  have e250 : v 250 = if v 247 ≠ 0 then v 249 else (0 : Int) := satF hs 250 rfl
  have e251 : v 251 = if v 242 ≠ 0 then (1 : Int) else v 250 := satF hs 251 rfl
  have e252 : v 252 = if v 239 ≠ 0 then v 251 else (0 : Int) := satF hs 252 rfl
  have r198 : v 198 = bearL (v 4) (v 5) (v 190) (v 191) := e198
  have r199 : v 199 = bearH (v 4) (v 5) (v 190) (v 191) := e199
  have r201 : v 201 = bearL (v 2) (v 3) (v 0) (v 1) := e201
  have r202 : v 202 = bearH (v 2) (v 3) (v 0) (v 1) := e202
  have b1 := bear_bd (v 4) (v 5) (v 190) (v 191)
  have b2 := bear_bd (v 2) (v 3) (v 0) (v 1)
  have x1 : fxV (v 190) (v 191) = true := by rw [e190, e191]; exact sem_fitV4 _ _
  have x0 : 0 ≤ v 190 := by rw [e190]; exact sem4_low _ _
  have x2 := (fxV_iff _ _).1 x1
  have x3 := (fxV_iff _ _).1 Q3
  have lt := bear_lat (yl := v 4) (yh := v 5) (xl := v 190) (xh := v 191) x3 (by omega)
  rw [← r198, ← r199] at b1
  rw [← r198] at lt
  rw [← r201, ← r202] at b2
  clear r198 r199 r201 r202 x1 x0 x2 x3 Q1 Q2 Q3 e190 e191 e198 e199 e201 e202 hs
  have r209 : v 209 = v 199 - v 198 := by rw [e209, IntWalk.i64_in _ (by omega)]
  have h210 : v 209 < 21600000 := by
    rw [e210, b2i_zero] at P210
    have := of_decide_eq_false P210
    omega
  have r213 : v 213 = v 198 - 21600000 := by rw [e213, IntWalk.i64_in _ (by omega)]
  have r214 : v 214 = v 199 - 21600000 := by rw [e214, IntWalk.i64_in _ (by omega)]
  have r216 : v 216 = if v 198 ≥ 10800000 then v 198 - 21600000 else v 198 := by rw [e216, e212, b2i_dec, r213]
  have r217 : v 217 = if v 198 ≥ 10800000 then v 199 - 21600000 else v 199 := by rw [e217, e212, b2i_dec, r214]
  have c1 : -5400000 ≤ v 216 ∧ v 216 ≤ 5400000 ∧ v 216 ≤ v 217 := by rw [r216, r217]; split <;> omega
  have c2 : v 218 ≤ v 219 ∧ v 218 ≥ -5400000 ∧ v 219 ≤ 5400000 := by rw [e218, e219]; split <;> split <;> omega
  have r239 : v 239 = 1 := by
    rw [e239, e237, e235, e236, e238, decide_eq_true c2.1, decide_eq_true c2.2.1, decide_eq_true c2.2.2]; rfl
  have r220 : v 220 = v 202 - v 201 := by rw [e220, IntWalk.i64_in _ (by omega)]
  have r222 : v 222 = v 201 := by rw [e222, Int.tmod_eq_emod_of_nonneg (by omega)]; omega
  have r226 : v 226 = v 201 := by rw [e226, e223, r222, b2i_dec, if_neg (by omega)]
  have r228 : v 228 = v 201 - 21600000 := by rw [e228, r226, IntWalk.i64_in _ (by omega)]
  have r230 : v 230 = if v 201 ≥ 10800000 then v 201 - 21600000 else v 201 := by rw [e230, e227, b2i_dec, r228, r226]
  have c3 : -10800000 ≤ v 230 ∧ v 230 < 10800000 := by rw [r230]; split <;> omega
  have r231 : v 231 = v 230 + v 220 := by rw [e231, IntWalk.i64_in _ (by omega)]
  have r251 : v 251 = 1 := by
    by_cases hw : v 220 < 21600000
    · have r233 : v 233 = v 230 := by rw [e233, e221, b2i_dec, if_pos hw]
      have r234 : v 234 = v 230 + v 220 := by rw [e234, e221, b2i_dec, if_pos hw, r231]
      have r248 : v 248 = v 220 := by rw [e248, r233, r234, IntWalk.i64_in _ (by omega)]; omega
      have r250 : v 250 = 1 := by
        rw [e250, e247, e245, e243, e244, e246, e249, r248, r233, r234, decide_eq_true (show v 230 ≥ -10800000 by omega), decide_eq_true (show v 230 < 10800000 by omega), decide_eq_true (show v 230 ≤ v 230 + v 220 by omega), decide_eq_true hw]; rfl
      rw [e251, r250]; split <;> rfl
    · have r233 : v 233 = -10800000 := by rw [e233, e221, b2i_dec, if_neg hw]
      have r234 : v 234 = 10800000 := by rw [e234, e221, b2i_dec, if_neg hw]
      have r242 : v 242 = 1 := by rw [e242, e240, e241, r233, r234]; rfl
      rw [e251, r242]; rfl
  rw [e252, r239, r251]; rfl
set_option maxRecDepth 100000 in
set_option maxHeartbeats 40000000 in
theorem c_lawAng (ax1 ax2 ay1 ay2 az1 az2 bx1 bx2 by1 by2 bz1 bz2 : Int) (w : World) : Calls Tryz.prog 3 #[.agg #[.int .i64 ax1, .int .i64 ax2, .int .i64 ay1, .int .i64 ay2, .int .i64 az1, .int .i64 az2], .agg #[.int .i64 bx1, .int .i64 bx2, .int .i64 by1, .int .i64 by2, .int .i64 bz1, .int .i64 bz2]] w fun e w' => e = .returned (.bool true) ∧ Below w.heap.size w w' := by
  refine Sx.calls (X := cxB [ax1, ax2, ay1, ay2, az1, az2, bx1, bx2, by1, by2, bz1, bz2]) hmix (spAng_ok _) wh_ang wf_ang (fun v hs => ?_) w
  have e12 : v 12 = (semB 20 []).getD 0 0 := satF hs 12 rfl
  have e15 : v 15 = b2i (fxV (v 0) (v 1)) := satF hs 15 rfl
  have e16 : v 16 = b2i (fxV (v 2) (v 3)) := satF hs 16 rfl
  have e17 : v 17 = if v 15 ≠ 0 then v 16 else (0 : Int) := satF hs 17 rfl
  have e18 : v 18 = b2i (fxV (v 4) (v 5)) := satF hs 18 rfl
  have e19 : v 19 = if v 17 ≠ 0 then v 18 else (0 : Int) := satF hs 19 rfl
  have e20 : v 20 = if v 19 ≠ 0 then (0 : Int) else (1 : Int) := satF hs 20 rfl
  have e21 : v 21 = b2i (fxV (v 6) (v 7)) := satF hs 21 rfl
  have e22 : v 22 = b2i (fxV (v 8) (v 9)) := satF hs 22 rfl
  have e23 : v 23 = if v 21 ≠ 0 then v 22 else (0 : Int) := satF hs 23 rfl
  have e24 : v 24 = b2i (fxV (v 10) (v 11)) := satF hs 24 rfl
  have e25 : v 25 = if v 23 ≠ 0 then v 24 else (0 : Int) := satF hs 25 rfl
  have e26 : v 26 = if v 25 ≠ 0 then (0 : Int) else (1 : Int) := satF hs 26 rfl
  have e27 : v 27 = if v 20 ≠ 0 then (1 : Int) else v 26 := satF hs 27 rfl
  have e28 : v 28 = if v 27 ≠ 0 then (0 : Int) else (1 : Int) := satF hs 28 rfl
  have e174 : v 174 = if v 20 ≠ 0 then (0 : Int) else (1 : Int) := satF hs 174 rfl
  have e371 : v 371 = if v 26 ≠ 0 then (0 : Int) else (1 : Int) := satF hs 371 rfl
  have e210 : v 210 = b2i (decide (v 209 ≥ (21600000 : Int))) := satF hs 210 rfl
  have Q19 : v 19 = b2i (fxV (v 0) (v 1) && fxV (v 2) (v 3) && fxV (v 4) (v 5)) := by
    rw [e19, e17, e15, e16, e18]
    generalize fxV (v 0) (v 1) = q0; generalize fxV (v 2) (v 3) = q1; generalize fxV (v 4) (v 5) = q2
    revert q0 q1 q2; decide
  have Q25 : v 25 = b2i (fxV (v 6) (v 7) && fxV (v 8) (v 9) && fxV (v 10) (v 11)) := by
    rw [e25, e23, e21, e22, e24]
    generalize fxV (v 6) (v 7) = q0; generalize fxV (v 8) (v 9) = q1; generalize fxV (v 10) (v 11) = q2
    revert q0 q1 q2; decide
  have HA : v 19 = 1 → fxV (v 0) (v 1) = true ∧ fxV (v 2) (v 3) = true ∧ fxV (v 4) (v 5) = true := by
    rw [Q19]
    generalize fxV (v 0) (v 1) = q0; generalize fxV (v 2) (v 3) = q1; generalize fxV (v 4) (v 5) = q2
    revert q0 q1 q2; decide
  have HB : v 25 = 1 → fxV (v 6) (v 7) = true ∧ fxV (v 8) (v 9) = true ∧ fxV (v 10) (v 11) = true := by
    rw [Q25]
    generalize fxV (v 6) (v 7) = q0; generalize fxV (v 8) (v 9) = q1; generalize fxV (v 10) (v 11) = q2
    revert q0 q1 q2; decide
  have B19 : v 19 = 0 ∨ v 19 = 1 := by rw [Q19]; exact b2i_01 _
  have B25 : v 25 = 0 ∨ v 25 = 1 := by rw [Q25]; exact b2i_01 _
  have H174 : v 174 ≠ 0 → v 19 = 1 := by
    rw [e174, e20]; rcases B19 with h | h <;> rw [h] <;> decide
  have H371 : v 371 ≠ 0 → v 25 = 1 := by
    rw [e371, e26]; rcases B25 with h | h <;> rw [h] <;> decide
  have H28 : v 28 ≠ 0 → v 19 = 1 ∧ v 25 = 1 := by
    rw [e28, e27, e20, e26]; rcases B19 with h | h <;> rcases B25 with h' | h' <;> rw [h, h'] <;> decide
  have h12 : v 12 = 1 := e12
  refine ⟨checkV_ok hs (fs := [((.n 28, true), (.n 0, .n 1)), ((.n 28, true), (.n 2, .n 3)), ((.n 28, true), (.n 4, .n 5)), ((.n 28, true), (.n 6, .n 7)), ((.n 28, true), (.n 8, .n 9)), ((.n 28, true), (.n 10, .n 11)), ((.n 174, true), (.n 0, .n 1)), ((.n 174, true), (.n 2, .n 3)), ((.n 174, true), (.n 4, .n 5)), ((.n 371, true), (.n 6, .n 7)), ((.n 371, true), (.n 8, .n 9)), ((.n 371, true), (.n 10, .n 11))]) (rs := []) ?_ (fun e he => by cases he) (by kernel_rfl), ?_⟩
  · intro e he
    simp only [List.mem_cons, List.not_mem_nil, or_false] at he
    rcases he with rfl | rfl | rfl | rfl | rfl | rfl | rfl | rfl | rfl | rfl | rfl | rfl <;> intro hq <;> have hq := of_decide_eq_true hq
    · exact (HA (H28 hq).1).1
    · exact (HA (H28 hq).1).2.1
    · exact (HA (H28 hq).1).2.2
    · exact (HB (H28 hq).2).1
    · exact (HB (H28 hq).2).2.1
    · exact (HB (H28 hq).2).2.2
    · exact (HA (H174 hq)).1
    · exact (HA (H174 hq)).2.1
    · exact (HA (H174 hq)).2.2
    · exact (HB (H371 hq)).1
    · exact (HB (H371 hq)).2.1
    · exact (HB (H371 hq)).2.2
  · intro x hx
    have hx' : x = .bool (decide (v 578 ≠ 0)) := hx
    suffices hr : v 578 = 1 by rw [hx', hr]; rfl
    rcases B19 with h19 | h19
    · exact ang_a0 hs h12 h19
    · have h369 : v 369 = 0 := by
        by_cases h195 : v 195 = 0
        · have B210 : v 210 = 0 ∨ v 210 = 1 := by rw [e210]; exact b2i_01 _
          rcases B210 with h210 | h210
          · obtain ⟨q1, q2, q3⟩ := HA h19
            exact ang_p3 hs h12 h19 h195 h210 (ang_place hs q1 q2 q3 h210) (ang_lin hs)
          · exact ang_p2 hs h12 h19 h195 h210
        · exact ang_p1 hs h12 h19 h195
      rcases B25 with h25 | h25
      · exact ang_b0 hs h12 h19 h369 h25
      · by_cases h79 : v 79 = 0
        · by_cases h115 : v 115 = 0
          · by_cases h145 : v 145 = 0
            · exact ang_f0 hs h12 h19 h369 h25 h79 h115 h145
            · exact ang_f1 hs h12 h19 h369 h25 h79 h115 h145
          · exact ang_d1 hs h12 h19 h369 h25 h79 h115
        · exact ang_c1 hs h12 h19 h369 h25 h79
end Go.Proofs.YtfffpodaabdpfaaGreat
