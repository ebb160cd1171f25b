/- The law CurrentMotions: MadeGood and Found return what is specified. -/
import Derived.Test.YtfffpodaabdpfaaGreatCur2
set_option linter.unusedVariables false
set_option linter.unusedSimpArgs false
namespace Go.Proofs.YtfffpodaabdpfaaGreat
open Go.RowKit Alm Sx
def nd_cm : List Nd := [
 .arg 0,
 .arg 1,
 .arg 2,
 .arg 3,
 .arg 4,
 .arg 5,
 .arg 6,
 .arg 7,
 .arg 8,
 .arg 9,
 .arg 10,
 .arg 11,
 .app 20 0 [],
 .ite (.n 12) (.c 0) (.c 1),
 .ite (.n 13) (.c 0) (.c 1),
 .app 42 0 [.n 0, .n 1, .n 2, .n 3],
 .ite (.n 15) (.c 0) (.c 1),
 .app 42 0 [.n 8, .n 9, .n 10, .n 11],
 .ite (.n 17) (.c 0) (.c 1),
 .ite (.n 16) (.c 1) (.n 18),
 .ite (.n 19) (.c 0) (.c 1),
 .app 37 0 [.n 0, .n 1, .n 2, .n 3],
 .app 37 1 [.n 0, .n 1, .n 2, .n 3],
 .app 37 2 [.n 0, .n 1, .n 2, .n 3],
 .app 37 3 [.n 0, .n 1, .n 2, .n 3],
 .app 37 4 [.n 0, .n 1, .n 2, .n 3],
 .bin .neq .i64 (.n 25) (.c 0),
 .ite (.n 26) (.c 0) (.c 1),
 .app 37 0 [.n 8, .n 9, .n 10, .n 11],
 .app 37 1 [.n 8, .n 9, .n 10, .n 11],
 .app 37 2 [.n 8, .n 9, .n 10, .n 11],
 .app 37 3 [.n 8, .n 9, .n 10, .n 11],
 .app 37 4 [.n 8, .n 9, .n 10, .n 11],
 .bin .neq .i64 (.n 32) (.c 0),
 .ite (.n 33) (.c 0) (.c 1),
 .app 44 0 [.n 21, .n 22, .n 28, .n 29],
 .app 44 1 [.n 21, .n 22, .n 28, .n 29],
 .app 44 2 [.n 21, .n 22, .n 28, .n 29],
 .bin .neq .i64 (.n 37) (.c 0),
 .ite (.n 38) (.c 0) (.c 1),
 .app 44 0 [.n 23, .n 24, .n 30, .n 31],
 .app 44 1 [.n 23, .n 24, .n 30, .n 31],
 .app 44 2 [.n 23, .n 24, .n 30, .n 31],
 .bin .neq .i64 (.n 42) (.c 0),
 .ite (.n 43) (.c 0) (.c 1),
 .app 38 0 [.n 35, .n 36, .n 40, .n 41],
 .app 38 1 [.n 35, .n 36, .n 40, .n 41],
 .app 38 2 [.n 35, .n 36, .n 40, .n 41],
 .app 38 3 [.n 35, .n 36, .n 40, .n 41],
 .app 38 4 [.n 35, .n 36, .n 40, .n 41],
 .bin .neq .i64 (.n 49) (.c 0),
 .app 43 0 [.n 47, .n 48],
 .ite (.n 51) (.c 0) (.c 1),
 .ite (.n 50) (.c 1) (.n 52),
 .mx (.n 49) (.c 5),
 .ite (.n 53) (.c 0) (.c 1),
 .ite (.n 53) (.n 54) (.c 0),
 .ite (.n 53) (.c 0) (.n 47),
 .ite (.n 53) (.c 0) (.n 48),
 .ite (.n 53) (.c 0) (.n 45),
 .ite (.n 53) (.c 0) (.n 46),
 .ite (.n 43) (.n 42) (.n 56),
 .ite (.n 43) (.n 42) (.n 49),
 .ite (.n 43) (.c 0) (.n 57),
 .ite (.n 43) (.c 0) (.n 58),
 .ite (.n 43) (.c 0) (.n 59),
 .ite (.n 43) (.c 0) (.n 60),
 .ite (.n 38) (.n 37) (.n 61),
 .ite (.n 38) (.n 37) (.n 62),
 .ite (.n 38) (.c 0) (.n 63),
 .ite (.n 38) (.c 0) (.n 64),
 .ite (.n 38) (.c 0) (.n 65),
 .ite (.n 38) (.c 0) (.n 66),
 .ite (.n 33) (.n 32) (.n 67),
 .ite (.n 33) (.n 32) (.n 68),
 .ite (.n 33) (.c 0) (.n 69),
 .ite (.n 33) (.c 0) (.n 70),
 .ite (.n 33) (.c 0) (.n 71),
 .ite (.n 33) (.c 0) (.n 72),
 .ite (.n 26) (.n 25) (.n 73),
 .ite (.n 26) (.n 25) (.n 74),
 .ite (.n 26) (.c 0) (.n 75),
 .ite (.n 26) (.c 0) (.n 76),
 .ite (.n 26) (.c 0) (.n 77),
 .ite (.n 26) (.c 0) (.n 78),
 .ite (.n 19) (.c 1) (.n 79),
 .ite (.n 19) (.c 0) (.n 81),
 .ite (.n 19) (.c 0) (.n 82),
 .ite (.n 19) (.c 0) (.n 83),
 .ite (.n 19) (.c 0) (.n 84),
 .bin .neq .i64 (.n 85) (.c 0),
 .ite (.n 90) (.c 0) (.c 1),
 .ite (.n 90) (.n 85) (.c 0),
 .ite (.n 90) (.c 0) (.n 88),
 .ite (.n 90) (.c 0) (.n 89),
 .ite (.n 90) (.c 0) (.n 86),
 .ite (.n 90) (.c 0) (.n 87),
 .ite (.n 52) (.c 0) (.c 1),
 .ite (.n 52) (.c 5) (.c 0),
 .ite (.n 52) (.c 0) (.n 45),
 .ite (.n 52) (.c 0) (.n 46),
 .ite (.n 52) (.c 0) (.n 47),
 .ite (.n 52) (.c 0) (.n 48),
 .ite (.n 19) (.c 1) (.n 98),
 .ite (.n 19) (.c 0) (.n 99),
 .ite (.n 19) (.c 0) (.n 100),
 .ite (.n 19) (.c 0) (.n 101),
 .ite (.n 19) (.c 0) (.n 102),
 .app 42 0 [.n 4, .n 5, .n 6, .n 7],
 .ite (.n 108) (.c 0) (.c 1),
 .ite (.n 109) (.c 1) (.n 16),
 .ite (.n 110) (.c 0) (.c 1),
 .app 37 0 [.n 4, .n 5, .n 6, .n 7],
 .app 37 1 [.n 4, .n 5, .n 6, .n 7],
 .app 37 2 [.n 4, .n 5, .n 6, .n 7],
 .app 37 3 [.n 4, .n 5, .n 6, .n 7],
 .app 37 4 [.n 4, .n 5, .n 6, .n 7],
 .bin .neq .i64 (.n 116) (.c 0),
 .ite (.n 117) (.c 0) (.c 1),
 .app 45 0 [.n 112, .n 113, .n 21, .n 22],
 .app 45 1 [.n 112, .n 113, .n 21, .n 22],
 .app 45 2 [.n 112, .n 113, .n 21, .n 22],
 .bin .neq .i64 (.n 121) (.c 0),
 .ite (.n 122) (.c 0) (.c 1),
 .app 45 0 [.n 114, .n 115, .n 23, .n 24],
 .app 45 1 [.n 114, .n 115, .n 23, .n 24],
 .app 45 2 [.n 114, .n 115, .n 23, .n 24],
 .bin .neq .i64 (.n 126) (.c 0),
 .ite (.n 127) (.c 0) (.c 1),
 .app 38 0 [.n 119, .n 120, .n 124, .n 125],
 .app 38 1 [.n 119, .n 120, .n 124, .n 125],
 .app 38 2 [.n 119, .n 120, .n 124, .n 125],
 .app 38 3 [.n 119, .n 120, .n 124, .n 125],
 .app 38 4 [.n 119, .n 120, .n 124, .n 125],
 .bin .neq .i64 (.n 133) (.c 0),
 .app 43 0 [.n 131, .n 132],
 .ite (.n 135) (.c 0) (.c 1),
 .ite (.n 134) (.c 1) (.n 136),
 .mx (.n 133) (.c 5),
 .ite (.n 137) (.c 0) (.c 1),
 .ite (.n 137) (.n 138) (.c 0),
 .ite (.n 137) (.c 0) (.n 131),
 .ite (.n 137) (.c 0) (.n 132),
 .ite (.n 137) (.c 0) (.n 129),
 .ite (.n 137) (.c 0) (.n 130),
 .ite (.n 127) (.n 126) (.n 140),
 .ite (.n 127) (.n 126) (.n 133),
 .ite (.n 127) (.c 0) (.n 141),
 .ite (.n 127) (.c 0) (.n 142),
 .ite (.n 127) (.c 0) (.n 143),
 .ite (.n 127) (.c 0) (.n 144),
 .ite (.n 122) (.n 121) (.n 145),
 .ite (.n 122) (.n 121) (.n 146),
 .ite (.n 122) (.c 0) (.n 147),
 .ite (.n 122) (.c 0) (.n 148),
 .ite (.n 122) (.c 0) (.n 149),
 .ite (.n 122) (.c 0) (.n 150),
 .ite (.n 26) (.n 25) (.n 151),
 .ite (.n 26) (.n 25) (.n 152),
 .ite (.n 26) (.c 0) (.n 153),
 .ite (.n 26) (.c 0) (.n 154),
 .ite (.n 26) (.c 0) (.n 155),
 .ite (.n 26) (.c 0) (.n 156),
 .ite (.n 117) (.n 116) (.n 157),
 .ite (.n 117) (.n 116) (.n 158),
 .ite (.n 117) (.c 0) (.n 159),
 .ite (.n 117) (.c 0) (.n 160),
 .ite (.n 117) (.c 0) (.n 161),
 .ite (.n 117) (.c 0) (.n 162),
 .ite (.n 110) (.c 1) (.n 163),
 .ite (.n 110) (.c 0) (.n 165),
 .ite (.n 110) (.c 0) (.n 166),
 .ite (.n 110) (.c 0) (.n 167),
 .ite (.n 110) (.c 0) (.n 168),
 .bin .neq .i64 (.n 169) (.c 0),
 .ite (.n 174) (.c 0) (.c 1),
 .ite (.n 174) (.n 169) (.c 0),
 .ite (.n 174) (.c 0) (.n 172),
 .ite (.n 174) (.c 0) (.n 173),
 .ite (.n 174) (.c 0) (.n 170),
 .ite (.n 174) (.c 0) (.n 171),
 .ite (.n 16) (.c 1) (.n 109),
 .ite (.n 181) (.c 0) (.c 1),
 .ite (.n 136) (.c 0) (.c 1),
 .ite (.n 136) (.c 5) (.c 0),
 .ite (.n 136) (.c 0) (.n 129),
 .ite (.n 136) (.c 0) (.n 130),
 .ite (.n 136) (.c 0) (.n 131),
 .ite (.n 136) (.c 0) (.n 132),
 .ite (.n 181) (.c 1) (.n 184),
 .ite (.n 181) (.c 0) (.n 185),
 .ite (.n 181) (.c 0) (.n 186),
 .ite (.n 181) (.c 0) (.n 187),
 .ite (.n 181) (.c 0) (.n 188),
 .bin .eql .i64 (.n 93) (.n 104),
 .bin .eql .i64 (.n 94) (.n 105),
 .bin .eql .i64 (.n 95) (.n 106),
 .bin .eql .i64 (.n 96) (.n 107),
 .ite (.n 196) (.n 197) (.c 0),
 .ite (.n 195) (.n 198) (.c 0),
 .ite (.n 194) (.n 199) (.c 0),
 .bin .eql .i64 (.n 92) (.n 103),
 .ite (.n 200) (.n 201) (.c 0),
 .bin .eql .i64 (.n 177) (.n 190),
 .bin .eql .i64 (.n 178) (.n 191),
 .bin .eql .i64 (.n 179) (.n 192),
 .bin .eql .i64 (.n 180) (.n 193),
 .ite (.n 205) (.n 206) (.c 0),
 .ite (.n 204) (.n 207) (.c 0),
 .ite (.n 203) (.n 208) (.c 0),
 .ite (.n 202) (.n 209) (.c 0),
 .bin .eql .i64 (.n 176) (.n 189),
 .ite (.n 210) (.n 211) (.c 0),
 .ite (.n 13) (.c 0) (.n 212)]
def vc_cm : List Vc := [
 ⟨[], .pre 20 []⟩,
 ⟨[(.n 14, true)], .pre 42 [.n 0, .n 1, .n 2, .n 3]⟩,
 ⟨[(.n 14, true), (.n 16, false)], .pre 42 [.n 8, .n 9, .n 10, .n 11]⟩,
 ⟨[(.n 20, true), (.n 14, true)], .pre 37 [.n 0, .n 1, .n 2, .n 3]⟩,
 ⟨[(.n 27, true), (.n 20, true), (.n 14, true)], .pre 37 [.n 8, .n 9, .n 10, .n 11]⟩,
 ⟨[(.n 34, true), (.n 27, true), (.n 20, true), (.n 14, true)], .pre 44 [.n 21, .n 22, .n 28, .n 29]⟩,
 ⟨[(.n 39, true), (.n 34, true), (.n 27, true), (.n 20, true), (.n 14, true)], .pre 44 [.n 23, .n 24, .n 30, .n 31]⟩,
 ⟨[(.n 44, true), (.n 39, true), (.n 34, true), (.n 27, true), (.n 20, true), (.n 14, true)], .pre 38 [.n 35, .n 36, .n 40, .n 41]⟩,
 ⟨[(.n 44, true), (.n 39, true), (.n 34, true), (.n 27, true), (.n 20, true), (.n 14, true), (.n 50, false)], .pre 43 [.n 47, .n 48]⟩,
 ⟨[(.n 14, true)], .pre 42 [.n 0, .n 1, .n 2, .n 3]⟩,
 ⟨[(.n 14, true), (.n 16, false)], .pre 42 [.n 8, .n 9, .n 10, .n 11]⟩,
 ⟨[(.n 20, true), (.n 14, true)], .pre 37 [.n 0, .n 1, .n 2, .n 3]⟩,
 ⟨[(.n 20, true), (.n 14, true)], .pre 37 [.n 8, .n 9, .n 10, .n 11]⟩,
 ⟨[(.n 20, true), (.n 14, true)], .pre 44 [.n 21, .n 22, .n 28, .n 29]⟩,
 ⟨[(.n 20, true), (.n 14, true)], .pre 44 [.n 23, .n 24, .n 30, .n 31]⟩,
 ⟨[(.n 20, true), (.n 14, true)], .pre 38 [.n 35, .n 36, .n 40, .n 41]⟩,
 ⟨[(.n 20, true), (.n 14, true)], .pre 43 [.n 47, .n 48]⟩,
 ⟨[(.n 14, true)], .pre 42 [.n 4, .n 5, .n 6, .n 7]⟩,
 ⟨[(.n 14, true), (.n 109, false)], .pre 42 [.n 0, .n 1, .n 2, .n 3]⟩,
 ⟨[(.n 111, true), (.n 14, true)], .pre 37 [.n 4, .n 5, .n 6, .n 7]⟩,
 ⟨[(.n 118, true), (.n 111, true), (.n 14, true)], .pre 37 [.n 0, .n 1, .n 2, .n 3]⟩,
 ⟨[(.n 27, true), (.n 118, true), (.n 111, true), (.n 14, true)], .pre 45 [.n 112, .n 113, .n 21, .n 22]⟩,
 ⟨[(.n 123, true), (.n 27, true), (.n 118, true), (.n 111, true), (.n 14, true)], .pre 45 [.n 114, .n 115, .n 23, .n 24]⟩,
 ⟨[(.n 128, true), (.n 123, true), (.n 27, true), (.n 118, true), (.n 111, true), (.n 14, true)], .pre 38 [.n 119, .n 120, .n 124, .n 125]⟩,
 ⟨[(.n 128, true), (.n 123, true), (.n 27, true), (.n 118, true), (.n 111, true), (.n 14, true), (.n 134, false)], .pre 43 [.n 131, .n 132]⟩,
 ⟨[(.n 14, true)], .pre 42 [.n 0, .n 1, .n 2, .n 3]⟩,
 ⟨[(.n 14, true), (.n 16, false)], .pre 42 [.n 4, .n 5, .n 6, .n 7]⟩,
 ⟨[(.n 182, true), (.n 14, true)], .pre 37 [.n 4, .n 5, .n 6, .n 7]⟩,
 ⟨[(.n 182, true), (.n 14, true)], .pre 37 [.n 0, .n 1, .n 2, .n 3]⟩,
 ⟨[(.n 182, true), (.n 14, true)], .pre 45 [.n 112, .n 113, .n 21, .n 22]⟩,
 ⟨[(.n 182, true), (.n 14, true)], .pre 45 [.n 114, .n 115, .n 23, .n 24]⟩,
 ⟨[(.n 182, true), (.n 14, true)], .pre 38 [.n 119, .n 120, .n 124, .n 125]⟩,
 ⟨[(.n 182, true), (.n 14, true)], .pre 43 [.n 131, .n 132]⟩]
theorem wh_cm : whole Tryz.prog spD 20 40 9 [(true, [some .i64, some .i64, some .i64, some .i64]), (true, [some .i64, some .i64, some .i64, some .i64]), (true, [some .i64, some .i64, some .i64, some .i64])] = some (.p (.c (.bool (.n 213))), ⟨nd_cm.reverse, vc_cm.reverse⟩) := by kernel_rfl
theorem wf_cm : wfN nd_cm.reverse = true := by kernel_rfl
theorem cm_a0 {ar : List Int} {v : Nat → Int} (hs : SatN (cxD ar) v nd_cm.reverse) (P12 : v 12 = 1) (P15 : v 15 = 0) : v 202 = 1 :=
 norm_val (X := cxD ar) (v := v) (l := nd_cm) (extD_ok _) hs (k := 202) (r := .c 1) (ps := [(12, .c 1), (15, .c 0)]) (nz := []) (ps_cons P12 (ps_cons P15 ps_nil)) nz_nil (by kernel_rfl)
theorem cm_a1 {ar : List Int} {v : Nat → Int} (hs : SatN (cxD ar) v nd_cm.reverse) (P12 : v 12 = 1) (P15 : v 15 = 1) (P17 : v 17 = 0) : v 202 = 1 :=
 norm_val (X := cxD ar) (v := v) (l := nd_cm) (extD_ok _) hs (k := 202) (r := .c 1) (ps := [(12, .c 1), (15, .c 1), (17, .c 0)]) (nz := []) (ps_cons P12 (ps_cons P15 (ps_cons P17 ps_nil))) nz_nil (by kernel_rfl)
theorem cm_a2 {ar : List Int} {v : Nat → Int} (hs : SatN (cxD ar) v nd_cm.reverse) (P12 : v 12 = 1) (P15 : v 15 = 1) (P17 : v 17 = 1) (P51 : v 51 = 0) : v 202 = 1 :=
 norm_val (X := cxD ar) (v := v) (l := nd_cm) (extD_ok _) hs (k := 202) (r := .c 1) (ps := [(12, .c 1), (15, .c 1), (17, .c 1), (51, .c 0)]) (nz := []) (ps_cons P12 (ps_cons P15 (ps_cons P17 (ps_cons P51 ps_nil)))) nz_nil (by kernel_rfl)
theorem cm_a3 {ar : List Int} {v : Nat → Int} (hs : SatN (cxD ar) v nd_cm.reverse) (P12 : v 12 = 1) (P15 : v 15 = 1) (P17 : v 17 = 1) (P51 : v 51 = 1) : v 202 = 1 :=
 norm_val (X := cxD ar) (v := v) (l := nd_cm) (extD_ok _) hs (k := 202) (r := .c 1) (ps := [(12, .c 1), (15, .c 1), (17, .c 1), (51, .c 1)]) (nz := []) (ps_cons P12 (ps_cons P15 (ps_cons P17 (ps_cons P51 ps_nil)))) nz_nil (by kernel_rfl)
theorem cm_b0 {ar : List Int} {v : Nat → Int} (hs : SatN (cxD ar) v nd_cm.reverse) (P12 : v 12 = 1) (P202 : v 202 = 1) (P108 : v 108 = 0) : v 213 = 1 :=
 norm_val (X := cxD ar) (v := v) (l := nd_cm) (extD_ok _) hs (k := 213) (r := .c 1) (ps := [(12, .c 1), (202, .c 1), (108, .c 0)]) (nz := []) (ps_cons P12 (ps_cons P202 (ps_cons P108 ps_nil))) nz_nil (by kernel_rfl)
theorem cm_b1 {ar : List Int} {v : Nat → Int} (hs : SatN (cxD ar) v nd_cm.reverse) (P12 : v 12 = 1) (P202 : v 202 = 1) (P108 : v 108 = 1) (P15 : v 15 = 0) : v 213 = 1 :=
 norm_val (X := cxD ar) (v := v) (l := nd_cm) (extD_ok _) hs (k := 213) (r := .c 1) (ps := [(12, .c 1), (202, .c 1), (108, .c 1), (15, .c 0)]) (nz := []) (ps_cons P12 (ps_cons P202 (ps_cons P108 (ps_cons P15 ps_nil)))) nz_nil (by kernel_rfl)
theorem cm_b2 {ar : List Int} {v : Nat → Int} (hs : SatN (cxD ar) v nd_cm.reverse) (P12 : v 12 = 1) (P202 : v 202 = 1) (P108 : v 108 = 1) (P15 : v 15 = 1) (P135 : v 135 = 0) : v 213 = 1 :=
 norm_val (X := cxD ar) (v := v) (l := nd_cm) (extD_ok _) hs (k := 213) (r := .c 1) (ps := [(12, .c 1), (202, .c 1), (108, .c 1), (15, .c 1), (135, .c 0)]) (nz := []) (ps_cons P12 (ps_cons P202 (ps_cons P108 (ps_cons P15 (ps_cons P135 ps_nil))))) nz_nil (by kernel_rfl)
theorem cm_b3 {ar : List Int} {v : Nat → Int} (hs : SatN (cxD ar) v nd_cm.reverse) (P12 : v 12 = 1) (P202 : v 202 = 1) (P108 : v 108 = 1) (P15 : v 15 = 1) (P135 : v 135 = 1) : v 213 = 1 :=
 norm_val (X := cxD ar) (v := v) (l := nd_cm) (extD_ok _) hs (k := 213) (r := .c 1) (ps := [(12, .c 1), (202, .c 1), (108, .c 1), (15, .c 1), (135, .c 1)]) (nz := []) (ps_cons P12 (ps_cons P202 (ps_cons P108 (ps_cons P15 (ps_cons P135 ps_nil))))) nz_nil (by kernel_rfl)
theorem b2i_or {v : Int} (h : ∃ b, v = b2i b) : v = 1 ∨ v = 0 := by
 obtain ⟨b, rfl⟩ := h
 cases b
 · exact .inr rfl
 · exact .inl rfl
theorem sw2 {P Q : Prop} [Decidable P] [Decidable Q] : (if (if (if b2i (decide P) ≠ 0 then (0 : Int) else 1) ≠ 0 then (1 : Int) else (if b2i (decide Q) ≠ 0 then (0 : Int) else 1)) ≠ 0 then (0 : Int) else 1) ≠ 0 → P ∧ Q := by
 by_cases h1 : P <;> by_cases h2 : Q <;> simp [b2i, h1, h2]
theorem wide2 {a b c d : Int} (h : (-200000 ≤ a ∧ a ≤ b ∧ b ≤ 200000) ∧ (-200000 ≤ c ∧ c ≤ d ∧ d ≤ 200000)) : (-200000000 ≤ a ∧ a ≤ b ∧ b ≤ 200000000) ∧ (-200000000 ≤ c ∧ c ≤ d ∧ d ≤ 200000000) := by omega
set_option maxRecDepth 100000 in
theorem c_lawCM (a0 a1 a2 a3 a4 a5 a6 a7 a8 a9 a10 a11 : Int) (w : World) : Calls Tryz.prog 9 #[.agg #[.int .i64 a0, .int .i64 a1, .int .i64 a2, .int .i64 a3], .agg #[.int .i64 a4, .int .i64 a5, .int .i64 a6, .int .i64 a7], .agg #[.int .i64 a8, .int .i64 a9, .int .i64 a10, .int .i64 a11]] w fun e w' => e = .returned (.bool true) ∧ Below w.heap.size w w' := by
 refine Sx.calls (X := cxD [a0, a1, a2, a3, a4, a5, a6, a7, a8, a9, a10, a11]) hmix (spD_ok _) wh_cm wf_cm (fun v hs => ?_) w
 have e12 : v 12 = (semD 20 []).getD 0 0 := satF hs 12 rfl
 have e15 : v 15 = (semD 42 [v 0, v 1, v 2, v 3]).getD 0 0 := satF hs 15 rfl
 have e16 : v 16 = if v 15 ≠ 0 then (0 : Int) else (1 : Int) := satF hs 16 rfl
 have e17 : v 17 = (semD 42 [v 8, v 9, v 10, v 11]).getD 0 0 := satF hs 17 rfl
 have e18 : v 18 = if v 17 ≠ 0 then (0 : Int) else (1 : Int) := satF hs 18 rfl
 have e19 : v 19 = if v 16 ≠ 0 then (1 : Int) else v 18 := satF hs 19 rfl
 have e20 : v 20 = if v 19 ≠ 0 then (0 : Int) else (1 : Int) := satF hs 20 rfl
 have e21 : v 21 = (semD 37 [v 0, v 1, v 2, v 3]).getD 0 0 := satF hs 21 rfl
 have e22 : v 22 = (semD 37 [v 0, v 1, v 2, v 3]).getD 1 0 := satF hs 22 rfl
 have e23 : v 23 = (semD 37 [v 0, v 1, v 2, v 3]).getD 2 0 := satF hs 23 rfl
 have e24 : v 24 = (semD 37 [v 0, v 1, v 2, v 3]).getD 3 0 := satF hs 24 rfl
 have e28 : v 28 = (semD 37 [v 8, v 9, v 10, v 11]).getD 0 0 := satF hs 28 rfl
 have e29 : v 29 = (semD 37 [v 8, v 9, v 10, v 11]).getD 1 0 := satF hs 29 rfl
 have e30 : v 30 = (semD 37 [v 8, v 9, v 10, v 11]).getD 2 0 := satF hs 30 rfl
 have e31 : v 31 = (semD 37 [v 8, v 9, v 10, v 11]).getD 3 0 := satF hs 31 rfl
 have e35 : v 35 = (semD 44 [v 21, v 22, v 28, v 29]).getD 0 0 := satF hs 35 rfl
 have e36 : v 36 = (semD 44 [v 21, v 22, v 28, v 29]).getD 1 0 := satF hs 36 rfl
 have e40 : v 40 = (semD 44 [v 23, v 24, v 30, v 31]).getD 0 0 := satF hs 40 rfl
 have e41 : v 41 = (semD 44 [v 23, v 24, v 30, v 31]).getD 1 0 := satF hs 41 rfl
 have e51 : v 51 = (semD 43 [v 47, v 48]).getD 0 0 := satF hs 51 rfl
 have e108 : v 108 = (semD 42 [v 4, v 5, v 6, v 7]).getD 0 0 := satF hs 108 rfl
 have e109 : v 109 = if v 108 ≠ 0 then (0 : Int) else (1 : Int) := satF hs 109 rfl
 have e110 : v 110 = if v 109 ≠ 0 then (1 : Int) else v 16 := satF hs 110 rfl
 have e111 : v 111 = if v 110 ≠ 0 then (0 : Int) else (1 : Int) := satF hs 111 rfl
 have e112 : v 112 = (semD 37 [v 4, v 5, v 6, v 7]).getD 0 0 := satF hs 112 rfl
 have e113 : v 113 = (semD 37 [v 4, v 5, v 6, v 7]).getD 1 0 := satF hs 113 rfl
 have e114 : v 114 = (semD 37 [v 4, v 5, v 6, v 7]).getD 2 0 := satF hs 114 rfl
 have e115 : v 115 = (semD 37 [v 4, v 5, v 6, v 7]).getD 3 0 := satF hs 115 rfl
 have e119 : v 119 = (semD 45 [v 112, v 113, v 21, v 22]).getD 0 0 := satF hs 119 rfl
 have e120 : v 120 = (semD 45 [v 112, v 113, v 21, v 22]).getD 1 0 := satF hs 120 rfl
 have e124 : v 124 = (semD 45 [v 114, v 115, v 23, v 24]).getD 0 0 := satF hs 124 rfl
 have e125 : v 125 = (semD 45 [v 114, v 115, v 23, v 24]).getD 1 0 := satF hs 125 rfl
 have e135 : v 135 = (semD 43 [v 131, v 132]).getD 0 0 := satF hs 135 rfl
 have e181 : v 181 = if v 16 ≠ 0 then (1 : Int) else v 109 := satF hs 181 rfl
 have e182 : v 182 = if v 181 ≠ 0 then (0 : Int) else (1 : Int) := satF hs 182 rfl
 have Q15 : v 15 = b2i (decide (MV (v 0) (v 1) (v 2) (v 3))) := e15
 have Q17 : v 17 = b2i (decide (MV (v 8) (v 9) (v 10) (v 11))) := e17
 have Q108 : v 108 = b2i (decide (MV (v 4) (v 5) (v 6) (v 7))) := e108
 have H20 : v 20 ≠ 0 → MV (v 0) (v 1) (v 2) (v 3) ∧ MV (v 8) (v 9) (v 10) (v 11) := by
  rw [e20, e19, e16, e18, Q15, Q17]; exact sw2
 have H111 : v 111 ≠ 0 → MV (v 4) (v 5) (v 6) (v 7) ∧ MV (v 0) (v 1) (v 2) (v 3) := by
  rw [e111, e110, e109, e16, Q108, Q15]; exact sw2
 have H182 : v 182 ≠ 0 → MV (v 0) (v 1) (v 2) (v 3) ∧ MV (v 4) (v 5) (v 6) (v 7) := by
  rw [e182, e181, e16, e109, Q15, Q108]; exact sw2
 have BM : MV (v 0) (v 1) (v 2) (v 3) → (-200000 ≤ v 21 ∧ v 21 ≤ v 22 ∧ v 22 ≤ 200000) ∧ (-200000 ≤ v 23 ∧ v 23 ≤ v 24 ∧ v 24 ≤ 200000) := by
  intro q
  have t : (-(v 3) ≤ v 21 ∧ v 21 ≤ v 22 ∧ v 22 ≤ v 3) ∧ (-(v 3) ≤ v 23 ∧ v 23 ≤ v 24 ∧ v 24 ≤ v 3) := by
   rw [e21, e22, e23, e24]; exact pa_bd q.2.1 q.2.2.1
  omega
 have BD : MV (v 8) (v 9) (v 10) (v 11) → (-200000 ≤ v 28 ∧ v 28 ≤ v 29 ∧ v 29 ≤ 200000) ∧ (-200000 ≤ v 30 ∧ v 30 ≤ v 31 ∧ v 31 ≤ 200000) := by
  intro q
  have t : (-(v 11) ≤ v 28 ∧ v 28 ≤ v 29 ∧ v 29 ≤ v 11) ∧ (-(v 11) ≤ v 30 ∧ v 30 ≤ v 31 ∧ v 31 ≤ v 11) := by
   rw [e28, e29, e30, e31]; exact pa_bd q.2.1 q.2.2.1
  omega
 have BN : MV (v 4) (v 5) (v 6) (v 7) → (-200000 ≤ v 112 ∧ v 112 ≤ v 113 ∧ v 113 ≤ 200000) ∧ (-200000 ≤ v 114 ∧ v 114 ≤ v 115 ∧ v 115 ≤ 200000) := by
  intro q
  have t : (-(v 7) ≤ v 112 ∧ v 112 ≤ v 113 ∧ v 113 ≤ v 7) ∧ (-(v 7) ≤ v 114 ∧ v 114 ≤ v 115 ∧ v 115 ≤ v 7) := by
   rw [e112, e113, e114, e115]; exact pa_bd q.2.1 q.2.2.1
  omega
 have P37 : ∀ {a b l h : Int}, MV a b l h → preD 37 [a, b, l, h] := fun q => ⟨q.1, q.2.1, q.2.2.1, by have := q.2.2.2; omega⟩
 have F44 : MV (v 0) (v 1) (v 2) (v 3) ∧ MV (v 8) (v 9) (v 10) (v 11) → preD 44 [v 21, v 22, v 28, v 29] := fun q => wide2 ⟨(BM q.1).1, (BD q.2).1⟩
 have G44 : MV (v 0) (v 1) (v 2) (v 3) ∧ MV (v 8) (v 9) (v 10) (v 11) → preD 44 [v 23, v 24, v 30, v 31] := fun q => wide2 ⟨(BM q.1).2, (BD q.2).2⟩
 have F45 : MV (v 0) (v 1) (v 2) (v 3) ∧ MV (v 4) (v 5) (v 6) (v 7) → preD 45 [v 112, v 113, v 21, v 22] := fun q => wide2 ⟨(BN q.2).1, (BM q.1).1⟩
 have G45 : MV (v 0) (v 1) (v 2) (v 3) ∧ MV (v 4) (v 5) (v 6) (v 7) → preD 45 [v 114, v 115, v 23, v 24] := fun q => wide2 ⟨(BN q.2).2, (BM q.1).2⟩
 have w35 : v 35 = v 21 + v 28 := e35
 have w36 : v 36 = v 22 + v 29 := e36
 have w40 : v 40 = v 23 + v 30 := e40
 have w41 : v 41 = v 24 + v 31 := e41
 have w119 : v 119 = v 112 - v 22 := e119
 have w120 : v 120 = v 113 - v 21 := e120
 have w124 : v 124 = v 114 - v 24 := e124
 have w125 : v 125 = v 115 - v 23 := e125
 have F38 : MV (v 0) (v 1) (v 2) (v 3) ∧ MV (v 8) (v 9) (v 10) (v 11) → preD 38 [v 35, v 36, v 40, v 41] := fun q => (show (-400000 ≤ v 35 ∧ v 35 ≤ v 36 ∧ v 36 ≤ 400000) ∧ (-400000 ≤ v 40 ∧ v 40 ≤ v 41 ∧ v 41 ≤ 400000) by
  have := BM q.1
  have := BD q.2
  omega)
 have G38 : MV (v 0) (v 1) (v 2) (v 3) ∧ MV (v 4) (v 5) (v 6) (v 7) → preD 38 [v 119, v 120, v 124, v 125] := fun q => (show (-400000 ≤ v 119 ∧ v 119 ≤ v 120 ∧ v 120 ≤ 400000) ∧ (-400000 ≤ v 124 ∧ v 124 ≤ v 125 ∧ v 125 ≤ 400000) by
  have := BM q.1
  have := BN q.2
  omega)
 have h12 : v 12 = 1 := e12
 refine ⟨vcs_rev ?_, ?_⟩
 · exact vcs_cons (fun _ => trivial) (vcs_cons (fun _ => trivial) (vcs_cons (fun _ => trivial) (vcs_cons (fun hp => P37 (H20 (pt_true hp).1).1) (vcs_cons (fun hp => P37 (H20 (pt_true (pt_true hp).2).1).2) (vcs_cons (fun hp => F44 (H20 (pt_true (pt_true (pt_true hp).2).2).1)) (vcs_cons (fun hp => G44 (H20 (pt_true (pt_true (pt_true (pt_true hp).2).2).2).1)) (vcs_cons (fun hp => F38 (H20 (pt_true (pt_true (pt_true (pt_true (pt_true hp).2).2).2).2).1)) (vcs_cons (fun _ => trivial) (vcs_cons (fun _ => trivial) (vcs_cons (fun _ => trivial) (vcs_cons (fun hp => P37 (H20 (pt_true hp).1).1) (vcs_cons (fun hp => P37 (H20 (pt_true hp).1).2) (vcs_cons (fun hp => F44 (H20 (pt_true hp).1)) (vcs_cons (fun hp => G44 (H20 (pt_true hp).1)) (vcs_cons (fun hp => F38 (H20 (pt_true hp).1)) (vcs_cons (fun _ => trivial) (vcs_cons (fun _ => trivial) (vcs_cons (fun _ => trivial) (vcs_cons (fun hp => P37 (And.symm (H111 (pt_true hp).1)).2) (vcs_cons (fun hp => P37 (And.symm (H111 (pt_true (pt_true hp).2).1)).1) (vcs_cons (fun hp => F45 (And.symm (H111 (pt_true (pt_true (pt_true hp).2).2).1))) (vcs_cons (fun hp => G45 (And.symm (H111 (pt_true (pt_true (pt_true (pt_true hp).2).2).2).1))) (vcs_cons (fun hp => G38 (And.symm (H111 (pt_true (pt_true (pt_true (pt_true (pt_true hp).2).2).2).2).1))) (vcs_cons (fun _ => trivial) (vcs_cons (fun _ => trivial) (vcs_cons (fun _ => trivial) (vcs_cons (fun hp => P37 (H182 (pt_true hp).1).2) (vcs_cons (fun hp => P37 (H182 (pt_true hp).1).1) (vcs_cons (fun hp => F45 (H182 (pt_true hp).1)) (vcs_cons (fun hp => G45 (H182 (pt_true hp).1)) (vcs_cons (fun hp => G38 (H182 (pt_true hp).1)) (vcs_cons (fun _ => trivial) (vcs_nil)))))))))))))))))))))))))))))))))
 · intro x hx
   have hx' : x = .bool (decide (v 213 ≠ 0)) := hx
   suffices hr : v 213 = 1 by rw [hx', hr]; rfl
   have h202 : v 202 = 1 := by
    rcases b2i_or ⟨_, Q15⟩ with p | p
    · rcases b2i_or ⟨_, Q17⟩ with q | q
      · rcases b2i_or (v := v 51) ⟨_, e51⟩ with z | z
        · exact cm_a3 hs h12 p q z
        · exact cm_a2 hs h12 p q z
      · exact cm_a1 hs h12 p q
    · exact cm_a0 hs h12 p
   rcases b2i_or ⟨_, Q108⟩ with q | q
   · rcases b2i_or ⟨_, Q15⟩ with p | p
     · rcases b2i_or (v := v 135) ⟨_, e135⟩ with z | z
       · exact cm_b3 hs h12 h202 q p z
       · exact cm_b2 hs h12 h202 q p z
     · exact cm_b1 hs h12 h202 q p
   · exact cm_b0 hs h12 h202 q
end Go.Proofs.YtfffpodaabdpfaaGreat
