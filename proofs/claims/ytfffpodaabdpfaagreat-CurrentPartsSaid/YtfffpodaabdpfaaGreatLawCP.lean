/- The law CurrentParts: Components and Compose return what is specified. -/
import Derived.Test.YtfffpodaabdpfaaGreatAwake45
set_option linter.unusedVariables false
set_option linter.unusedSimpArgs false
namespace Go.Proofs.YtfffpodaabdpfaaGreat
open Go.RowKit Alm Sx
def spCP : List Sx.Spec := spAll ++ [sAwake45]
theorem spCP_ok (args : List Int) : ∀ s ∈ spCP, SpecOK Tryz.prog (cxE args) s := by
  intro s hs
  rcases List.mem_append.1 hs with h | h
  · exact spAll_ok args s h
  · rw [List.mem_singleton.1 h]; exact sAwake45_ok args
def nd_cp : List Nd := [
  .arg 0,
  .arg 1,
  .arg 2,
  .arg 3,
  .app 20 0 [],
  .ite (.n 4) (.c 0) (.c 1),
  .ite (.n 5) (.c 0) (.c 1),
  .bin .leq .i64 (.n 0) (.n 1),
  .bin .geq .i64 (.n 0) (.c (-1099511627776)),
  .bin .leq .i64 (.n 0) (.c 1099511627776),
  .ite (.n 8) (.n 9) (.c 0),
  .ite (.n 7) (.n 10) (.c 0),
  .bin .geq .i64 (.n 1) (.c (-1099511627776)),
  .bin .leq .i64 (.n 1) (.c 1099511627776),
  .ite (.n 12) (.n 13) (.c 0),
  .ite (.n 11) (.n 14) (.c 0),
  .ite (.n 15) (.c 0) (.c 1),
  .bin .leq .i64 (.n 2) (.n 3),
  .bin .geq .i64 (.n 2) (.c (-1099511627776)),
  .bin .leq .i64 (.n 2) (.c 1099511627776),
  .ite (.n 18) (.n 19) (.c 0),
  .ite (.n 17) (.n 20) (.c 0),
  .bin .geq .i64 (.n 3) (.c (-1099511627776)),
  .bin .leq .i64 (.n 3) (.c 1099511627776),
  .ite (.n 22) (.n 23) (.c 0),
  .ite (.n 21) (.n 24) (.c 0),
  .bin .geq .i64 (.n 2) (.c 0),
  .ite (.n 25) (.n 26) (.c 0),
  .bin .leq .i64 (.n 3) (.c 400000),
  .ite (.n 27) (.n 28) (.c 0),
  .ite (.n 29) (.c 0) (.c 1),
  .ite (.n 16) (.c 1) (.n 30),
  .ite (.n 31) (.c 0) (.c 1),
  .app 6 0 [.n 0, .n 1],
  .app 6 1 [.n 0, .n 1],
  .app 6 2 [.n 0, .n 1],
  .bin .neq .i64 (.n 35) (.c 0),
  .ite (.n 36) (.c 0) (.c 1),
  .app 5 0 [.n 0, .n 1],
  .app 5 1 [.n 0, .n 1],
  .app 5 2 [.n 0, .n 1],
  .bin .neq .i64 (.n 40) (.c 0),
  .ite (.n 41) (.c 0) (.c 1),
  .app 9 0 [.n 33, .n 34, .n 2],
  .app 9 1 [.n 33, .n 34, .n 2],
  .app 9 2 [.n 33, .n 34, .n 2],
  .bin .neq .i64 (.n 45) (.c 0),
  .ite (.n 46) (.c 0) (.c 1),
  .app 9 0 [.n 33, .n 34, .n 3],
  .app 9 1 [.n 33, .n 34, .n 3],
  .app 9 2 [.n 33, .n 34, .n 3],
  .mn (.n 43) (.n 48),
  .mx (.n 44) (.n 49),
  .ite (.n 46) (.n 45) (.n 50),
  .ite (.n 46) (.c 0) (.n 51),
  .ite (.n 46) (.c 0) (.n 52),
  .bin .neq .i64 (.n 53) (.c 0),
  .ite (.n 56) (.c 0) (.c 1),
  .app 9 0 [.n 38, .n 39, .n 2],
  .app 9 1 [.n 38, .n 39, .n 2],
  .app 9 2 [.n 38, .n 39, .n 2],
  .bin .neq .i64 (.n 60) (.c 0),
  .ite (.n 61) (.c 0) (.c 1),
  .app 9 0 [.n 38, .n 39, .n 3],
  .app 9 1 [.n 38, .n 39, .n 3],
  .app 9 2 [.n 38, .n 39, .n 3],
  .mn (.n 58) (.n 63),
  .mx (.n 59) (.n 64),
  .ite (.n 61) (.n 60) (.n 65),
  .ite (.n 61) (.c 0) (.n 66),
  .ite (.n 61) (.c 0) (.n 67),
  .ite (.n 56) (.n 53) (.n 68),
  .ite (.n 56) (.c 0) (.n 69),
  .ite (.n 56) (.c 0) (.n 70),
  .ite (.n 41) (.n 40) (.n 71),
  .ite (.n 41) (.c 0) (.n 72),
  .ite (.n 41) (.c 0) (.n 73),
  .ite (.n 41) (.c 0) (.n 54),
  .ite (.n 41) (.c 0) (.n 55),
  .ite (.n 36) (.n 35) (.n 74),
  .ite (.n 36) (.c 0) (.n 75),
  .ite (.n 36) (.c 0) (.n 76),
  .ite (.n 36) (.c 0) (.n 77),
  .ite (.n 36) (.c 0) (.n 78),
  .bin .neq .i64 (.n 79) (.c 0),
  .ite (.n 84) (.c 0) (.c 1),
  .ite (.n 84) (.n 79) (.c 0),
  .ite (.n 84) (.c 0) (.n 80),
  .ite (.n 84) (.c 0) (.n 81),
  .ite (.n 84) (.c 0) (.n 82),
  .ite (.n 84) (.c 0) (.n 83),
  .ite (.n 31) (.c 1) (.n 86),
  .ite (.n 31) (.c 0) (.n 87),
  .ite (.n 31) (.c 0) (.n 88),
  .ite (.n 31) (.c 0) (.n 89),
  .ite (.n 31) (.c 0) (.n 90),
  .ite (.n 7) (.n 8) (.c 0),
  .ite (.n 96) (.n 13) (.c 0),
  .ite (.n 97) (.c 0) (.c 1),
  .ite (.n 17) (.n 26) (.c 0),
  .ite (.n 99) (.n 28) (.c 0),
  .ite (.n 100) (.c 0) (.c 1),
  .ite (.n 98) (.c 1) (.n 101),
  .ite (.n 102) (.c 0) (.c 1),
  .bin .lss .i64 (.n 48) (.n 43),
  .ite (.n 104) (.c 0) (.c 1),
  .ite (.n 104) (.n 48) (.n 43),
  .bin .gtr .i64 (.n 49) (.n 44),
  .ite (.n 107) (.c 0) (.c 1),
  .ite (.n 107) (.n 49) (.n 44),
  .bin .lss .i64 (.n 63) (.n 58),
  .ite (.n 110) (.c 0) (.c 1),
  .ite (.n 110) (.n 63) (.n 58),
  .bin .gtr .i64 (.n 64) (.n 59),
  .ite (.n 113) (.c 0) (.c 1),
  .ite (.n 113) (.n 64) (.n 59),
  .ite (.n 102) (.c 0) (.n 112),
  .ite (.n 102) (.c 0) (.n 115),
  .ite (.n 102) (.c 0) (.n 106),
  .ite (.n 102) (.c 0) (.n 109),
  .bin .geq .i64 (.n 0) (.c (-400000)),
  .ite (.n 15) (.n 120) (.c 0),
  .bin .leq .i64 (.n 1) (.c 400000),
  .ite (.n 121) (.n 122) (.c 0),
  .ite (.n 123) (.c 0) (.c 1),
  .bin .geq .i64 (.n 2) (.c (-400000)),
  .ite (.n 25) (.n 125) (.c 0),
  .ite (.n 126) (.n 28) (.c 0),
  .ite (.n 127) (.c 0) (.c 1),
  .ite (.n 124) (.c 1) (.n 128),
  .ite (.n 129) (.c 0) (.c 1),
  .bin .mul .i64 (.c 4096) (.n 0),
  .bin .mul .i64 (.c 4096) (.n 1),
  .bin .mul .i64 (.c 4096) (.n 2),
  .bin .mul .i64 (.c 4096) (.n 3),
  .app 7 0 [.n 133, .n 134, .n 131, .n 132],
  .app 7 1 [.n 133, .n 134, .n 131, .n 132],
  .app 7 2 [.n 133, .n 134, .n 131, .n 132],
  .bin .neq .i64 (.n 137) (.c 0),
  .ite (.n 138) (.c 0) (.c 1),
  .bin .sub .i64 (.c 0) (.n 1),
  .mx (.c 0) (.n 0),
  .mx (.n 141) (.n 140),
  .bin .mul .i64 (.n 142) (.n 142),
  .bin .sub .i64 (.c 0) (.n 3),
  .mx (.c 0) (.n 2),
  .mx (.n 145) (.n 144),
  .bin .mul .i64 (.n 146) (.n 146),
  .bin .add .i64 (.n 143) (.n 147),
  .app 10 0 [.n 148],
  .bin .sub .i64 (.c 0) (.n 0),
  .mx (.n 1) (.n 150),
  .bin .mul .i64 (.n 151) (.n 151),
  .bin .sub .i64 (.c 0) (.n 2),
  .mx (.n 3) (.n 153),
  .bin .mul .i64 (.n 154) (.n 154),
  .bin .add .i64 (.n 152) (.n 155),
  .app 10 0 [.n 156],
  .bin .mul .i64 (.n 157) (.n 157),
  .bin .lss .i64 (.n 158) (.n 156),
  .bin .add .i64 (.n 157) (.c 1),
  .ite (.n 159) (.c 0) (.c 1),
  .ite (.n 159) (.n 160) (.n 157),
  .ite (.n 138) (.n 137) (.c 0),
  .ite (.n 138) (.c 0) (.n 149),
  .ite (.n 138) (.c 0) (.n 162),
  .ite (.n 138) (.c 0) (.n 135),
  .ite (.n 138) (.c 0) (.n 136),
  .ite (.n 129) (.c 1) (.n 163),
  .ite (.n 129) (.c 0) (.n 164),
  .ite (.n 129) (.c 0) (.n 165),
  .ite (.n 129) (.c 0) (.n 166),
  .ite (.n 129) (.c 0) (.n 167),
  .ite (.n 7) (.n 120) (.c 0),
  .ite (.n 173) (.n 122) (.c 0),
  .ite (.n 174) (.c 0) (.c 1),
  .ite (.n 17) (.n 125) (.c 0),
  .ite (.n 176) (.n 28) (.c 0),
  .ite (.n 177) (.c 0) (.c 1),
  .ite (.n 175) (.c 1) (.n 178),
  .ite (.n 179) (.c 0) (.c 1),
  .bin .gtr .i64 (.n 0) (.c 0),
  .ite (.n 181) (.c 0) (.c 1),
  .bin .lss .i64 (.n 1) (.c 0),
  .ite (.n 183) (.c 0) (.c 1),
  .ite (.n 183) (.n 140) (.c 0),
  .ite (.n 181) (.n 0) (.n 185),
  .bin .mul .i64 (.n 186) (.n 186),
  .bin .gtr .i64 (.n 2) (.c 0),
  .ite (.n 188) (.c 0) (.c 1),
  .bin .lss .i64 (.n 3) (.c 0),
  .ite (.n 190) (.c 0) (.c 1),
  .ite (.n 190) (.n 144) (.c 0),
  .ite (.n 188) (.n 2) (.n 192),
  .bin .mul .i64 (.n 193) (.n 193),
  .bin .add .i64 (.n 187) (.n 194),
  .app 10 0 [.n 195],
  .bin .gtr .i64 (.n 150) (.n 1),
  .ite (.n 197) (.c 0) (.c 1),
  .ite (.n 197) (.n 150) (.n 1),
  .bin .mul .i64 (.n 199) (.n 199),
  .bin .gtr .i64 (.n 153) (.n 3),
  .ite (.n 201) (.c 0) (.c 1),
  .ite (.n 201) (.n 153) (.n 3),
  .bin .mul .i64 (.n 203) (.n 203),
  .bin .add .i64 (.n 200) (.n 204),
  .app 10 0 [.n 205],
  .bin .mul .i64 (.n 206) (.n 206),
  .bin .lss .i64 (.n 207) (.n 205),
  .bin .add .i64 (.n 206) (.c 1),
  .ite (.n 208) (.c 0) (.c 1),
  .ite (.n 208) (.n 209) (.n 206),
  .ite (.n 179) (.c 0) (.n 196),
  .ite (.n 179) (.c 0) (.n 211),
  .ite (.n 179) (.c 0) (.n 135),
  .ite (.n 179) (.c 0) (.n 136),
  .bin .eql .i64 (.n 94) (.n 118),
  .bin .eql .i64 (.n 95) (.n 119),
  .ite (.n 216) (.n 217) (.c 0),
  .bin .eql .i64 (.n 92) (.n 116),
  .bin .eql .i64 (.n 93) (.n 117),
  .ite (.n 219) (.n 220) (.c 0),
  .ite (.n 218) (.n 221) (.c 0),
  .bin .eql .i64 (.n 91) (.n 102),
  .ite (.n 222) (.n 223) (.c 0),
  .bin .eql .i64 (.n 171) (.n 214),
  .bin .eql .i64 (.n 172) (.n 215),
  .ite (.n 225) (.n 226) (.c 0),
  .ite (.n 224) (.n 227) (.c 0),
  .bin .eql .i64 (.n 169) (.n 212),
  .bin .eql .i64 (.n 170) (.n 213),
  .ite (.n 229) (.n 230) (.c 0),
  .ite (.n 228) (.n 231) (.c 0),
  .bin .eql .i64 (.n 168) (.n 179),
  .ite (.n 232) (.n 233) (.c 0),
  .ite (.n 5) (.c 0) (.n 234)]
def vc_cp : List Vc := [
  ⟨[], .pre 20 []⟩,
  ⟨[(.n 32, true), (.n 6, true)], .pre 6 [.n 0, .n 1]⟩,
  ⟨[(.n 37, true), (.n 32, true), (.n 6, true)], .pre 5 [.n 0, .n 1]⟩,
  ⟨[(.n 42, true), (.n 37, true), (.n 32, true), (.n 6, true)], .pre 9 [.n 33, .n 34, .n 2]⟩,
  ⟨[(.n 47, true), (.n 42, true), (.n 37, true), (.n 32, true), (.n 6, true)], .pre 9 [.n 33, .n 34, .n 3]⟩,
  ⟨[(.n 57, true), (.n 42, true), (.n 37, true), (.n 32, true), (.n 6, true)], .pre 9 [.n 38, .n 39, .n 2]⟩,
  ⟨[(.n 62, true), (.n 57, true), (.n 42, true), (.n 37, true), (.n 32, true), (.n 6, true)], .pre 9 [.n 38, .n 39, .n 3]⟩,
  ⟨[(.n 103, true), (.n 6, true)], .pre 6 [.n 0, .n 1]⟩,
  ⟨[(.n 103, true), (.n 6, true)], .pre 9 [.n 33, .n 34, .n 2]⟩,
  ⟨[(.n 103, true), (.n 6, true)], .pre 9 [.n 33, .n 34, .n 3]⟩,
  ⟨[(.n 103, true), (.n 6, true)], .pre 5 [.n 0, .n 1]⟩,
  ⟨[(.n 103, true), (.n 6, true)], .pre 9 [.n 38, .n 39, .n 2]⟩,
  ⟨[(.n 103, true), (.n 6, true)], .pre 9 [.n 38, .n 39, .n 3]⟩,
  ⟨[(.n 130, true), (.n 6, true)], .pre 7 [.n 133, .n 134, .n 131, .n 132]⟩,
  ⟨[(.n 139, true), (.n 130, true), (.n 6, true)], .pre 10 [.n 148]⟩,
  ⟨[(.n 139, true), (.n 130, true), (.n 6, true)], .pre 10 [.n 156]⟩,
  ⟨[(.n 180, true), (.n 6, true)], .pre 7 [.n 133, .n 134, .n 131, .n 132]⟩,
  ⟨[(.n 180, true), (.n 6, true)], .pre 10 [.n 195]⟩,
  ⟨[(.n 180, true), (.n 6, true)], .pre 10 [.n 205]⟩]
theorem wh_cp : whole Tryz.prog spCP 20 40 10 [(true, [some .i64, some .i64]), (true, [some .i64, some .i64])] = some (.p (.c (.bool (.n 235))), ⟨nd_cp.reverse, vc_cp.reverse⟩) := by kernel_rfl
theorem wf_cp : wfN nd_cp.reverse = true := by kernel_rfl
set_option maxRecDepth 100000 in
theorem cp_a0 {ar : List Int} {v : Nat → Int} (hs : SatN (cxE ar) v nd_cp.reverse) (P4 : v 4 = 1) (P15 : v 15 = 0) (P97 : v 97 = 0) : v 224 = 1 :=
  norm_val (X := cxE ar) (v := v) (l := nd_cp) (extE_ok _) hs (k := 224) (r := .c 1) (ps := [(4, .c 1), (15, .c 0), (97, .c 0)]) (nz := []) (ps_cons P4 (ps_cons P15 (ps_cons P97 ps_nil))) nz_nil (by kernel_rfl)
set_option maxRecDepth 100000 in
theorem cp_a1 {ar : List Int} {v : Nat → Int} (hs : SatN (cxE ar) v nd_cp.reverse) (P4 : v 4 = 1) (P15 : v 15 = 1) (P97 : v 97 = 1) (P29 : v 29 = 0) (P100 : v 100 = 0) : v 224 = 1 :=
  norm_val (X := cxE ar) (v := v) (l := nd_cp) (extE_ok _) hs (k := 224) (r := .c 1) (ps := [(4, .c 1), (15, .c 1), (97, .c 1), (29, .c 0), (100, .c 0)]) (nz := []) (ps_cons P4 (ps_cons P15 (ps_cons P97 (ps_cons P29 (ps_cons P100 ps_nil))))) nz_nil (by kernel_rfl)
set_option maxRecDepth 100000 in
theorem cp_a2 {ar : List Int} {v : Nat → Int} (hs : SatN (cxE ar) v nd_cp.reverse) (P4 : v 4 = 1) (P15 : v 15 = 1) (P97 : v 97 = 1) (P29 : v 29 = 1) (P100 : v 100 = 1) : v 224 = 1 :=
  norm_val (X := cxE ar) (v := v) (l := nd_cp) (extE_ok _) hs (k := 224) (r := .c 1) (ps := [(4, .c 1), (15, .c 1), (97, .c 1), (29, .c 1), (100, .c 1)]) (nz := []) (ps_cons P4 (ps_cons P15 (ps_cons P97 (ps_cons P29 (ps_cons P100 ps_nil))))) nz_nil (by kernel_rfl)
set_option maxRecDepth 100000 in
theorem cp_b0 {ar : List Int} {v : Nat → Int} (hs : SatN (cxE ar) v nd_cp.reverse) (P4 : v 4 = 1) (P224 : v 224 = 1) (P123 : v 123 = 0) (P174 : v 174 = 0) : v 235 = 1 :=
  norm_val (X := cxE ar) (v := v) (l := nd_cp) (extE_ok _) hs (k := 235) (r := .c 1) (ps := [(4, .c 1), (224, .c 1), (123, .c 0), (174, .c 0)]) (nz := []) (ps_cons P4 (ps_cons P224 (ps_cons P123 (ps_cons P174 ps_nil)))) nz_nil (by kernel_rfl)
set_option maxRecDepth 100000 in
theorem cp_b1 {ar : List Int} {v : Nat → Int} (hs : SatN (cxE ar) v nd_cp.reverse) (P4 : v 4 = 1) (P224 : v 224 = 1) (P123 : v 123 = 1) (P174 : v 174 = 1) (P127 : v 127 = 0) (P177 : v 177 = 0) : v 235 = 1 :=
  norm_val (X := cxE ar) (v := v) (l := nd_cp) (extE_ok _) hs (k := 235) (r := .c 1) (ps := [(4, .c 1), (224, .c 1), (123, .c 1), (174, .c 1), (127, .c 0), (177, .c 0)]) (nz := []) (ps_cons P4 (ps_cons P224 (ps_cons P123 (ps_cons P174 (ps_cons P127 (ps_cons P177 ps_nil)))))) nz_nil (by kernel_rfl)
set_option maxRecDepth 100000 in
theorem cp_b2 {ar : List Int} {v : Nat → Int} (hs : SatN (cxE ar) v nd_cp.reverse) (P4 : v 4 = 1) (P224 : v 224 = 1) (P123 : v 123 = 1) (P174 : v 174 = 1) (P127 : v 127 = 1) (P177 : v 177 = 1) (L186 : v 186 = v 142) (L193 : v 193 = v 146) : v 235 = 1 :=
  norm_val (X := cxE ar) (v := v) (l := nd_cp) (extE_ok _) hs (k := 235) (r := .c 1) (ps := [(4, .c 1), (224, .c 1), (123, .c 1), (174, .c 1), (127, .c 1), (177, .c 1), (186, .n 142), (193, .n 146)]) (nz := []) (ps_cons P4 (ps_cons P224 (ps_cons P123 (ps_cons P174 (ps_cons P127 (ps_cons P177 (ps_cons L186 (ps_cons L193 ps_nil)))))))) nz_nil (by kernel_rfl)
theorem least_node {a b : Int} (h : a ≤ b) (hb : -400000 ≤ a ∧ b ≤ 400000) {x y z : Int} (h1 : x = IntKind.i64.wrap (0 - b)) (h2 : y = if a > 0 then a else 0) (h3 : z = if x > y then x else y) {q u g l : Int} (g1 : g = b2i (decide (a > 0))) (l1 : l = b2i (decide (b < 0))) (q1 : q = if l ≠ 0 then x else 0) (u1 : u = if g ≠ 0 then a else q) : u = z := by
  have w : x = -b := by rw [h1, IntWalk.i64_in _ (by omega)]; omega
  rw [u1, q1, g1, l1, b2i_dec, b2i_dec, h3, h2, w]
  repeat' split
  all_goals omega
set_option maxRecDepth 100000 in
set_option maxHeartbeats 40000000 in
theorem c_lawCP (a1 a2 b1 b2 : Int) (w : World) : Calls Tryz.prog 10 #[.agg #[.int .i64 a1, .int .i64 a2], .agg #[.int .i64 b1, .int .i64 b2]] w fun e w' => e = .returned (.bool true) ∧ Below w.heap.size w w' := by
  refine Sx.calls (X := cxE [a1, a2, b1, b2]) hmix (spCP_ok _) wh_cp wf_cp (fun v hs => ?_) w
  have e4 : v 4 = (semE 20 []).getD 0 0 := satF hs 4 rfl
  have e7 : v 7 = b2i (decide (v 0 ≤ v 1)) := satF hs 7 rfl
  have e8 : v 8 = b2i (decide (v 0 ≥ (-1099511627776 : Int))) := satF hs 8 rfl
  have e9 : v 9 = b2i (decide (v 0 ≤ (1099511627776 : Int))) := satF hs 9 rfl
  have e10 : v 10 = if v 8 ≠ 0 then v 9 else (0 : Int) := satF hs 10 rfl
  have e11 : v 11 = if v 7 ≠ 0 then v 10 else (0 : Int) := satF hs 11 rfl
  have e12 : v 12 = b2i (decide (v 1 ≥ (-1099511627776 : Int))) := satF hs 12 rfl
  have e13 : v 13 = b2i (decide (v 1 ≤ (1099511627776 : Int))) := satF hs 13 rfl
  have e14 : v 14 = if v 12 ≠ 0 then v 13 else (0 : Int) := satF hs 14 rfl
  have e15 : v 15 = if v 11 ≠ 0 then v 14 else (0 : Int) := satF hs 15 rfl
  have e16 : v 16 = if v 15 ≠ 0 then (0 : Int) else (1 : Int) := satF hs 16 rfl
  have e17 : v 17 = b2i (decide (v 2 ≤ v 3)) := satF hs 17 rfl
  have e18 : v 18 = b2i (decide (v 2 ≥ (-1099511627776 : Int))) := satF hs 18 rfl
  have e19 : v 19 = b2i (decide (v 2 ≤ (1099511627776 : Int))) := satF hs 19 rfl
  have e20 : v 20 = if v 18 ≠ 0 then v 19 else (0 : Int) := satF hs 20 rfl
  have e21 : v 21 = if v 17 ≠ 0 then v 20 else (0 : Int) := satF hs 21 rfl
  have e22 : v 22 = b2i (decide (v 3 ≥ (-1099511627776 : Int))) := satF hs 22 rfl
  have e23 : v 23 = b2i (decide (v 3 ≤ (1099511627776 : Int))) := satF hs 23 rfl
  have e24 : v 24 = if v 22 ≠ 0 then v 23 else (0 : Int) := satF hs 24 rfl
  have e25 : v 25 = if v 21 ≠ 0 then v 24 else (0 : Int) := satF hs 25 rfl
  have e26 : v 26 = b2i (decide (v 2 ≥ (0 : Int))) := satF hs 26 rfl
  have e27 : v 27 = if v 25 ≠ 0 then v 26 else (0 : Int) := satF hs 27 rfl
  have e28 : v 28 = b2i (decide (v 3 ≤ (400000 : Int))) := satF hs 28 rfl
  have e29 : v 29 = if v 27 ≠ 0 then v 28 else (0 : Int) := satF hs 29 rfl
  have e30 : v 30 = if v 29 ≠ 0 then (0 : Int) else (1 : Int) := satF hs 30 rfl
  have e31 : v 31 = if v 16 ≠ 0 then (1 : Int) else v 30 := satF hs 31 rfl
  have e32 : v 32 = if v 31 ≠ 0 then (0 : Int) else (1 : Int) := satF hs 32 rfl
  have e33 : v 33 = (semE 6 [v 0, v 1]).getD 0 0 := satF hs 33 rfl
  have e34 : v 34 = (semE 6 [v 0, v 1]).getD 1 0 := satF hs 34 rfl
  have e38 : v 38 = (semE 5 [v 0, v 1]).getD 0 0 := satF hs 38 rfl
  have e39 : v 39 = (semE 5 [v 0, v 1]).getD 1 0 := satF hs 39 rfl
  have e96 : v 96 = if v 7 ≠ 0 then v 8 else (0 : Int) := satF hs 96 rfl
  have e97 : v 97 = if v 96 ≠ 0 then v 13 else (0 : Int) := satF hs 97 rfl
  have e98 : v 98 = if v 97 ≠ 0 then (0 : Int) else (1 : Int) := satF hs 98 rfl
  have e99 : v 99 = if v 17 ≠ 0 then v 26 else (0 : Int) := satF hs 99 rfl
  have e100 : v 100 = if v 99 ≠ 0 then v 28 else (0 : Int) := satF hs 100 rfl
  have e101 : v 101 = if v 100 ≠ 0 then (0 : Int) else (1 : Int) := satF hs 101 rfl
  have e102 : v 102 = if v 98 ≠ 0 then (1 : Int) else v 101 := satF hs 102 rfl
  have e103 : v 103 = if v 102 ≠ 0 then (0 : Int) else (1 : Int) := satF hs 103 rfl
  have e120 : v 120 = b2i (decide (v 0 ≥ (-400000 : Int))) := satF hs 120 rfl
  have e121 : v 121 = if v 15 ≠ 0 then v 120 else (0 : Int) := satF hs 121 rfl
  have e122 : v 122 = b2i (decide (v 1 ≤ (400000 : Int))) := satF hs 122 rfl
  have e123 : v 123 = if v 121 ≠ 0 then v 122 else (0 : Int) := satF hs 123 rfl
  have e124 : v 124 = if v 123 ≠ 0 then (0 : Int) else (1 : Int) := satF hs 124 rfl
  have e125 : v 125 = b2i (decide (v 2 ≥ (-400000 : Int))) := satF hs 125 rfl
  have e126 : v 126 = if v 25 ≠ 0 then v 125 else (0 : Int) := satF hs 126 rfl
  have e127 : v 127 = if v 126 ≠ 0 then v 28 else (0 : Int) := satF hs 127 rfl
  have e128 : v 128 = if v 127 ≠ 0 then (0 : Int) else (1 : Int) := satF hs 128 rfl
  have e129 : v 129 = if v 124 ≠ 0 then (1 : Int) else v 128 := satF hs 129 rfl
  have e130 : v 130 = if v 129 ≠ 0 then (0 : Int) else (1 : Int) := satF hs 130 rfl
  have e131 : v 131 = IntKind.i64.wrap ((4096 : Int) * v 0) := satF hs 131 rfl
  have e132 : v 132 = IntKind.i64.wrap ((4096 : Int) * v 1) := satF hs 132 rfl
  have e133 : v 133 = IntKind.i64.wrap ((4096 : Int) * v 2) := satF hs 133 rfl
  have e134 : v 134 = IntKind.i64.wrap ((4096 : Int) * v 3) := satF hs 134 rfl
  have e140 : v 140 = IntKind.i64.wrap ((0 : Int) - v 1) := satF hs 140 rfl
  have e141 : v 141 = if v 0 > (0 : Int) then v 0 else (0 : Int) := satF hs 141 rfl
  have e142 : v 142 = if v 140 > v 141 then v 140 else v 141 := satF hs 142 rfl
  have e143 : v 143 = IntKind.i64.wrap (v 142 * v 142) := satF hs 143 rfl
  have e144 : v 144 = IntKind.i64.wrap ((0 : Int) - v 3) := satF hs 144 rfl
  have e145 : v 145 = if v 2 > (0 : Int) then v 2 else (0 : Int) := satF hs 145 rfl
  have e146 : v 146 = if v 144 > v 145 then v 144 else v 145 := satF hs 146 rfl
  have e147 : v 147 = IntKind.i64.wrap (v 146 * v 146) := satF hs 147 rfl
  have e148 : v 148 = IntKind.i64.wrap (v 143 + v 147) := satF hs 148 rfl
  have e150 : v 150 = IntKind.i64.wrap ((0 : Int) - v 0) := satF hs 150 rfl
  have e151 : v 151 = if v 150 > v 1 then v 150 else v 1 := satF hs 151 rfl
  have e152 : v 152 = IntKind.i64.wrap (v 151 * v 151) := satF hs 152 rfl
  have e153 : v 153 = IntKind.i64.wrap ((0 : Int) - v 2) := satF hs 153 rfl
  have e154 : v 154 = if v 153 > v 3 then v 153 else v 3 := satF hs 154 rfl
  have e155 : v 155 = IntKind.i64.wrap (v 154 * v 154) := satF hs 155 rfl
  have e156 : v 156 = IntKind.i64.wrap (v 152 + v 155) := satF hs 156 rfl
  have e173 : v 173 = if v 7 ≠ 0 then v 120 else (0 : Int) := satF hs 173 rfl
  have e174 : v 174 = if v 173 ≠ 0 then v 122 else (0 : Int) := satF hs 174 rfl
  have e175 : v 175 = if v 174 ≠ 0 then (0 : Int) else (1 : Int) := satF hs 175 rfl
  have e176 : v 176 = if v 17 ≠ 0 then v 125 else (0 : Int) := satF hs 176 rfl
  have e177 : v 177 = if v 176 ≠ 0 then v 28 else (0 : Int) := satF hs 177 rfl
  have e178 : v 178 = if v 177 ≠ 0 then (0 : Int) else (1 : Int) := satF hs 178 rfl
  have e179 : v 179 = if v 175 ≠ 0 then (1 : Int) else v 178 := satF hs 179 rfl
  have e180 : v 180 = if v 179 ≠ 0 then (0 : Int) else (1 : Int) := satF hs 180 rfl
  have e181 : v 181 = b2i (decide (v 0 > (0 : Int))) := satF hs 181 rfl
  have e183 : v 183 = b2i (decide (v 1 < (0 : Int))) := satF hs 183 rfl
  have e185 : v 185 = if v 183 ≠ 0 then v 140 else (0 : Int) := satF hs 185 rfl
  have e186 : v 186 = if v 181 ≠ 0 then v 0 else v 185 := satF hs 186 rfl
  have e187 : v 187 = IntKind.i64.wrap (v 186 * v 186) := satF hs 187 rfl
  have e188 : v 188 = b2i (decide (v 2 > (0 : Int))) := satF hs 188 rfl
  have e190 : v 190 = b2i (decide (v 3 < (0 : Int))) := satF hs 190 rfl
  have e192 : v 192 = if v 190 ≠ 0 then v 144 else (0 : Int) := satF hs 192 rfl
  have e193 : v 193 = if v 188 ≠ 0 then v 2 else v 192 := satF hs 193 rfl
  have e194 : v 194 = IntKind.i64.wrap (v 193 * v 193) := satF hs 194 rfl
  have e195 : v 195 = IntKind.i64.wrap (v 187 + v 194) := satF hs 195 rfl
  have e197 : v 197 = b2i (decide (v 150 > v 1)) := satF hs 197 rfl
  have e199 : v 199 = if v 197 ≠ 0 then v 150 else v 1 := satF hs 199 rfl
  have e200 : v 200 = IntKind.i64.wrap (v 199 * v 199) := satF hs 200 rfl
  have e201 : v 201 = b2i (decide (v 153 > v 3)) := satF hs 201 rfl
  have e203 : v 203 = if v 201 ≠ 0 then v 153 else v 3 := satF hs 203 rfl
  have e204 : v 204 = IntKind.i64.wrap (v 203 * v 203) := satF hs 204 rfl
  have e205 : v 205 = IntKind.i64.wrap (v 200 + v 204) := satF hs 205 rfl
  have Q15 : v 15 = b2i (arcV (v 0) (v 1)) := by rw [e15, e11, e7, e10, e8, e9, e14, e12, e13]; exact arc_prog _ _
  have Q97 : v 97 = b2i (arcV (v 0) (v 1)) := by rw [e97, e96, e7, e8, e13]; exact arc_ref _ _
  have Q25 : v 25 = b2i (arcV (v 2) (v 3)) := by rw [e25, e21, e17, e20, e18, e19, e24, e22, e23]; exact arc_prog _ _
  have bb : ∀ (p q : Prop) [Decidable p] [Decidable q], (if b2i (decide p) ≠ 0 then b2i (decide q) else 0) = b2i (decide (p ∧ q)) := by
    intro p q _ _; by_cases h1 : p <;> by_cases h2 : q <;> simp [b2i, h1, h2]
  have ab : ∀ (b : Bool) (q : Prop) [Decidable q], (if b2i b ≠ 0 then b2i (decide q) else 0) = b2i (decide (b = true ∧ q)) := by
    intro b q _; cases b <;> by_cases h2 : q <;> simp [b2i, h2]
  have Q29 : v 29 = b2i (decide (0 ≤ v 2 ∧ v 2 ≤ v 3 ∧ v 3 ≤ 400000)) := by
    rw [e29, e27, Q25, e26, e28, ab, bb]
    exact congrArg b2i (decide_eq_decide.2 (by rw [arcV_iff]; omega))
  have Q100 : v 100 = b2i (decide (0 ≤ v 2 ∧ v 2 ≤ v 3 ∧ v 3 ≤ 400000)) := by
    rw [e100, e99, e17, e26, e28, bb, bb]
    exact congrArg b2i (decide_eq_decide.2 (by omega))
  have Q123 : v 123 = b2i (decide (-400000 ≤ v 0 ∧ v 0 ≤ v 1 ∧ v 1 ≤ 400000)) := by
    rw [e123, e121, Q15, e120, e122, ab, bb]
    exact congrArg b2i (decide_eq_decide.2 (by rw [arcV_iff]; omega))
  have Q174 : v 174 = b2i (decide (-400000 ≤ v 0 ∧ v 0 ≤ v 1 ∧ v 1 ≤ 400000)) := by
    rw [e174, e173, e7, e120, e122, bb, bb]
    exact congrArg b2i (decide_eq_decide.2 (by omega))
  have Q127 : v 127 = b2i (decide (-400000 ≤ v 2 ∧ v 2 ≤ v 3 ∧ v 3 ≤ 400000)) := by
    rw [e127, e126, Q25, e125, e28, ab, bb]
    exact congrArg b2i (decide_eq_decide.2 (by rw [arcV_iff]; omega))
  have Q177 : v 177 = b2i (decide (-400000 ≤ v 2 ∧ v 2 ≤ v 3 ∧ v 3 ≤ 400000)) := by
    rw [e177, e176, e17, e125, e28, bb, bb]
    exact congrArg b2i (decide_eq_decide.2 (by omega))
  have sw : ∀ a b : Bool, (if (if (if b2i a ≠ 0 then (0 : Int) else 1) ≠ 0 then (1 : Int) else (if b2i b ≠ 0 then (0 : Int) else 1)) ≠ 0 then (0 : Int) else 1) = b2i (a && b) := by
    intro a b; cases a <;> cases b <;> rfl
  have H32 : v 32 ≠ 0 → arcV (v 0) (v 1) = true ∧ 0 ≤ v 2 ∧ v 2 ≤ v 3 ∧ v 3 ≤ 400000 := by
    rw [e32, e31, e16, e30, Q15, Q29, sw, b2i_iff, Bool.and_eq_true]
    exact fun h => ⟨h.1, of_decide_eq_true h.2⟩
  have H103 : v 103 ≠ 0 → arcV (v 0) (v 1) = true ∧ 0 ≤ v 2 ∧ v 2 ≤ v 3 ∧ v 3 ≤ 400000 := by
    rw [e103, e102, e98, e101, Q97, Q100, sw, b2i_iff, Bool.and_eq_true]
    exact fun h => ⟨h.1, of_decide_eq_true h.2⟩
  have H130 : v 130 ≠ 0 → (-400000 ≤ v 0 ∧ v 0 ≤ v 1 ∧ v 1 ≤ 400000) ∧ (-400000 ≤ v 2 ∧ v 2 ≤ v 3 ∧ v 3 ≤ 400000) := by
    rw [e130, e129, e124, e128, Q123, Q127, sw, b2i_iff, Bool.and_eq_true]
    exact fun h => ⟨of_decide_eq_true h.1, of_decide_eq_true h.2⟩
  have H180 : v 180 ≠ 0 → (-400000 ≤ v 0 ∧ v 0 ≤ v 1 ∧ v 1 ≤ 400000) ∧ (-400000 ≤ v 2 ∧ v 2 ≤ v 3 ∧ v 3 ≤ 400000) := by
    rw [e180, e179, e175, e178, Q174, Q177, sw, b2i_iff, Bool.and_eq_true]
    exact fun h => ⟨of_decide_eq_true h.1, of_decide_eq_true h.2⟩
  have L186 : (-400000 ≤ v 0 ∧ v 0 ≤ v 1 ∧ v 1 ≤ 400000) → v 186 = v 142 := fun h => least_node h.2.1 ⟨h.1, h.2.2⟩ e140 e141 e142 e181 e183 e185 e186
  have L193 : (-400000 ≤ v 2 ∧ v 2 ≤ v 3 ∧ v 3 ≤ 400000) → v 193 = v 146 := fun h => least_node h.2.1 ⟨h.1, h.2.2⟩ e144 e145 e146 e188 e190 e192 e193
  have fx4 : ∀ {a b x y : Int}, (-400000 ≤ a ∧ a ≤ b ∧ b ≤ 400000) → x = IntKind.i64.wrap (4096 * a) → y = IntKind.i64.wrap (4096 * b) → fxV x y = true := by
    intro a b x y h hx hy
    rw [hx, hy, IntWalk.i64_in _ (by omega), IntWalk.i64_in _ (by omega), fxV_iff]; omega
  have sqb : ∀ {m s : Int}, 0 ≤ m → m ≤ 400000 → s = IntKind.i64.wrap (m * m) → 0 ≤ s ∧ s ≤ 160000000000 := by
    intro m s h0 h1 hs'
    have := Int.mul_le_mul h1 h1 h0 (by omega)
    have := Int.mul_nonneg h0 h0
    rw [hs', IntWalk.i64_in _ (by omega)]; omega
  have r140 : (-400000 ≤ v 0 ∧ v 0 ≤ v 1 ∧ v 1 ≤ 400000) → v 140 = -(v 1) ∧ v 150 = -(v 0) := fun h => ⟨by rw [e140, IntWalk.i64_in _ (by omega)]; omega, by rw [e150, IntWalk.i64_in _ (by omega)]; omega⟩
  have r144 : (-400000 ≤ v 2 ∧ v 2 ≤ v 3 ∧ v 3 ≤ 400000) → v 144 = -(v 3) ∧ v 153 = -(v 2) := fun h => ⟨by rw [e144, IntWalk.i64_in _ (by omega)]; omega, by rw [e153, IntWalk.i64_in _ (by omega)]; omega⟩
  have b142 : (-400000 ≤ v 0 ∧ v 0 ≤ v 1 ∧ v 1 ≤ 400000) → (0 ≤ v 142 ∧ v 142 ≤ 400000) ∧ (0 ≤ v 151 ∧ v 151 ≤ 400000) := by
    intro h
    have := r140 h
    rw [e142, e141, e151]
    constructor <;> (repeat' split) <;> omega
  have b146 : (-400000 ≤ v 2 ∧ v 2 ≤ v 3 ∧ v 3 ≤ 400000) → (0 ≤ v 146 ∧ v 146 ≤ 400000) ∧ (0 ≤ v 154 ∧ v 154 ≤ 400000) := by
    intro h
    have := r144 h
    rw [e146, e145, e154]
    constructor <;> (repeat' split) <;> omega
  have R148 : (-400000 ≤ v 0 ∧ v 0 ≤ v 1 ∧ v 1 ≤ 400000) → (-400000 ≤ v 2 ∧ v 2 ≤ v 3 ∧ v 3 ≤ 400000) → (0 ≤ v 148 ∧ v 148 < 4398046511104) ∧ (0 ≤ v 156 ∧ v 156 < 4398046511104) := by
    intro h h'
    have c1 := b142 h
    have c2 := b146 h'
    have s1 := sqb c1.1.1 c1.1.2 e143
    have s2 := sqb c2.1.1 c2.1.2 e147
    have s3 := sqb c1.2.1 c1.2.2 e152
    have s4 := sqb c2.2.1 c2.2.2 e155
    rw [e148, e156, IntWalk.i64_in _ (by omega), IntWalk.i64_in _ (by omega)]
    omega
  have R195 : (-400000 ≤ v 0 ∧ v 0 ≤ v 1 ∧ v 1 ≤ 400000) → (-400000 ≤ v 2 ∧ v 2 ≤ v 3 ∧ v 3 ≤ 400000) → v 195 = v 148 ∧ v 205 = v 156 := by
    intro h h'
    have c1 := r140 h
    have c2 := r144 h'
    have m1 : v 199 = v 151 := by rw [e199, e197, e151, b2i_dec]
    have m2 : v 203 = v 154 := by rw [e203, e201, e154, b2i_dec]
    exact ⟨by rw [e195, e187, e194, L186 h, L193 h', e148, e143, e147], by rw [e205, e200, e204, m1, m2, e156, e152, e155]⟩
  have h4 : v 4 = 1 := e4
  have fac : ∀ {n : Int}, 0 ≤ n → n ≤ 400000 → factB n = true := by
    intro n h0 h1; unfold factB; exact decide_eq_true (by omega)
  have F6 : fxV (v 33) (v 34) = true := by rw [e33, e34]; exact sem_fitV6 _ _
  have F5 : fxV (v 38) (v 39) = true := by rw [e38, e39]; exact sem_fitV5 _ _
  refine ⟨checkE_ok hs (fs := [((.n 130, true), (.n 133, .n 134)), ((.n 130, true), (.n 131, .n 132)), ((.n 180, true), (.n 133, .n 134)), ((.n 180, true), (.n 131, .n 132))]) (rs := [((.n 32, true), (.n 0, .n 1)), ((.n 103, true), (.n 0, .n 1))]) (ff := [((.n 32, true), (9, [.n 33, .n 34, .n 2])), ((.n 32, true), (9, [.n 33, .n 34, .n 3])), ((.n 32, true), (9, [.n 38, .n 39, .n 2])), ((.n 32, true), (9, [.n 38, .n 39, .n 3])), ((.n 103, true), (9, [.n 33, .n 34, .n 2])), ((.n 103, true), (9, [.n 33, .n 34, .n 3])), ((.n 103, true), (9, [.n 38, .n 39, .n 2])), ((.n 103, true), (9, [.n 38, .n 39, .n 3])), ((.n 130, true), (10, [.n 148])), ((.n 130, true), (10, [.n 156])), ((.n 180, true), (10, [.n 195])), ((.n 180, true), (10, [.n 156]))]) ?_ ?_ ?_ (by kernel_rfl), ?_⟩
  · intro e he
    simp only [List.mem_cons, List.not_mem_nil, or_false] at he
    rcases he with rfl | rfl | rfl | rfl <;> intro hq <;> have hq := of_decide_eq_true hq
    · exact fx4 (H130 hq).2 e133 e134
    · exact fx4 (H130 hq).1 e131 e132
    · exact fx4 (H180 hq).2 e133 e134
    · exact fx4 (H180 hq).1 e131 e132
  · intro e he
    simp only [List.mem_cons, List.not_mem_nil, or_false] at he
    rcases he with rfl | rfl <;> intro hq <;> have hq := of_decide_eq_true hq
    · exact (H32 hq).1
    · exact (H103 hq).1
  · intro e he
    simp only [List.mem_cons, List.not_mem_nil, or_false] at he
    rcases he with rfl | rfl | rfl | rfl | rfl | rfl | rfl | rfl | rfl | rfl | rfl | rfl <;> intro hq <;> have hq := of_decide_eq_true hq
    · exact ⟨F6, fac (by have := (H32 hq).2; simp only [Rf.val]; omega) (by have := (H32 hq).2; simp only [Rf.val]; omega)⟩
    · exact ⟨F6, fac (by have := (H32 hq).2; simp only [Rf.val]; omega) (by have := (H32 hq).2; simp only [Rf.val]; omega)⟩
    · exact ⟨F5, fac (by have := (H32 hq).2; simp only [Rf.val]; omega) (by have := (H32 hq).2; simp only [Rf.val]; omega)⟩
    · exact ⟨F5, fac (by have := (H32 hq).2; simp only [Rf.val]; omega) (by have := (H32 hq).2; simp only [Rf.val]; omega)⟩
    · exact ⟨F6, fac (by have := (H103 hq).2; simp only [Rf.val]; omega) (by have := (H103 hq).2; simp only [Rf.val]; omega)⟩
    · exact ⟨F6, fac (by have := (H103 hq).2; simp only [Rf.val]; omega) (by have := (H103 hq).2; simp only [Rf.val]; omega)⟩
    · exact ⟨F5, fac (by have := (H103 hq).2; simp only [Rf.val]; omega) (by have := (H103 hq).2; simp only [Rf.val]; omega)⟩
    · exact ⟨F5, fac (by have := (H103 hq).2; simp only [Rf.val]; omega) (by have := (H103 hq).2; simp only [Rf.val]; omega)⟩
    · exact (R148 (H130 hq).1 (H130 hq).2).1
    · exact (R148 (H130 hq).1 (H130 hq).2).2
    · have z := R195 (H180 hq).1 (H180 hq).2
      have y := R148 (H180 hq).1 (H180 hq).2
      rw [← z.1, ← z.2] at y
      exact y.1
    · exact (R148 (H180 hq).1 (H180 hq).2).2
  · intro x hx
    have hx' : x = .bool (decide (v 235 ≠ 0)) := hx
    suffices hr : v 235 = 1 by rw [hx', hr]; rfl
    have h224 : v 224 = 1 := by
      rcases Bool.eq_false_or_eq_true (arcV (v 0) (v 1)) with q | q
      · rw [q] at Q15 Q97
        by_cases z : 0 ≤ v 2 ∧ v 2 ≤ v 3 ∧ v 3 ≤ 400000
        · rw [decide_eq_true z] at Q29 Q100
          exact cp_a2 hs h4 Q15 Q97 Q29 Q100
        · rw [decide_eq_false z] at Q29 Q100
          exact cp_a1 hs h4 Q15 Q97 Q29 Q100
      · rw [q] at Q15 Q97
        exact cp_a0 hs h4 Q15 Q97
    by_cases y : -400000 ≤ v 0 ∧ v 0 ≤ v 1 ∧ v 1 ≤ 400000
    · rw [decide_eq_true y] at Q123 Q174
      by_cases z : -400000 ≤ v 2 ∧ v 2 ≤ v 3 ∧ v 3 ≤ 400000
      · rw [decide_eq_true z] at Q127 Q177
        exact cp_b2 hs h4 h224 Q123 Q174 Q127 Q177 (L186 y) (L193 z)
      · rw [decide_eq_false z] at Q127 Q177
        exact cp_b1 hs h4 h224 Q123 Q174 Q127 Q177
    · rw [decide_eq_false y] at Q123 Q174
      exact cp_b0 hs h4 h224 Q123 Q174
end Go.Proofs.YtfffpodaabdpfaaGreat
