/- The law of sums: whatever the legs are. -/
import Derived.Test.YtlloiallkcfomaaSumL3
import Derived.Test.YtlloiallkcfomaaSumL4
set_option linter.unusedVariables false
namespace Go.Proofs.Ytlloiallkcfomaa
open Go.RowKit Alm
theorem sums_law (a : Option Addr) (cap : Nat) (L : List Leg4) (cut : Int) (w : World) (hL : Legs w a L) (hl : L.length ≤ cap) (hm : cap ≤ 9223372036854775807) (hnil : a = none → L.length = 0 ∧ cap = 0) (h0 : 0 ≤ cut) (h1 : cut ≤ 255) :
    Calls Try.prog 4 #[.slice a L.length cap, .int .u8 cut] w fun e w' => e = .returned (.bool true) ∧ Below w.heap.size w w' := by
  by_cases hn : 20 < L.length
  · exact sums_long a cap L.length cut w hn
  · cases hs : L.all Leg4.small
    · exact sums_big a cap L cut w hL (by omega) hs
    · cases hb : L.all Leg4.ok
      · exact sums_bad a cap L cut w hL (by omega) hs hb
      · rcases hL with rfl | ⟨b, off, rfl, hR⟩
        · exact sums_none a cap cut w (fun h => (hnil h).2) h0 h1
        · by_cases hz : L.length = 0
          · obtain rfl := List.eq_nil_of_length_eq_zero hz
            exact sums_none _ cap cut w (fun h => (hnil h).2) h0 h1
          · exact sums_main b off cap L cut w hR (by omega) hl hm (by omega) hs hb h0 h1
end Go.Proofs.Ytlloiallkcfomaa
