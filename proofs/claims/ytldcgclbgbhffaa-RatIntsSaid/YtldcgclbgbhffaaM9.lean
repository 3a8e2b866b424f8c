/- Doubles as numbers: their parts, what is just one of them, and what rounds to which. -/
import Derived.Test.YtldcgclbgbhffaaM1
namespace Go.Proofs.Ytldcgclbgbhffaa.M
open Go.RowKit Go.Proofs.YtldcgclbgbhffaaW.PrintWords Go.Proofs.YtldcgclbgbhffaaW.PrintLast Go.Proofs.YtldcgclbgbhffaaW.PrintMore
set_option linter.unusedVariables false

def fs (b : Int) : Bool := decide (b ≥ 9223372036854775808)
theorem mod_split (M : Int) {G D : Int} (hG : 0 < G) : M % (G * D) = G * (M / G % D) + M % G := by
  rw [Int.emod_def M (G * D), ← Int.ediv_ediv_of_nonneg (by omega), Int.emod_def (M / G) D, Int.emod_def M G]
  grind

/-! ### Rounding: halves to the even one -/
/-! ### Two numbers in one cell -/
/-- A number moved down, its lowest bit set if a bit was lost. -/
def st (M : Int) (s : Nat) : Int := if M % 2 ^ s = 0 then M / 2 ^ s else M / 2 ^ s / 2 * 2 + 1
/-! ### How many units there are -/
/-! ### What a number of units is as a double -/
/-! ### A double's parts -/
end Go.Proofs.Ytldcgclbgbhffaa.M
