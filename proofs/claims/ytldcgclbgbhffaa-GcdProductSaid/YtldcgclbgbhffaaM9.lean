/- Doubles as numbers: their parts, what is just one of them, and what rounds to which. -/
import Derived.Test.YtldcgclbgbhffaaM1
namespace Go.Proofs.Ytldcgclbgbhffaa.M
open Go.RowKit Go.Proofs.YtldcgclbgbhffaaW.PrintWords Go.Proofs.YtldcgclbgbhffaaW.PrintLast Go.Proofs.YtldcgclbgbhffaaW.PrintMore
set_option linter.unusedVariables false

/-! ### Rounding: halves to the even one -/
/-! ### Two numbers in one cell -/
/-- A number moved down, its lowest bit set if a bit was lost. -/
def st (M : Int) (s : Nat) : Int := if M % 2 ^ s = 0 then M / 2 ^ s else M / 2 ^ s / 2 * 2 + 1
/-! ### How many units there are -/
/-! ### What a number of units is as a double -/
/-! ### A double's parts -/
end Go.Proofs.Ytldcgclbgbhffaa.M
