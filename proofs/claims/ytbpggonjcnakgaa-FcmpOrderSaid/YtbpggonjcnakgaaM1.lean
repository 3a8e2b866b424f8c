/- Lists of words as natural numbers: their values, and a number's list without words 0 at its end. -/
import Derived.Test.YtbpggonjcnakgaaM0
namespace Go.Proofs.Ytbpggonjcnakgaa.M
open Go.RowKit Go.Proofs.YtbpggonjcnakgaaW.PrintWords Go.Proofs.YtbpggonjcnakgaaW.PrintLast Go.Proofs.YtbpggonjcnakgaaW.PrintMore
set_option linter.unusedVariables false

def U (x : Int) : Prop := 0 ≤ x ∧ x < 18446744073709551616
/-! ### A number's list -/
/-! ### Bits -/
end Go.Proofs.Ytbpggonjcnakgaa.M
