/- Sums, products, quotients of doubles as numbers. -/
import Derived.Test.YtbpggonjcnakgaaM9
namespace Go.Proofs.Ytbpggonjcnakgaa.M
open Go.RowKit Go.Proofs.YtbpggonjcnakgaaW.PrintWords Go.Proofs.YtbpggonjcnakgaaW.PrintLast Go.Proofs.YtbpggonjcnakgaaW.PrintMore
set_option linter.unusedVariables false

/-! ### Sums -/
/-! ### The opposite -/
def cl (b : Int) : Int := if fk b = 4 then NAN else b
/-! ### Products, quotients -/
end Go.Proofs.Ytbpggonjcnakgaa.M
