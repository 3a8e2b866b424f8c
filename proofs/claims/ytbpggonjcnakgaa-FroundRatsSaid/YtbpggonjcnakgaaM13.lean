/- What holds of sums, products, quotients and roots of doubles; the nearest whole number, powers of two, the order. -/
import Derived.Test.YtbpggonjcnakgaaM9
import Derived.Test.YtbpggonjcnakgaaM1
namespace Go.Proofs.Ytbpggonjcnakgaa.M
open Go.RowKit Go.Proofs.YtbpggonjcnakgaaW.PrintWords Go.Proofs.YtbpggonjcnakgaaW.PrintLast Go.Proofs.YtbpggonjcnakgaaW.PrintMore
set_option linter.unusedVariables false

/-! ### Products and quotients by 1, of opposites -/
/-! ### The root of a square -/
/-! ### The nearest whole number, powers of two, the order -/
def near (b : Int) : Int × Bool := if fx b = 2047 ∨ bl (pm b) + pe b > 62 then (0, false) else (if fs b then -(ru (pm b) (pe b) 0) else ru (pm b) (pe b) 0, true)
def fkey (b : Int) : Int := if fs b then -(b - 9223372036854775808) else b
def less (a b : Int) : Bool := decide (fk a ≠ 4 ∧ fk b ≠ 4 ∧ fkey a < fkey b)
end Go.Proofs.Ytbpggonjcnakgaa.M
