/- What holds of sums, products, quotients and roots of doubles; the nearest whole number, powers of two, the order. -/
import Derived.Test.YtbpggonjcnakgaaM9
import Derived.Test.YtbpggonjcnakgaaM1
import Derived.Test.YtbpggonjcnakgaaM11
namespace Go.Proofs.Ytbpggonjcnakgaa.M
open Go.RowKit Go.Proofs.YtbpggonjcnakgaaW.PrintWords Go.Proofs.YtbpggonjcnakgaaW.PrintLast Go.Proofs.YtbpggonjcnakgaaW.PrintMore
set_option linter.unusedVariables false

theorem NAN_fk : fk NAN = 4 := by decide
theorem fl_none {b : Int} (h : fk b = 4) : fl b = NAN := by unfold fl; rw [if_pos h]
theorem fl_some {b : Int} (h : fk b ≠ 4) : fl b = (b + 9223372036854775808) % 18446744073709551616 := by unfold fl; rw [if_neg h]
theorem fl_fk {b : Int} (h : U b) : fk (fl b) = fk b := by
  by_cases h1 : fk b = 4
  · rw [fl_none h1, NAN_fk, h1]
  · rw [fl_some h1]; exact (fl_more h).1
/-! ### Products and quotients by 1, of opposites -/
/-! ### The root of a square -/
/-! ### The nearest whole number, powers of two, the order -/
def near (b : Int) : Int × Bool := if fx b = 2047 ∨ bl (pm b) + pe b > 62 then (0, false) else (if fs b then -(ru (pm b) (pe b) 0) else ru (pm b) (pe b) 0, true)
def fkey (b : Int) : Int := if fs b then -(b - 9223372036854775808) else b
def less (a b : Int) : Bool := decide (fk a ≠ 4 ∧ fk b ≠ 4 ∧ fkey a < fkey b)
end Go.Proofs.Ytbpggonjcnakgaa.M
