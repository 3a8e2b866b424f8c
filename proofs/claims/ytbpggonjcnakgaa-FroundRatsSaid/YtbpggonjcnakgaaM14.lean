/- Which number a double is, and in which order they stand. -/
import Derived.Test.YtbpggonjcnakgaaM13
import Derived.Test.YtbpggonjcnakgaaM7
namespace Go.Proofs.Ytbpggonjcnakgaa.M
open Go.RowKit Go.Proofs.YtbpggonjcnakgaaW.PrintWords Go.Proofs.YtbpggonjcnakgaaW.PrintLast Go.Proofs.YtbpggonjcnakgaaW.PrintMore
set_option linter.unusedVariables false

/-- In units of the least double. -/
def V (b : Int) : Int := pm b * 2 ^ (pe b + 1074).toNat
def SV (b : Int) : Int := sgI (fs b) (V b)
theorem V_nonneg (b : Int) : 0 ≤ V b := Int.mul_nonneg (pm_range b).1 (by have := pow_pos (pe b + 1074).toNat; omega)
theorem tn_V (b : Int) : pm b * 2 ^ (pe b).toNat * 2 ^ 1074 = V b * 2 ^ (-pe b).toNat := by
  have h := pe_range b
  unfold V
  rw [Int.mul_assoc, Int.mul_assoc, ← Int.pow_add, ← Int.pow_add]
  congr 2
  omega
end Go.Proofs.Ytbpggonjcnakgaa.M
