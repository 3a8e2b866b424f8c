/- What the functions of nat answer: numbers moved up and down, bits; and whether two lists are the same. -/
import Derived.Test.YtbpggonjcnakgaaC01
namespace Go.Proofs.Ytbpggonjcnakgaa.M
open Go.RowKit Go.Proofs.Ytbpggonjcnakgaa.P Go.Proofs.YtbpggonjcnakgaaW.PrintWords Go.Proofs.YtbpggonjcnakgaaW.PrintLast Go.Proofs.YtbpggonjcnakgaaW.PrintMore
set_option linter.unusedVariables false

/-! ### Up and down -/
theorem w_split {b : Nat} (h : b ≤ 64) : (2 : Int) ^ (64 - b) * 2 ^ b = 18446744073709551616 := by
  rw [← Int.pow_add, show 64 - b + b = 64 by omega]; rfl
theorem mod_up (z : Int) {b : Nat} (h : b ≤ 64) : z * 2 ^ (64 - b) % 18446744073709551616 = 2 ^ (64 - b) * (z % 2 ^ b) := by
  rw [← w_split h, Int.mul_comm z, Int.mul_emod_mul_of_pos _ _ (pow_pos _)]
theorem mod_up' (z : Int) {b : Nat} (h : b ≤ 64) : z * 2 ^ b % 18446744073709551616 = 2 ^ b * (z % 2 ^ (64 - b)) := by
  have := mod_up z (b := 64 - b) (by omega)
  rwa [show 64 - (64 - b) = b by omega] at this
/-! ### Bits -/
end Go.Proofs.Ytbpggonjcnakgaa.M
