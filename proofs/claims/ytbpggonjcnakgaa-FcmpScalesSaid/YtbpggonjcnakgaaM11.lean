/- Sums, products, quotients of doubles as numbers. -/
import Derived.Test.YtbpggonjcnakgaaM9
namespace Go.Proofs.Ytbpggonjcnakgaa.M
open Go.RowKit Go.Proofs.YtbpggonjcnakgaaW.PrintWords Go.Proofs.YtbpggonjcnakgaaW.PrintLast Go.Proofs.YtbpggonjcnakgaaW.PrintMore
set_option linter.unusedVariables false

/-! ### Sums -/
/-! ### The opposite -/
def cl (b : Int) : Int := if fk b = 4 then NAN else b
/-! ### Products, quotients -/
def fmul (a b : Int) : Int := if fk a = 4 ∨ fk b = 4 ∨ (fk a = 3 ∧ fk b = 0) ∨ (fk a = 0 ∧ fk b = 3) then NAN else if fk a = 3 ∨ fk b = 3 then sgn (fs a != fs b) INF else sgn (fs a != fs b) (Rd (pm a * pm b) (pe a + pe b))
/-- The quotient of two numbers but 0, as a double without its sign. -/
def qd (m e n f : Int) : Int :=
  if m * 2 ^ (63 - bl m).toNat * 18446744073709551616 % (n * 2 ^ (64 - bl n).toNat) = 0 then Rd (m * 2 ^ (63 - bl m).toNat * 18446744073709551616 / (n * 2 ^ (64 - bl n).toNat)) (e - f + bl m - bl n - 63)
  else Rd (2 * (m * 2 ^ (63 - bl m).toNat * 18446744073709551616 / (n * 2 ^ (64 - bl n).toNat)) + 1) (e - f + bl m - bl n - 64)
def fdiv (a b : Int) : Int := if fk a = 4 ∨ fk b = 4 ∨ (fk a = 3 ∧ fk b = 3) ∨ (fk a = 0 ∧ fk b = 0) then NAN else if fk a = 3 ∨ fk b = 0 then sgn (fs a != fs b) INF else if fk a = 0 ∨ fk b = 3 then sgn (fs a != fs b) 0 else sgn (fs a != fs b) (qd (pm a) (pe a) (pm b) (pe b))
/-- The quotient's word with its lowest bit set if something is left. -/
theorem qd_code {q E : Int} (h : 4611686018427387904 ≤ q) : Rd (q / 2 * 2 + 1) E = Rd (2 * q + 1) (E - 1) := by
  rw [← Rd_scale (show 0 < q / 2 * 2 + 1 by omega) E 1, Int.pow_one, show E - ((1 : Nat) : Int) = E - 1 from rfl]
  refine Rd_cell (g := 2) (by omega) (by omega) (by omega) (by omega) ?_
  have := bl_ge' (x := (q / 2 * 2 + 1) * 2) (n := 55) (by omega)
  unfold un
  omega
end Go.Proofs.Ytbpggonjcnakgaa.M
