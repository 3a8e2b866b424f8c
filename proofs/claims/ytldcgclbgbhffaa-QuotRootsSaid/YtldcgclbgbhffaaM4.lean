/- Whole roots. -/
import Derived.Test.YtldcgclbgbhffaaM1
namespace Go.Proofs.Ytldcgclbgbhffaa.M
open Go.RowKit Go.Proofs.YtldcgclbgbhffaaW.PrintWords Go.Proofs.YtldcgclbgbhffaaW.PrintLast Go.Proofs.YtldcgclbgbhffaaW.PrintMore
set_option linter.unusedVariables false

/-- The whole root. -/
def IsRoot (A r : Int) : Prop := 0 ≤ r ∧ r * r ≤ A ∧ A < (r + 1) * (r + 1)
theorem root_ex {A : Int} (h : 0 ≤ A) : ∃ r, IsRoot A r := by
  obtain ⟨n, rfl⟩ := Int.eq_ofNat_of_zero_le h
  induction n with
  | zero => exact ⟨0, by omega, by omega, by omega⟩
  | succ n ih =>
    obtain ⟨r, h1, h2, h3⟩ := ih (by omega)
    by_cases h4 : (r + 1) * (r + 1) ≤ ((n + 1 : Nat) : Int)
    · refine ⟨r + 1, by omega, h4, ?_⟩
      have : (r + 1 + 1) * (r + 1 + 1) = (r + 1) * (r + 1) + 2 * r + 3 := by grind
      omega
    · exact ⟨r, h1, by omega, by omega⟩
theorem newton {A r X : Int} (hr : IsRoot A r) (hX : 0 < X) (hle : r ≤ X) : r ≤ (X + A / X) / 2 ∧ (X ≤ (X + A / X) / 2 → X = r) := by
  obtain ⟨h0, h1, h2⟩ := hr
  have hsq : (2 * r - X) * X ≤ A := by
    have : (X - r) * (X - r) = X * X - 2 * r * X + r * r := by grind
    have h3 : 0 ≤ (X - r) * (X - r) := Int.mul_nonneg (by omega) (by omega)
    have h4 : (2 * r - X) * X = 2 * r * X - X * X := by rw [Int.sub_mul]
    omega
  have h5 := (Int.le_ediv_iff_mul_le hX).2 hsq
  refine ⟨by omega, fun h => ?_⟩
  have h6 : X ≤ A / X := by omega
  have h7 := (Int.le_ediv_iff_mul_le hX).1 h6
  rcases (show X = r ∨ r + 1 ≤ X by omega) with h8 | h8
  · exact h8
  · exfalso
    have := Int.mul_le_mul h8 h8 (by omega) (by omega)
    omega
theorem sq_le {a b : Int} (ha : 0 ≤ a) (h : a ≤ b) : a * a ≤ b * b := Int.mul_le_mul h h ha (by omega)
theorem lt_of_sq {a b : Int} (hb : 0 ≤ b) (h : a * a < b * b) : a < b := by
  rcases Int.lt_or_le a b with h1 | h1
  · exact h1
  · have := sq_le hb h1
    omega
end Go.Proofs.Ytldcgclbgbhffaa.M
