/- Whole roots. -/
import Derived.Test.YtbpggonjcnakgaaM1
namespace Go.Proofs.Ytbpggonjcnakgaa.M
open Go.RowKit Go.Proofs.YtbpggonjcnakgaaW.PrintWords Go.Proofs.YtbpggonjcnakgaaW.PrintLast Go.Proofs.YtbpggonjcnakgaaW.PrintMore
set_option linter.unusedVariables false

/-- The whole root. -/
def IsRoot (A r : Int) : Prop := 0 ≤ r ∧ r * r ≤ A ∧ A < (r + 1) * (r + 1)
theorem root_ex {A : Int} (h : 0 ≤ A) : ∃ r, IsRoot A r := by
  obtain ⟨n, rfl⟩ := Int.eq_ofNat_of_zero_le h
  induction n with
  | zero => exact ⟨0, by omega, by omega, by omega⟩
  | succ n ih =>
    obtain ⟨r, h1, h2, h3⟩ := ih (by omega)
    by_cases h4 : (r + 1) * (r + 1) ≤ ((n + 1 : Nat) : Int)
    · refine ⟨r + 1, by omega, h4, ?_⟩
      have : (r + 1 + 1) * (r + 1 + 1) = (r + 1) * (r + 1) + 2 * r + 3 := by grind
      omega
    · exact ⟨r, h1, by omega, by omega⟩
theorem sq_le {a b : Int} (ha : 0 ≤ a) (h : a ≤ b) : a * a ≤ b * b := Int.mul_le_mul h h ha (by omega)
theorem le_of_sq {a b : Int} (hb : 0 ≤ b) (h : a * a ≤ b * b) : a ≤ b := by
  rcases Int.lt_or_le b a with h1 | h1
  · have := sq_le (a := b + 1) (b := a) (by omega) (by omega)
    have e : (b + 1) * (b + 1) = b * b + 2 * b + 1 := by grind
    omega
  · exact h1
theorem lt_of_sq {a b : Int} (hb : 0 ≤ b) (h : a * a < b * b) : a < b := by
  rcases Int.lt_or_le a b with h1 | h1
  · exact h1
  · have := sq_le hb h1
    omega
theorem root_unique {A r s : Int} (h : IsRoot A r) (h' : IsRoot A s) : r = s := by
  obtain ⟨a0, a1, a2⟩ := h
  obtain ⟨b0, b1, b2⟩ := h'
  have := lt_of_sq (a := r) (b := s + 1) (by omega) (by omega)
  have := lt_of_sq (a := s) (b := r + 1) (by omega) (by omega)
  omega
end Go.Proofs.Ytbpggonjcnakgaa.M
