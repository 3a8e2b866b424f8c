/- A word with its lowest bit set. -/
import Derived.Test.YtbpggonjcnakgaaM1
namespace Go.Proofs.Ytbpggonjcnakgaa.M
open Go.RowKit Go.Proofs.YtbpggonjcnakgaaW.PrintWords Go.Proofs.YtbpggonjcnakgaaW.PrintLast Go.Proofs.YtbpggonjcnakgaaW.PrintMore
set_option linter.unusedVariables false

theorem or_one {x : Int} (h : U x) : Go.bits .or .u64 x 1 = x / 2 * 2 + 1 := by
  obtain ⟨h0, h1⟩ := h
  have hj : Go.bits .or .u64 (x / 2 * 2) 1 = x / 2 * 2 + 1 := or_join 1 _ _ (by omega) (by omega) (by omega) (by omega) (by omega) (by omega)
  rcases (show x % 2 = 0 ∨ x % 2 = 1 by omega) with h | h
  · rw [show x / 2 * 2 = x by omega] at hj ⊢
    exact hj
  · obtain ⟨a, ha⟩ := Int.eq_ofNat_of_zero_le (show 0 ≤ x / 2 * 2 by omega)
    rw [ha] at hj ⊢
    have e1 := or_nat a 1 (by omega) (by decide)
    have e2 := or_nat (a ||| 1) 1 (by have := Nat.or_lt_two_pow (n := 64) (x := a) (y := 1) (by omega) (by decide); exact this) (by decide)
    rw [Nat.or_assoc, Nat.or_self] at e2
    rw [show ((1 : Nat) : Int) = 1 from rfl] at e1 e2
    rw [hj] at e1
    rw [← e1] at e2
    rw [show x = (a : Int) + 1 by omega]
    exact e2
end Go.Proofs.Ytbpggonjcnakgaa.M
