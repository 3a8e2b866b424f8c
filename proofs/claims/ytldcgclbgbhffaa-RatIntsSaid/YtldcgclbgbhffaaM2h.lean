/- A half word put at a place. -/
import Derived.Test.YtldcgclbgbhffaaM2
import Derived.Test.YtldcgclbgbhffaaC02r
namespace Go.Proofs.Ytldcgclbgbhffaa.M
open Go.RowKit Go.Proofs.Ytldcgclbgbhffaa.P Go.Proofs.YtldcgclbgbhffaaW.PrintWords Go.Proofs.YtldcgclbgbhffaaW.PrintLast Go.Proofs.YtldcgclbgbhffaaW.PrintMore
set_option linter.unusedVariables false

theorem hv_set : ∀ (l : List Int) (p : Nat) (v : Int), p < l.length → hv (l.set p v) = hv l + Hp p * (v - rd l (p : Int))
  | [], p, v, h => by simp at h
  | x :: t, 0, v, h => by
    show v + 4294967296 * hv t = x + 4294967296 * hv t + 1 * (v - x)
    omega
  | x :: t, p + 1, v, h => by
    have ih := hv_set t p v (by simpa using h)
    have e : rd (x :: t) ((p + 1 : Nat) : Int) = rd t (p : Int) := by unfold rd; simp
    rw [List.set_cons_succ, hv_cons, hv_cons, ih, e, Hp_succ, Int.mul_add, Int.mul_assoc, Int.add_assoc]
theorem Hs_set {l : List Int} (h : Hs l) (p : Nat) {v : Int} (h0 : 0 ≤ v) (h1 : v < 4294967296) : Hs (l.set p v) := fun x hx => by
  rcases List.mem_or_eq_of_mem_set hx with h2 | h2
  · exact h x h2
  · rw [h2]; exact ⟨h0, h1⟩
theorem Hs_zeros (n : Nat) : Hs (List.replicate n 0) := fun x hx => by rw [List.eq_of_mem_replicate hx]; omega
theorem hv_zeros (n : Nat) : hv (List.replicate n 0) = 0 := by
  induction n with
  | zero => rfl
  | succ n ih => rw [List.replicate_succ, hv_cons, ih]; rfl
theorem Hp_add (a b : Nat) : Hp (a + b) = Hp a * Hp b := by unfold Hp; rw [Int.pow_add]
end Go.Proofs.Ytldcgclbgbhffaa.M
