/- What the functions of prod answer: products, by rows and by halves. -/
import Derived.Test.YtbpggonjcnakgaaM2
namespace Go.Proofs.Ytbpggonjcnakgaa.M
open Go.RowKit Go.Proofs.Ytbpggonjcnakgaa.P Go.Proofs.YtbpggonjcnakgaaW.PrintWords Go.Proofs.YtbpggonjcnakgaaW.PrintLast Go.Proofs.YtbpggonjcnakgaaW.PrintMore
set_option linter.unusedVariables false

/-! ### Rows -/
/-! ### Halves -/
theorem dg_len_nv {l : List Int} (h : Ws l) : (dg (nv l)).length ≤ l.length := dg_len_le (nv_lt h)
theorem nv_split' (a : List Int) (m : Nat) : nv a = nv (a.take m) + Wp m * nv (a.drop m) := by
  have sa := nv_split a m
  rcases Nat.le_total m a.length with h | h
  · rw [Nat.min_eq_left h] at sa; exact sa
  · rw [List.take_of_length_le h, List.drop_eq_nil_of_le h]; simp [nv]
/-! ### Powers -/
end Go.Proofs.Ytbpggonjcnakgaa.M
