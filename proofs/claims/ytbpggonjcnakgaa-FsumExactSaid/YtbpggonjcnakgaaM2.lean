/- A word put at a place: the number it makes. Products and powers of numbers, and their counts of bits. -/
import Derived.Test.YtbpggonjcnakgaaM1b
namespace Go.Proofs.Ytbpggonjcnakgaa.M
open Go.RowKit Go.Proofs.Ytbpggonjcnakgaa.P Go.Proofs.YtbpggonjcnakgaaW.PrintWords Go.Proofs.YtbpggonjcnakgaaW.PrintLast Go.Proofs.YtbpggonjcnakgaaW.PrintMore
set_option linter.unusedVariables false

theorem rd_set_ne {l : List Int} {p q : Nat} {v : Int} (h : p ≠ q) : rd (l.set p v) (q : Int) = rd l (q : Int) := by
  unfold rd
  rw [List.getD_eq_getElem?_getD, List.getD_eq_getElem?_getD, Int.toNat_natCast, List.getElem?_set_ne h]
theorem rd_zeros (n : Nat) (i : Nat) : rd (List.replicate n 0) (i : Int) = 0 := by
  unfold rd
  rw [List.getD_eq_getElem?_getD, Int.toNat_natCast, List.getElem?_replicate]; split <;> rfl
end Go.Proofs.Ytbpggonjcnakgaa.M
