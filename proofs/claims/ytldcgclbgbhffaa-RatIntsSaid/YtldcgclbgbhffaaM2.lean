/- A word put at a place: the number it makes. Products and powers of numbers, and their counts of bits. -/
import Derived.Test.YtldcgclbgbhffaaM1b
namespace Go.Proofs.Ytldcgclbgbhffaa.M
open Go.RowKit Go.Proofs.Ytldcgclbgbhffaa.P Go.Proofs.YtldcgclbgbhffaaW.PrintWords Go.Proofs.YtldcgclbgbhffaaW.PrintLast Go.Proofs.YtldcgclbgbhffaaW.PrintMore
set_option linter.unusedVariables false

theorem nv_set : ∀ (l : List Int) (p : Nat) (v : Int), p < l.length → nv (l.set p v) = nv l + Wp p * (v - rd l (p : Int))
  | [], p, v, h => by simp at h
  | x :: t, 0, v, h => by
    show v + 18446744073709551616 * nv t = x + 18446744073709551616 * nv t + 1 * (v - x)
    omega
  | x :: t, p + 1, v, h => by
    have ih := nv_set t p v (by simpa using h)
    have e : rd (x :: t) ((p + 1 : Nat) : Int) = rd t (p : Int) := by unfold rd; simp
    rw [List.set_cons_succ, nv_cons, nv_cons, ih, e, Wp_succ, Int.mul_add, Int.mul_assoc, Int.add_assoc]
theorem Ws_set {l : List Int} (h : Ws l) (p : Nat) {v : Int} (hv : U v) : Ws (l.set p v) := fun x hx => by
  rcases List.mem_or_eq_of_mem_set hx with h1 | h1
  · exact h x h1
  · rw [h1]; exact hv
theorem rd_set_ne {l : List Int} {p q : Nat} {v : Int} (h : p ≠ q) : rd (l.set p v) (q : Int) = rd l (q : Int) := by
  unfold rd
  rw [List.getD_eq_getElem?_getD, List.getD_eq_getElem?_getD, Int.toNat_natCast, List.getElem?_set_ne h]
theorem rd_zeros (n : Nat) (i : Nat) : rd (List.replicate n 0) (i : Int) = 0 := by
  unfold rd
  rw [List.getD_eq_getElem?_getD, Int.toNat_natCast, List.getElem?_replicate]; split <;> rfl
/-- What a row of products adds at one place. -/
theorem row_step {B x y s c hi lo v ov : Int} (hB : 0 < B) (hx0 : 0 ≤ x) (hx : x < B) (hy0 : 0 ≤ y) (hy : y < B) (hs0 : 0 ≤ s) (hs : s < B) (hc0 : 0 ≤ c) (hc : c < B)
    (e1 : x * y = B * hi + lo) (e2 : s + lo + c = B * ov + v) (hl0 : 0 ≤ lo) (hv0 : 0 ≤ v) : hi + ov < B := by
  have h1 : x * y ≤ (B - 1) * (B - 1) := Int.mul_le_mul (by omega) (by omega) hy0 (by omega)
  have h2 : (B - 1) * (B - 1) = B * B - 2 * B + 1 := by grind
  have h3 : B * (hi + ov) < B * B := by
    have : B * (hi + ov) = B * hi + B * ov := Int.mul_add ..
    omega
  exact Int.lt_of_mul_lt_mul_left h3 (Int.le_of_lt hB)
end Go.Proofs.Ytldcgclbgbhffaa.M
