/- A word put at a place: the number it makes. Products and powers of numbers, and their counts of bits. -/
import Derived.Test.YtldcgclbgbhffaaC02s
namespace Go.Proofs.Ytldcgclbgbhffaa.M
open Go.RowKit Go.Proofs.Ytldcgclbgbhffaa.P Go.Proofs.YtldcgclbgbhffaaW.PrintWords Go.Proofs.YtldcgclbgbhffaaW.PrintLast Go.Proofs.YtldcgclbgbhffaaW.PrintMore
set_option linter.unusedVariables false

theorem nv_set : ∀ (l : List Int) (p : Nat) (v : Int), p < l.length → nv (l.set p v) = nv l + Wp p * (v - rd l (p : Int))
  | [], p, v, h => by simp at h
  | x :: t, 0, v, h => by
    show v + 18446744073709551616 * nv t = x + 18446744073709551616 * nv t + 1 * (v - x)
    omega
  | x :: t, p + 1, v, h => by
    have ih := nv_set t p v (by simpa using h)
    have e : rd (x :: t) ((p + 1 : Nat) : Int) = rd t (p : Int) := by unfold rd; simp
    rw [List.set_cons_succ, nv_cons, nv_cons, ih, e, Wp_succ, Int.mul_add, Int.mul_assoc, Int.add_assoc]
theorem hv_set : ∀ (l : List Int) (p : Nat) (v : Int), p < l.length → hv (l.set p v) = hv l + Hp p * (v - rd l (p : Int))
  | [], p, v, h => by simp at h
  | x :: t, 0, v, h => by
    show v + 4294967296 * hv t = x + 4294967296 * hv t + 1 * (v - x)
    omega
  | x :: t, p + 1, v, h => by
    have ih := hv_set t p v (by simpa using h)
    have e : rd (x :: t) ((p + 1 : Nat) : Int) = rd t (p : Int) := by unfold rd; simp
    rw [List.set_cons_succ, hv_cons, hv_cons, ih, e, Hp_succ, Int.mul_add, Int.mul_assoc, Int.add_assoc]
theorem Ws_set {l : List Int} (h : Ws l) (p : Nat) {v : Int} (hv : U v) : Ws (l.set p v) := fun x hx => by
  rcases List.mem_or_eq_of_mem_set hx with h1 | h1
  · exact h x h1
  · rw [h1]; exact hv
theorem Hs_set {l : List Int} (h : Hs l) (p : Nat) {v : Int} (h0 : 0 ≤ v) (h1 : v < 4294967296) : Hs (l.set p v) := fun x hx => by
  rcases List.mem_or_eq_of_mem_set hx with h2 | h2
  · exact h x h2
  · rw [h2]; exact ⟨h0, h1⟩
theorem rd_set_ne {l : List Int} {p q : Nat} {v : Int} (h : p ≠ q) : rd (l.set p v) (q : Int) = rd l (q : Int) := by
  unfold rd
  rw [List.getD_eq_getElem?_getD, List.getD_eq_getElem?_getD, Int.toNat_natCast, List.getElem?_set_ne h]
theorem rd_set_eq {l : List Int} {p : Nat} {v : Int} (h : p < l.length) : rd (l.set p v) (p : Int) = v := by
  unfold rd
  rw [List.getD_eq_getElem?_getD, Int.toNat_natCast, List.getElem?_set_self h]; rfl
theorem rd_zeros (n : Nat) (i : Nat) : rd (List.replicate n 0) (i : Int) = 0 := by
  unfold rd
  rw [List.getD_eq_getElem?_getD, Int.toNat_natCast, List.getElem?_replicate]; split <;> rfl
theorem Hs_zeros (n : Nat) : Hs (List.replicate n 0) := fun x hx => by rw [List.eq_of_mem_replicate hx]; omega
theorem hv_zeros (n : Nat) : hv (List.replicate n 0) = 0 := by
  induction n with
  | zero => rfl
  | succ n ih => rw [List.replicate_succ, hv_cons, ih]; rfl
theorem Hp_add (a b : Nat) : Hp (a + b) = Hp a * Hp b := by unfold Hp; rw [Int.pow_add]
theorem pow_nn {x : Int} (hx : 0 ≤ x) (n : Nat) : 0 ≤ x ^ n := by
  induction n with
  | zero => rw [Int.pow_zero]; decide
  | succ n ih => rw [Int.pow_succ]; exact Int.mul_nonneg ih hx
theorem bl_pow {x : Int} (hx : 0 ≤ x) (n : Nat) : bl (x ^ n) ≤ n * bl x + 1 := by
  induction n with
  | zero => rw [Int.pow_zero, show ((0 : Nat) : Int) * bl x = 0 by simp]; decide
  | succ n ih =>
    have h := bl_mul (pow_nn hx n) hx
    rw [Int.pow_succ, show ((n + 1 : Nat) : Int) * bl x = n * bl x + bl x by rw [Int.natCast_add, Int.add_mul]; simp]
    omega
/-- What a row of products adds at one place. -/
theorem row_step {B x y s c hi lo v ov : Int} (hB : 0 < B) (hx0 : 0 ≤ x) (hx : x < B) (hy0 : 0 ≤ y) (hy : y < B) (hs0 : 0 ≤ s) (hs : s < B) (hc0 : 0 ≤ c) (hc : c < B)
    (e1 : x * y = B * hi + lo) (e2 : s + lo + c = B * ov + v) (hl0 : 0 ≤ lo) (hv0 : 0 ≤ v) : hi + ov < B := by
  have h1 : x * y ≤ (B - 1) * (B - 1) := Int.mul_le_mul (by omega) (by omega) hy0 (by omega)
  have h2 : (B - 1) * (B - 1) = B * B - 2 * B + 1 := by grind
  have h3 : B * (hi + ov) < B * B := by
    have : B * (hi + ov) = B * hi + B * ov := Int.mul_add ..
    omega
  exact Int.lt_of_mul_lt_mul_left h3 (Int.le_of_lt hB)
end Go.Proofs.Ytldcgclbgbhffaa.M
