/- The greatest number that divides both. -/
import Derived.Test.YtldcgclbgbhffaaM1
namespace Go.Proofs.Ytldcgclbgbhffaa.M
open Go.RowKit Go.Proofs.YtldcgclbgbhffaaW.PrintWords Go.Proofs.YtldcgclbgbhffaaW.PrintLast Go.Proofs.YtldcgclbgbhffaaW.PrintMore
set_option linter.unusedVariables false

def gc (a b : Int) : Int := (Nat.gcd a.toNat b.toNat : Nat)
theorem gc_nat (a b : Nat) : gc a b = (Nat.gcd a b : Nat) := by unfold gc; rw [Int.toNat_natCast, Int.toNat_natCast]
theorem gc_nonneg (a b : Int) : 0 ≤ gc a b := by unfold gc; omega
theorem gc_zero {a : Int} (h : 0 ≤ a) : gc a 0 = a := by
  obtain ⟨A, rfl⟩ := Int.eq_ofNat_of_zero_le h
  have := gc_nat A 0
  rw [Nat.gcd_zero_right] at this
  exact this
theorem gc_mod {a b : Int} (ha : 0 ≤ a) (hb : 0 ≤ b) : gc b (a % b) = gc a b := by
  obtain ⟨A, rfl⟩ := Int.eq_ofNat_of_zero_le ha
  obtain ⟨B, rfl⟩ := Int.eq_ofNat_of_zero_le hb
  rw [← Int.natCast_emod, gc_nat, gc_nat, Nat.gcd_comm A B, Nat.gcd_rec B A, Nat.gcd_comm]
theorem gc_mul {x y c : Int} (hx : 0 ≤ x) (hy : 0 ≤ y) (hc : 0 ≤ c) : gc (x * c) (y * c) = gc x y * c := by
  obtain ⟨X, rfl⟩ := Int.eq_ofNat_of_zero_le hx
  obtain ⟨Y, rfl⟩ := Int.eq_ofNat_of_zero_le hy
  obtain ⟨C, rfl⟩ := Int.eq_ofNat_of_zero_le hc
  rw [← Int.natCast_mul, ← Int.natCast_mul, gc_nat, gc_nat, Nat.gcd_mul_right, Int.natCast_mul]
theorem gc_pos {a b : Int} (h : 0 < a ∨ 0 < b) : 0 < gc a b := by
  unfold gc
  have : 0 < Nat.gcd a.toNat b.toNat := by
    rcases h with h | h
    · exact Nat.gcd_pos_of_pos_left _ (by omega)
    · exact Nat.gcd_pos_of_pos_right _ (by omega)
  omega
theorem gc_split {a b : Int} (ha : 0 ≤ a) (hb : 0 ≤ b) : a / gc a b * gc a b = a ∧ b / gc a b * gc a b = b := by
  obtain ⟨A, rfl⟩ := Int.eq_ofNat_of_zero_le ha
  obtain ⟨B, rfl⟩ := Int.eq_ofNat_of_zero_le hb
  rw [gc_nat]
  have h1 := Nat.div_mul_cancel (Nat.gcd_dvd_left A B)
  have h2 := Nat.div_mul_cancel (Nat.gcd_dvd_right A B)
  exact ⟨by exact_mod_cast h1, by exact_mod_cast h2⟩
/-- What is left of both has no more in common. -/
theorem gc_reduced {a b : Int} (ha : 0 ≤ a) (hb : 0 ≤ b) (h : 0 < a ∨ 0 < b) : gc (a / gc a b) (b / gc a b) = 1 := by
  have hg := gc_pos h
  have hs := gc_split ha hb
  have h1 : 0 ≤ a / gc a b := Int.ediv_nonneg ha (by omega)
  have h2 : 0 ≤ b / gc a b := Int.ediv_nonneg hb (by omega)
  have hm := gc_mul h1 h2 (gc_nonneg a b)
  rw [hs.1, hs.2] at hm
  have : 1 * gc a b = gc (a / gc a b) (b / gc a b) * gc a b := by rw [Int.one_mul]; exact hm
  exact (Int.eq_of_mul_eq_mul_right (by omega) this).symm
end Go.Proofs.Ytldcgclbgbhffaa.M
