/- The greatest number that divides both. -/
import Derived.Test.YtldcgclbgbhffaaM1
namespace Go.Proofs.Ytldcgclbgbhffaa.M
open Go.RowKit Go.Proofs.YtldcgclbgbhffaaW.PrintWords Go.Proofs.YtldcgclbgbhffaaW.PrintLast Go.Proofs.YtldcgclbgbhffaaW.PrintMore
set_option linter.unusedVariables false

def gc (a b : Int) : Int := (Nat.gcd a.toNat b.toNat : Nat)
theorem gc_nat (a b : Nat) : gc a b = (Nat.gcd a b : Nat) := by unfold gc; rw [Int.toNat_natCast, Int.toNat_natCast]
theorem gc_nonneg (a b : Int) : 0 ≤ gc a b := by unfold gc; omega
theorem gc_comm (a b : Int) : gc a b = gc b a := by unfold gc; rw [Nat.gcd_comm]
theorem gc_zero {a : Int} (h : 0 ≤ a) : gc a 0 = a := by
  obtain ⟨A, rfl⟩ := Int.eq_ofNat_of_zero_le h
  have := gc_nat A 0
  rw [Nat.gcd_zero_right] at this
  exact this
theorem gc_mod {a b : Int} (ha : 0 ≤ a) (hb : 0 ≤ b) : gc b (a % b) = gc a b := by
  obtain ⟨A, rfl⟩ := Int.eq_ofNat_of_zero_le ha
  obtain ⟨B, rfl⟩ := Int.eq_ofNat_of_zero_le hb
  rw [← Int.natCast_emod, gc_nat, gc_nat, Nat.gcd_comm A B, Nat.gcd_rec B A, Nat.gcd_comm]
theorem gc_sub {x y : Int} (hy : 0 ≤ y) (h : y ≤ x) : gc (x - y) y = gc x y := by
  obtain ⟨X, rfl⟩ := Int.eq_ofNat_of_zero_le (show 0 ≤ x by omega)
  obtain ⟨Y, rfl⟩ := Int.eq_ofNat_of_zero_le hy
  rw [show (X : Int) - Y = ((X - Y : Nat) : Int) by omega, gc_nat, gc_nat, Nat.gcd_sub_self_left (by omega)]
theorem gc_mul {x y c : Int} (hx : 0 ≤ x) (hy : 0 ≤ y) (hc : 0 ≤ c) : gc (x * c) (y * c) = gc x y * c := by
  obtain ⟨X, rfl⟩ := Int.eq_ofNat_of_zero_le hx
  obtain ⟨Y, rfl⟩ := Int.eq_ofNat_of_zero_le hy
  obtain ⟨C, rfl⟩ := Int.eq_ofNat_of_zero_le hc
  rw [← Int.natCast_mul, ← Int.natCast_mul, gc_nat, gc_nat, Nat.gcd_mul_right, Int.natCast_mul]
theorem gc_odd {x y : Int} (hx : 0 ≤ x) (hy : 0 ≤ y) (ho : y % 2 = 1) (t : Nat) : gc (x * 2 ^ t) y = gc x y := by
  obtain ⟨X, rfl⟩ := Int.eq_ofNat_of_zero_le hx
  obtain ⟨Y, rfl⟩ := Int.eq_ofNat_of_zero_le hy
  have e : (X : Int) * 2 ^ t = ((X * 2 ^ t : Nat) : Int) := by rw [Int.natCast_mul, Int.natCast_pow]; rfl
  have hc : Nat.Coprime (2 ^ t) Y := by
    refine Nat.Coprime.pow_left t ?_
    have : Nat.gcd 2 Y = Nat.gcd (Y % 2) 2 := Nat.gcd_rec 2 Y
    rw [show Y % 2 = 1 by omega, Nat.gcd_one_left] at this
    exact this
  rw [e, gc_nat, gc_nat, Nat.Coprime.gcd_mul_right_cancel X hc]
theorem gc_halves {x y : Int} (hx : 0 ≤ x) (hy : 0 ≤ y) (hox : x % 2 = 1) (hoy : y % 2 = 1) (i j : Nat) : gc (x * 2 ^ i) (y * 2 ^ j) = gc x y * 2 ^ (min i j) := by
  have key : ∀ (x y : Int) (i j : Nat), 0 ≤ x → 0 ≤ y → x % 2 = 1 → i ≤ j → gc (x * 2 ^ i) (y * 2 ^ j) = gc x y * 2 ^ i := by
    intro x y i j hx hy hox hij
    have e : y * 2 ^ j = y * 2 ^ (j - i) * 2 ^ i := by rw [Int.mul_assoc, ← Int.pow_add, show j - i + i = j by omega]
    have hp := pow_pos i
    have hp2 := pow_pos (j - i)
    rw [e, gc_mul hx (Int.mul_nonneg hy (by omega)) (by omega), gc_comm x, gc_odd hy hx hox, gc_comm y]
  rcases Nat.le_total i j with h | h
  · rw [key x y i j hx hy hox h, Nat.min_eq_left h]
  · rw [gc_comm, key y x j i hy hx hoy h, Nat.min_eq_right h, gc_comm]
theorem gc_pos {a b : Int} (h : 0 < a ∨ 0 < b) : 0 < gc a b := by
  unfold gc
  have : 0 < Nat.gcd a.toNat b.toNat := by
    rcases h with h | h
    · exact Nat.gcd_pos_of_pos_left _ (by omega)
    · exact Nat.gcd_pos_of_pos_right _ (by omega)
  omega
theorem gc_split {a b : Int} (ha : 0 ≤ a) (hb : 0 ≤ b) : a / gc a b * gc a b = a ∧ b / gc a b * gc a b = b := by
  obtain ⟨A, rfl⟩ := Int.eq_ofNat_of_zero_le ha
  obtain ⟨B, rfl⟩ := Int.eq_ofNat_of_zero_le hb
  rw [gc_nat]
  have h1 := Nat.div_mul_cancel (Nat.gcd_dvd_left A B)
  have h2 := Nat.div_mul_cancel (Nat.gcd_dvd_right A B)
  exact ⟨by exact_mod_cast h1, by exact_mod_cast h2⟩
theorem gc_self {a : Int} (h : 0 ≤ a) : gc a a = a := by
  obtain ⟨A, rfl⟩ := Int.eq_ofNat_of_zero_le h
  rw [gc_nat, Nat.gcd_self]
end Go.Proofs.Ytldcgclbgbhffaa.M
