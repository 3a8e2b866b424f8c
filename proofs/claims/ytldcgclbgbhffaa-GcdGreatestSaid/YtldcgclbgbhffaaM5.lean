/- The greatest number that divides both. -/
import Derived.Test.YtldcgclbgbhffaaM1
namespace Go.Proofs.Ytldcgclbgbhffaa.M
open Go.RowKit Go.Proofs.YtldcgclbgbhffaaW.PrintWords Go.Proofs.YtldcgclbgbhffaaW.PrintLast Go.Proofs.YtldcgclbgbhffaaW.PrintMore
set_option linter.unusedVariables false

def gc (a b : Int) : Int := (Nat.gcd a.toNat b.toNat : Nat)
theorem gc_nat (a b : Nat) : gc a b = (Nat.gcd a b : Nat) := by unfold gc; rw [Int.toNat_natCast, Int.toNat_natCast]
theorem gc_nonneg (a b : Int) : 0 ≤ gc a b := by unfold gc; omega
theorem gc_zero {a : Int} (h : 0 ≤ a) : gc a 0 = a := by
  obtain ⟨A, rfl⟩ := Int.eq_ofNat_of_zero_le h
  have := gc_nat A 0
  rw [Nat.gcd_zero_right] at this
  exact this
theorem gc_mod {a b : Int} (ha : 0 ≤ a) (hb : 0 ≤ b) : gc b (a % b) = gc a b := by
  obtain ⟨A, rfl⟩ := Int.eq_ofNat_of_zero_le ha
  obtain ⟨B, rfl⟩ := Int.eq_ofNat_of_zero_le hb
  rw [← Int.natCast_emod, gc_nat, gc_nat, Nat.gcd_comm A B, Nat.gcd_rec B A, Nat.gcd_comm]
theorem gc_mul {x y c : Int} (hx : 0 ≤ x) (hy : 0 ≤ y) (hc : 0 ≤ c) : gc (x * c) (y * c) = gc x y * c := by
  obtain ⟨X, rfl⟩ := Int.eq_ofNat_of_zero_le hx
  obtain ⟨Y, rfl⟩ := Int.eq_ofNat_of_zero_le hy
  obtain ⟨C, rfl⟩ := Int.eq_ofNat_of_zero_le hc
  rw [← Int.natCast_mul, ← Int.natCast_mul, gc_nat, gc_nat, Nat.gcd_mul_right, Int.natCast_mul]
theorem gc_split {a b : Int} (ha : 0 ≤ a) (hb : 0 ≤ b) : a / gc a b * gc a b = a ∧ b / gc a b * gc a b = b := by
  obtain ⟨A, rfl⟩ := Int.eq_ofNat_of_zero_le ha
  obtain ⟨B, rfl⟩ := Int.eq_ofNat_of_zero_le hb
  rw [gc_nat]
  have h1 := Nat.div_mul_cancel (Nat.gcd_dvd_left A B)
  have h2 := Nat.div_mul_cancel (Nat.gcd_dvd_right A B)
  exact ⟨by exact_mod_cast h1, by exact_mod_cast h2⟩
/-- Whatever divides both divides it. -/
theorem gc_dvd {a b c : Int} (ha : 0 ≤ a) (hb : 0 ≤ b) (h1 : c ∣ a) (h2 : c ∣ b) : c ∣ gc a b := by
  obtain ⟨A, rfl⟩ := Int.eq_ofNat_of_zero_le ha
  obtain ⟨B, rfl⟩ := Int.eq_ofNat_of_zero_le hb
  rw [gc_nat]
  have k1 := Int.natAbs_dvd_natAbs.2 h1
  have k2 := Int.natAbs_dvd_natAbs.2 h2
  simp only [Int.natAbs_natCast] at k1 k2
  have := Nat.dvd_gcd k1 k2
  exact Int.natAbs_dvd_natAbs.1 (by simpa using this)
end Go.Proofs.Ytldcgclbgbhffaa.M
