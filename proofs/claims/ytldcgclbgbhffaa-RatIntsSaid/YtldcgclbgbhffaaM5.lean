/- The greatest number that divides both. -/
import Derived.Test.YtldcgclbgbhffaaM1
namespace Go.Proofs.Ytldcgclbgbhffaa.M
open Go.RowKit Go.Proofs.YtldcgclbgbhffaaW.PrintWords Go.Proofs.YtldcgclbgbhffaaW.PrintLast Go.Proofs.YtldcgclbgbhffaaW.PrintMore
set_option linter.unusedVariables false

def gc (a b : Int) : Int := (Nat.gcd a.toNat b.toNat : Nat)
theorem gc_nat (a b : Nat) : gc a b = (Nat.gcd a b : Nat) := by unfold gc; rw [Int.toNat_natCast, Int.toNat_natCast]
theorem gc_nonneg (a b : Int) : 0 ≤ gc a b := by unfold gc; omega
theorem gc_comm (a b : Int) : gc a b = gc b a := by unfold gc; rw [Nat.gcd_comm]
theorem gc_zero {a : Int} (h : 0 ≤ a) : gc a 0 = a := by
  obtain ⟨A, rfl⟩ := Int.eq_ofNat_of_zero_le h
  have := gc_nat A 0
  rw [Nat.gcd_zero_right] at this
  exact this
theorem gc_one {a : Int} (h : 0 ≤ a) : gc a 1 = 1 := by
  obtain ⟨A, rfl⟩ := Int.eq_ofNat_of_zero_le h
  have := gc_nat A 1
  rw [Nat.gcd_one_right] at this
  exact this
theorem gc_mod {a b : Int} (ha : 0 ≤ a) (hb : 0 ≤ b) : gc b (a % b) = gc a b := by
  obtain ⟨A, rfl⟩ := Int.eq_ofNat_of_zero_le ha
  obtain ⟨B, rfl⟩ := Int.eq_ofNat_of_zero_le hb
  rw [← Int.natCast_emod, gc_nat, gc_nat, Nat.gcd_comm A B, Nat.gcd_rec B A, Nat.gcd_comm]
theorem gc_sub {x y : Int} (hy : 0 ≤ y) (h : y ≤ x) : gc (x - y) y = gc x y := by
  obtain ⟨X, rfl⟩ := Int.eq_ofNat_of_zero_le (show 0 ≤ x by omega)
  obtain ⟨Y, rfl⟩ := Int.eq_ofNat_of_zero_le hy
  rw [show (X : Int) - Y = ((X - Y : Nat) : Int) by omega, gc_nat, gc_nat, Nat.gcd_sub_self_left (by omega)]
theorem gc_mul {x y c : Int} (hx : 0 ≤ x) (hy : 0 ≤ y) (hc : 0 ≤ c) : gc (x * c) (y * c) = gc x y * c := by
  obtain ⟨X, rfl⟩ := Int.eq_ofNat_of_zero_le hx
  obtain ⟨Y, rfl⟩ := Int.eq_ofNat_of_zero_le hy
  obtain ⟨C, rfl⟩ := Int.eq_ofNat_of_zero_le hc
  rw [← Int.natCast_mul, ← Int.natCast_mul, gc_nat, gc_nat, Nat.gcd_mul_right, Int.natCast_mul]
theorem gc_odd {x y : Int} (hx : 0 ≤ x) (hy : 0 ≤ y) (ho : y % 2 = 1) (t : Nat) : gc (x * 2 ^ t) y = gc x y := by
  obtain ⟨X, rfl⟩ := Int.eq_ofNat_of_zero_le hx
  obtain ⟨Y, rfl⟩ := Int.eq_ofNat_of_zero_le hy
  have e : (X : Int) * 2 ^ t = ((X * 2 ^ t : Nat) : Int) := by rw [Int.natCast_mul, Int.natCast_pow]; rfl
  have hc : Nat.Coprime (2 ^ t) Y := by
    refine Nat.Coprime.pow_left t ?_
    have : Nat.gcd 2 Y = Nat.gcd (Y % 2) 2 := Nat.gcd_rec 2 Y
    rw [show Y % 2 = 1 by omega, Nat.gcd_one_left] at this
    exact this
  rw [e, gc_nat, gc_nat, Nat.Coprime.gcd_mul_right_cancel X hc]
theorem gc_halves {x y : Int} (hx : 0 ≤ x) (hy : 0 ≤ y) (hox : x % 2 = 1) (hoy : y % 2 = 1) (i j : Nat) : gc (x * 2 ^ i) (y * 2 ^ j) = gc x y * 2 ^ (min i j) := by
  have key : ∀ (x y : Int) (i j : Nat), 0 ≤ x → 0 ≤ y → x % 2 = 1 → i ≤ j → gc (x * 2 ^ i) (y * 2 ^ j) = gc x y * 2 ^ i := by
    intro x y i j hx hy hox hij
    have e : y * 2 ^ j = y * 2 ^ (j - i) * 2 ^ i := by rw [Int.mul_assoc, ← Int.pow_add, show j - i + i = j by omega]
    have hp := pow_pos i
    have hp2 := pow_pos (j - i)
    rw [e, gc_mul hx (Int.mul_nonneg hy (by omega)) (by omega), gc_comm x, gc_odd hy hx hox, gc_comm y]
  rcases Nat.le_total i j with h | h
  · rw [key x y i j hx hy hox h, Nat.min_eq_left h]
  · rw [gc_comm, key y x j i hy hx hoy h, Nat.min_eq_right h, gc_comm]
theorem gc_pos {a b : Int} (h : 0 < a ∨ 0 < b) : 0 < gc a b := by
  unfold gc
  have : 0 < Nat.gcd a.toNat b.toNat := by
    rcases h with h | h
    · exact Nat.gcd_pos_of_pos_left _ (by omega)
    · exact Nat.gcd_pos_of_pos_right _ (by omega)
  omega
theorem gc_split {a b : Int} (ha : 0 ≤ a) (hb : 0 ≤ b) : a / gc a b * gc a b = a ∧ b / gc a b * gc a b = b := by
  obtain ⟨A, rfl⟩ := Int.eq_ofNat_of_zero_le ha
  obtain ⟨B, rfl⟩ := Int.eq_ofNat_of_zero_le hb
  rw [gc_nat]
  have h1 := Nat.div_mul_cancel (Nat.gcd_dvd_left A B)
  have h2 := Nat.div_mul_cancel (Nat.gcd_dvd_right A B)
  exact ⟨by exact_mod_cast h1, by exact_mod_cast h2⟩
theorem gc_self {a : Int} (h : 0 ≤ a) : gc a a = a := by
  obtain ⟨A, rfl⟩ := Int.eq_ofNat_of_zero_le h
  rw [gc_nat, Nat.gcd_self]
/-- What is left of both has no more in common. -/
theorem gc_reduced {a b : Int} (ha : 0 ≤ a) (hb : 0 ≤ b) (h : 0 < a ∨ 0 < b) : gc (a / gc a b) (b / gc a b) = 1 := by
  have hg := gc_pos h
  have hs := gc_split ha hb
  have h1 : 0 ≤ a / gc a b := Int.ediv_nonneg ha (by omega)
  have h2 : 0 ≤ b / gc a b := Int.ediv_nonneg hb (by omega)
  have hm := gc_mul h1 h2 (gc_nonneg a b)
  rw [hs.1, hs.2] at hm
  have : 1 * gc a b = gc (a / gc a b) (b / gc a b) * gc a b := by rw [Int.one_mul]; exact hm
  exact (Int.eq_of_mul_eq_mul_right (by omega) this).symm
/-- Two quotients that are the same have the same lowest terms. -/
theorem lowest_eq {p q p' q' : Int} (hp : 0 ≤ p) (hq : 0 < q) (hp' : 0 ≤ p') (hq' : 0 < q') (h : p * q' = p' * q) : p / gc p q = p' / gc p' q' ∧ q / gc p q = q' / gc p' q' := by
  have key : ∀ (a b a' b' : Nat), Nat.gcd a b = 1 → Nat.gcd a' b' = 1 → 0 < b → 0 < b' → a * b' = a' * b → a = a' ∧ b = b' := by
    intro a b a' b' h1 h2 hb hb' he
    have d1 : b ∣ b' := by
      have : b ∣ a * b' := ⟨a', by rw [he, Nat.mul_comm]⟩
      exact Nat.Coprime.dvd_of_dvd_mul_left (Nat.Coprime.symm h1) this
    have d2 : b' ∣ b := by
      have : b' ∣ a' * b := ⟨a, by rw [← he, Nat.mul_comm]⟩
      exact Nat.Coprime.dvd_of_dvd_mul_left (Nat.Coprime.symm h2) this
    have hbb : b = b' := Nat.dvd_antisymm d1 d2
    subst hbb
    exact ⟨Nat.eq_of_mul_eq_mul_right hb he, rfl⟩
  have g1 := gc_pos (a := p) (b := q) (.inr hq)
  have g2 := gc_pos (a := p') (b := q') (.inr hq')
  have s1 := gc_split hp (Int.le_of_lt hq)
  have s2 := gc_split hp' (Int.le_of_lt hq')
  have r1 := gc_reduced hp (Int.le_of_lt hq) (.inr hq)
  have r2 := gc_reduced hp' (Int.le_of_lt hq') (.inr hq')
  have a0 : 0 ≤ p / gc p q := Int.ediv_nonneg hp (by omega)
  have b0 : 0 ≤ q / gc p q := Int.ediv_nonneg (by omega) (by omega)
  have a0' : 0 ≤ p' / gc p' q' := Int.ediv_nonneg hp' (by omega)
  have b0' : 0 ≤ q' / gc p' q' := Int.ediv_nonneg (by omega) (by omega)
  have bp : q / gc p q ≠ 0 := by
    intro hz
    rw [hz, Int.zero_mul] at s1
    omega
  have bp' : q' / gc p' q' ≠ 0 := by
    intro hz
    rw [hz, Int.zero_mul] at s2
    omega
  generalize p / gc p q = a at *
  generalize q / gc p q = b at *
  generalize p' / gc p' q' = a' at *
  generalize q' / gc p' q' = b' at *
  generalize gc p q = g at *
  generalize gc p' q' = g' at *
  have he : a * b' = a' * b := by
    have h1 : (a * b') * (g * g') = (a' * b) * (g * g') := by
      have e1 : (a * b') * (g * g') = (a * g) * (b' * g') := by grind
      have e2 : (a' * b) * (g * g') = (a' * g') * (b * g) := by grind
      rw [e1, e2, s1.1, s1.2, s2.1, s2.2]
      exact h
    have := Int.mul_pos g1 g2
    exact Int.eq_of_mul_eq_mul_right (by omega) h1
  obtain ⟨A, rfl⟩ := Int.eq_ofNat_of_zero_le a0
  obtain ⟨B, rfl⟩ := Int.eq_ofNat_of_zero_le b0
  obtain ⟨A', rfl⟩ := Int.eq_ofNat_of_zero_le a0'
  obtain ⟨B', rfl⟩ := Int.eq_ofNat_of_zero_le b0'
  rw [gc_nat] at r1 r2
  have := key A B A' B' (by exact_mod_cast r1) (by exact_mod_cast r2) (by omega) (by omega) (by exact_mod_cast he)
  exact ⟨by rw [this.1], by rw [this.2]⟩
end Go.Proofs.Ytldcgclbgbhffaa.M
