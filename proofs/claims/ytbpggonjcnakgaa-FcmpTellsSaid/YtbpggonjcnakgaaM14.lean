/- Which number a double is, and in which order they stand. -/
import Derived.Test.YtbpggonjcnakgaaM13
import Derived.Test.YtbpggonjcnakgaaM7
namespace Go.Proofs.Ytbpggonjcnakgaa.M
open Go.RowKit Go.Proofs.YtbpggonjcnakgaaW.PrintWords Go.Proofs.YtbpggonjcnakgaaW.PrintLast Go.Proofs.YtbpggonjcnakgaaW.PrintMore
set_option linter.unusedVariables false

/-- In units of the least double. -/
def V (b : Int) : Int := pm b * 2 ^ (pe b + 1074).toNat
def SV (b : Int) : Int := sgI (fs b) (V b)
/-- The word without its sign. -/
def mw (b : Int) : Int := fx b * 4503599627370496 + fr b
theorem V_nonneg (b : Int) : 0 ≤ V b := Int.mul_nonneg (pm_range b).1 (by have := pow_pos (pe b + 1074).toNat; omega)
theorem V_low {b : Int} (h : fx b = 0) : V b = fr b := by
  unfold V pm pe
  rw [if_pos h, if_pos h]
  show fr b * 2 ^ 0 = _
  rw [Int.pow_zero, Int.mul_one]
theorem V_high {b : Int} {n : Nat} (h : fx b = n + 1) : V b = (fr b + 4503599627370496) * 2 ^ n := by
  unfold V pm pe
  rw [if_neg (by omega), if_neg (by omega), show (fx b - 1075 + 1074).toNat = n by omega]
theorem V_lt {a b : Int} (h : mw a < mw b) : V a < V b := by
  have a1 := @fx_range a
  have a2 := @fr_range a
  have b1 := @fx_range b
  have b2 := @fr_range b
  unfold mw at h
  rcases (show fx a = fx b ∨ fx a < fx b by omega) with he | he
  · rcases (show fx b = 0 ∨ 0 < fx b by omega) with h0 | h0
    · rw [V_low (by omega), V_low h0]
      omega
    · obtain ⟨n, hn⟩ : ∃ n : Nat, fx b = n + 1 := ⟨(fx b - 1).toNat, by omega⟩
      rw [V_high (by omega : fx a = n + 1), V_high hn]
      exact Int.mul_lt_mul_of_pos_right (by omega) (pow_pos n)
  · obtain ⟨n, hn⟩ : ∃ n : Nat, fx b = n + 1 := ⟨(fx b - 1).toNat, by omega⟩
    rw [V_high hn]
    have hp := pow_pos n
    have hb : 4503599627370496 * 2 ^ n ≤ (fr b + 4503599627370496) * 2 ^ n := Int.mul_le_mul_of_nonneg_right (by omega) (by omega)
    rcases (show fx a = 0 ∨ 0 < fx a by omega) with h0 | h0
    · rw [V_low h0]
      omega
    · obtain ⟨m, hm⟩ : ∃ m : Nat, fx a = m + 1 := ⟨(fx a - 1).toNat, by omega⟩
      rw [V_high hm]
      have hq := pow_pos m
      have h1 : (fr a + 4503599627370496) * 2 ^ m < 9007199254740992 * 2 ^ m := Int.mul_lt_mul_of_pos_right (by omega) hq
      have h2 := pow_le_pow (show m + 1 ≤ n by omega)
      rw [Int.pow_succ] at h2
      omega
theorem V_same {a b : Int} (h : mw a = mw b) : V a = V b := by
  have a1 := @fx_range a
  have a2 := @fr_range a
  have b1 := @fx_range b
  have b2 := @fr_range b
  unfold mw at h
  have h1 : fx a = fx b := by omega
  have h2 : fr a = fr b := by omega
  unfold V pm pe
  rw [h1, h2]
theorem V_iff (a b : Int) : (V a < V b ↔ mw a < mw b) ∧ (V a = V b ↔ mw a = mw b) := by
  rcases Int.lt_trichotomy (mw a) (mw b) with h | h | h
  · have := V_lt h
    omega
  · have := V_same h
    omega
  · have := V_lt h
    omega
theorem mw_nonneg (b : Int) : 0 ≤ mw b := by
  have a1 := @fx_range b
  have a2 := @fr_range b
  unfold mw
  omega
theorem V_zero (b : Int) : V b = 0 ↔ mw b = 0 := by
  have h := (V_iff b 0).2
  have e1 : V 0 = 0 := by decide
  have e2 : mw 0 = 0 := by decide
  rw [e1, e2] at h
  exact h
theorem fkey_mw {b : Int} (h : U b) : fkey b = sgI (fs b) (mw b) := by
  unfold U at h
  unfold fkey sgI fs mw fx fr
  by_cases hb : b ≥ 9223372036854775808
  · rw [decide_eq_true hb, if_pos rfl, if_pos rfl]; omega
  · rw [decide_eq_false hb, if_neg (by decide), if_neg (by decide)]; omega
/-- Keys stand as the numbers do. -/
theorem key_iff {a b : Int} (ha : U a) (hb : U b) : (SV a < SV b ↔ fkey a < fkey b) ∧ (SV a = SV b ↔ fkey a = fkey b) := by
  rw [fkey_mw ha, fkey_mw hb]
  have h1 := V_iff a b
  have h2 := V_iff b a
  have h3 := V_nonneg a
  have h4 := V_nonneg b
  have h5 := mw_nonneg a
  have h6 := mw_nonneg b
  have h7 := V_zero a
  have h8 := V_zero b
  unfold SV sgI
  cases fs a <;> cases fs b <;> simp only [if_true, Bool.false_eq_true, if_false] <;> omega
theorem tn_V (b : Int) : pm b * 2 ^ (pe b).toNat * 2 ^ 1074 = V b * 2 ^ (-pe b).toNat := by
  have h := pe_range b
  unfold V
  rw [Int.mul_assoc, Int.mul_assoc, ← Int.pow_add, ← Int.pow_add]
  congr 2
  omega
end Go.Proofs.Ytbpggonjcnakgaa.M
