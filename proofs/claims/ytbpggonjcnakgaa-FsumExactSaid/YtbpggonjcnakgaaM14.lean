/- Which number a double is, and in which order they stand. -/
import Derived.Test.YtbpggonjcnakgaaM13
import Derived.Test.YtbpggonjcnakgaaM7
namespace Go.Proofs.Ytbpggonjcnakgaa.M
open Go.RowKit Go.Proofs.YtbpggonjcnakgaaW.PrintWords Go.Proofs.YtbpggonjcnakgaaW.PrintLast Go.Proofs.YtbpggonjcnakgaaW.PrintMore
set_option linter.unusedVariables false

/-- In units of the least double. -/
def V (b : Int) : Int := pm b * 2 ^ (pe b + 1074).toNat
def SV (b : Int) : Int := sgI (fs b) (V b)
/-- The word without its sign. -/
def mw (b : Int) : Int := fx b * 4503599627370496 + fr b
theorem V_nonneg (b : Int) : 0 ≤ V b := Int.mul_nonneg (pm_range b).1 (by have := pow_pos (pe b + 1074).toNat; omega)
theorem V_low {b : Int} (h : fx b = 0) : V b = fr b := by
  unfold V pm pe
  rw [if_pos h, if_pos h]
  show fr b * 2 ^ 0 = _
  rw [Int.pow_zero, Int.mul_one]
theorem V_high {b : Int} {n : Nat} (h : fx b = n + 1) : V b = (fr b + 4503599627370496) * 2 ^ n := by
  unfold V pm pe
  rw [if_neg (by omega), if_neg (by omega), show (fx b - 1075 + 1074).toNat = n by omega]
theorem V_same {a b : Int} (h : mw a = mw b) : V a = V b := by
  have a1 := @fx_range a
  have a2 := @fr_range a
  have b1 := @fx_range b
  have b2 := @fr_range b
  unfold mw at h
  have h1 : fx a = fx b := by omega
  have h2 : fr a = fr b := by omega
  unfold V pm pe
  rw [h1, h2]
theorem tn_V (b : Int) : pm b * 2 ^ (pe b).toNat * 2 ^ 1074 = V b * 2 ^ (-pe b).toNat := by
  have h := pe_range b
  unfold V
  rw [Int.mul_assoc, Int.mul_assoc, ← Int.pow_add, ← Int.pow_add]
  congr 2
  omega
/-- What fits is a double. -/
theorem V_exact {M l : Int} (h0 : 0 < M) (h1 : M < 9007199254740992) (hl0 : -1074 ≤ l) (hl1 : l ≤ 971) : fx (Rd M l) ≠ 2047 ∧ fs (Rd M l) = false ∧ V (Rd M l) = M * 2 ^ (l + 1074).toNat ∧ U (Rd M l) := by
  have b0 := bl_pos h0
  have b1 : bl M ≤ 53 := bl_le_of (n := 53) h1
  have hu : un M l = max (bl M + l - 53) (-1074) := rfl
  have q := un_q (e := l) h0
  have hz : (un M l - l).toNat = 0 := by omega
  have hR : Rd M l = (un M l + 1074) * 4503599627370496 + M * 2 ^ (l - un M l).toNat := by
    rw [Rd_exact h0 (by omega) (by rw [hz, Int.pow_zero, Int.emod_one]), hz, Int.pow_zero, Int.ediv_one]
  rw [hz, Int.pow_zero, Int.ediv_one] at q
  rw [hR]
  have hV : M * 2 ^ (l + 1074).toNat = M * 2 ^ (l - un M l).toNat * 2 ^ (un M l + 1074).toNat := by
    rw [Int.mul_assoc, ← Int.pow_add]
    congr 2
    omega
  rw [hV]
  have hu1 : -1074 ≤ un M l := un_ge M l
  have hu2 : un M l ≤ 971 := by omega
  generalize M * 2 ^ (l - un M l).toNat = w at *
  generalize un M l = u at *
  clear hR hV hz hu
  obtain ⟨w0, w1, w2⟩ := q
  have hsp := sgn_parts (x := (u + 1074) * 4503599627370496 + w) (by omega) (by omega) false
  have es : sgn false ((u + 1074) * 4503599627370496 + w) = (u + 1074) * 4503599627370496 + w := rfl
  rw [es] at hsp
  obtain ⟨s1, s2, s3, s4⟩ := hsp
  generalize hb : (u + 1074) * 4503599627370496 + w = b at *
  refine ⟨by omega, s2, ?_, s1⟩
  rcases Int.lt_or_le w 4503599627370496 with h | h
  · obtain rfl : u = -1074 := by omega
    rw [V_low (by omega)]
    show fr b = w * 2 ^ 0
    rw [Int.pow_zero, Int.mul_one]
    omega
  · rw [V_high (n := (u + 1074).toNat) (by omega)]
    congr 1
    omega
end Go.Proofs.Ytbpggonjcnakgaa.M
