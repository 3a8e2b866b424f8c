/- Which exact number a double is, told by the reference. -/
import Derived.Test.YtbpggonjcnakgaaC10r
import Derived.Test.YtbpggonjcnakgaaC07r
import Derived.Test.YtbpggonjcnakgaaM14
import Derived.Test.YtbpggonjcnakgaaBgradineref10
namespace Go.Proofs.Ytbpggonjcnakgaa.M
open Go.RowKit Go.Proofs.Ytbpggonjcnakgaa.P Go.Proofs.YtbpggonjcnakgaaW.PrintWords Go.Proofs.YtbpggonjcnakgaaW.PrintLast Go.Proofs.YtbpggonjcnakgaaW.PrintMore
set_option linter.unusedVariables false

/-- Units of the least double. -/
def LL : Int := 2 ^ 1074
theorem LL_pos : 0 < LL := pow_pos 1074
theorem bl_LL : bl LL ≤ 1075 := bl_le_of (n := 1075) (by have := pow_pos 1074; unfold LL; rw [Int.pow_succ]; omega)
theorem bl_V (b : Int) : bl (V b) ≤ 2200 := by
  have h := pm_range b
  have h2 := pe_range b
  have b1 : bl (pm b) ≤ 53 := bl_le_of (n := 53) (by omega)
  unfold V
  rcases (show pm b = 0 ∨ 0 < pm b by omega) with h0 | h0
  · rw [h0, Int.zero_mul, bl_zero]; omega
  · rw [bl_shl h0]; omega
theorem ab_SV (b : Int) : ab (SV b) = V b := by
  have := V_nonneg b
  unfold ab SV sgI
  cases fs b
  · simp only [Bool.false_eq_true, if_false]; rw [if_neg (by omega)]
  · simp only [if_true]; split <;> omega
theorem fit_V (b : Int) : Fit (SV b) LL := by
  have := bl_V b
  have := bl_LL
  exact ⟨LL_pos, by rw [ab_SV]; omega, by omega⟩
theorem ref10_ToRat_c {b : Int} (h : U b) : Ev (fun k => gradineref10_ToRat.f k b) (Rq (SV b) LL) := by
  have p1 := pm_range b
  have p2 := pe_range b
  have p3 : -1074 ≤ pe b ∧ pe b ≤ 972 := ⟨p2.1, p2.2.1⟩
  clear p2
  refine Ev.bindc (ref09_Parts_c h) (Ev.bindc (ref09_Neg_c h) ?_)
  dsimp only
  rw [w64_id (n := -pe b) (by omega) (by omega)]
  have S1 := ref02_Shl_c (a := [pm b]) ⟨Ws_one (by unfold U; omega), by simp⟩ (by simp) (pe b)
  have S2 := ref02_Shl_c (a := [1]) ⟨Ws_one (by unfold U; omega), by decide⟩ (by decide) (-pe b)
  rw [nv_one, shn_nat (by omega)] at S1 S2
  rw [Int.one_mul] at S2
  refine Ev.bind S1 (Ev.bind S2 ?_)
  have b1 : bl (pm b) ≤ 53 := bl_le_of (n := 53) (by omega)
  have hp := pow_pos (pe b).toNat
  have hq := pow_pos (-pe b).toNat
  have bn : bl (pm b * 2 ^ (pe b).toNat) ≤ 2000 := by
    rcases (show pm b = 0 ∨ 0 < pm b by omega) with h0 | h0
    · rw [h0, Int.zero_mul, bl_zero]; omega
    · rw [bl_shl h0]; omega
  have bd : bl ((2 : Int) ^ (-pe b).toNat) ≤ 2000 := by
    have : bl ((2 : Int) ^ (-pe b).toNat) ≤ (((-pe b).toNat + 1 : Nat) : Int) := bl_le_of (by rw [Int.pow_succ]; omega)
    omega
  refine Ev.bind (make_dg (fs b) (Int.mul_nonneg p1.1 (by omega)) hq (by omega) (by omega)) (Ev.same ?_)
  have e : Rq (sgI (fs b) (pm b * 2 ^ (pe b).toNat)) (2 ^ (-pe b).toNat) = Rq (SV b) LL := by
    refine Rq_eq hq LL_pos ?_
    have t := tn_V b
    unfold SV sgI LL
    cases fs b
    · simp only [Bool.false_eq_true, if_false]; exact t
    · simp only [if_true]; rw [Int.neg_mul, Int.neg_mul, t]
  rw [e]
end Go.Proofs.Ytbpggonjcnakgaa.M
