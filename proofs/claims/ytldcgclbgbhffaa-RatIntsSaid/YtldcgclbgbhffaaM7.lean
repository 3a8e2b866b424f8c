/- Exact numbers in lowest terms, as lists. -/
import Derived.Test.YtldcgclbgbhffaaM5
namespace Go.Proofs.Ytldcgclbgbhffaa.M
open Go.RowKit Go.Proofs.YtldcgclbgbhffaaW.PrintWords Go.Proofs.YtldcgclbgbhffaaW.PrintLast Go.Proofs.YtldcgclbgbhffaaW.PrintMore
set_option linter.unusedVariables false

def ab (x : Int) : Int := if x < 0 then -x else x
theorem ab_nonneg (x : Int) : 0 ≤ ab x := by unfold ab; split <;> omega
theorem ab_zero {x : Int} : ab x = 0 ↔ x = 0 := by unfold ab; split <;> omega
theorem ab_mul (x : Int) {d : Int} (h : 0 < d) : ab (x * d) = ab x * d := by
  unfold ab
  by_cases hx : x < 0
  · have := Int.mul_neg_of_neg_of_pos hx h
    rw [if_pos hx, if_pos this, Int.neg_mul]
  · have := Int.mul_nonneg (show 0 ≤ x by omega) (Int.le_of_lt h)
    rw [if_neg hx, if_neg (by omega)]
theorem neg_mul_iff (x : Int) {d : Int} (h : 0 < d) : x * d < 0 ↔ x < 0 := by
  constructor
  · intro h1
    rcases Int.lt_or_le x 0 with h2 | h2
    · exact h2
    · have := Int.mul_nonneg h2 (Int.le_of_lt h)
      omega
  · intro h1
    exact Int.mul_neg_of_neg_of_pos h1 h
/-- The number S / D. -/
def Rq (S D : Int) : Bool × List Int × List Int := if S = 0 then (false, [], [1]) else (decide (S < 0), dg (ab S / gc (ab S) D), dg (D / gc (ab S) D))
theorem Rq_eq {S D S' D' : Int} (hD : 0 < D) (hD' : 0 < D') (h : S * D' = S' * D) : Rq S D = Rq S' D' := by
  have n1 := neg_mul_iff S hD'
  have n2 := neg_mul_iff S' hD
  have a1 := ab_mul S hD'
  have a2 := ab_mul S' hD
  rw [h] at n1 a1
  have z : S = 0 ↔ S' = 0 := by
    have z1 := @ab_zero S
    have z2 := @ab_zero S'
    constructor
    · intro k
      rw [k, Int.zero_mul] at h
      exact (Int.mul_eq_zero.1 h.symm).resolve_right (by omega)
    · intro k
      rw [k, Int.zero_mul] at h
      exact (Int.mul_eq_zero.1 h).resolve_right (by omega)
  unfold Rq
  by_cases hz : S = 0
  · rw [if_pos hz, if_pos (z.1 hz)]
  · rw [if_neg hz, if_neg (fun k => hz (z.2 k))]
    have hl := lowest_eq (ab_nonneg S) hD (ab_nonneg S') hD' (by rw [← a1, a2])
    rw [hl.1, hl.2]
    congr 1
    exact decide_eq_decide.2 (n1.symm.trans n2)
theorem gc_le {a b : Int} (ha : 0 ≤ a) (hb : 0 < b) : a / gc a b ≤ a ∧ b / gc a b ≤ b ∧ 0 < b / gc a b ∧ 0 ≤ a / gc a b := by
  have g := gc_pos (a := a) (b := b) (.inr hb)
  have s := gc_split ha (Int.le_of_lt hb)
  have h0 : 0 ≤ b / gc a b := Int.ediv_nonneg (by omega) (by omega)
  refine ⟨Int.ediv_le_self _ ha, Int.ediv_le_self _ (by omega), ?_, Int.ediv_nonneg ha (by omega)⟩
  rcases (show b / gc a b = 0 ∨ 0 < b / gc a b by omega) with h | h
  · rw [h, Int.zero_mul] at s
    omega
  · exact h
theorem dg_one : dg 1 = [1] := by decide
theorem Rq_spec (S : Int) {D : Int} (hD : 0 < D) : ∃ N E : Int, Rq S D = (decide (S < 0), dg N, dg E) ∧ 0 ≤ N ∧ 0 < E ∧ N ≤ ab S ∧ E ≤ D ∧ N * D = ab S * E ∧ (N = 0 ↔ S = 0) ∧ gc N E = 1 := by
  unfold Rq
  by_cases hz : S = 0
  · rw [if_pos hz]
    refine ⟨0, 1, ?_, by omega, by omega, ab_nonneg S, by omega, ?_, by omega, gc_one (by omega)⟩
    · rw [hz, dg_zero, dg_one]; rfl
    · rw [hz]; simp [ab]
  · rw [if_neg hz]
    have h0 := ab_nonneg S
    have hz2 := @ab_zero S
    obtain ⟨g1, g2, g3, g4⟩ := gc_le h0 hD
    have g := gc_pos (a := ab S) (b := D) (.inr hD)
    have s := gc_split h0 (Int.le_of_lt hD)
    have r := gc_reduced h0 (Int.le_of_lt hD) (.inr hD)
    refine ⟨_, _, rfl, g4, g3, g1, g2, ?_, ?_, r⟩
    · generalize gc (ab S) D = c at *
      generalize hN : ab S / c = N at *
      generalize hE : D / c = E at *
      rw [← s.1, ← s.2]
      grind
    · constructor
      · intro k
        rw [k, Int.zero_mul] at s
        exact hz2.1 s.1.symm
      · intro k
        exact absurd k hz
def sgI (s : Bool) (N : Int) : Int := if s then -N else N
theorem Rq_signed {S D N E : Int} (hN : N * D = ab S * E) (h0 : N = 0 ↔ S = 0) : sgI (decide (S < 0)) N * D = S * E := by
  unfold sgI
  unfold ab at hN
  by_cases h : S < 0
  · rw [if_pos h] at hN
    rw [decide_eq_true h, if_pos rfl, Int.neg_mul, hN, Int.neg_mul]
    omega
  · rw [if_neg h] at hN
    rw [decide_eq_false h, if_neg (by decide), hN]
/-- Equal only if the numbers are. -/
theorem Rq_inj {S D S' D' : Int} (hD : 0 < D) (hD' : 0 < D') (h : Rq S D = Rq S' D') : S * D' = S' * D := by
  obtain ⟨N, E, h1, h2, h3, h4, h5, h6, h7, h8⟩ := Rq_spec S hD
  obtain ⟨N', E', k1, k2, k3, k4, k5, k6, k7, k8⟩ := Rq_spec S' hD'
  rw [h1, k1] at h
  simp only [Prod.mk.injEq] at h
  obtain ⟨e1, e2, e3⟩ := h
  have e2 := dg_inj h2 k2 e2
  have e3 := dg_inj (Int.le_of_lt h3) (Int.le_of_lt k3) e3
  have s1 := Rq_signed h6 h7
  have s2 := Rq_signed k6 k7
  rw [e1, e2] at s1
  rw [e3] at s1
  have : S * D' * E' = S' * D * E' := by
    have a1 : S * D' * E' = S * E' * D' := by grind
    have a2 : S' * D * E' = S' * E' * D := by grind
    rw [a1, a2, ← s1, ← s2]
    grind
  exact Int.eq_of_mul_eq_mul_right (by omega) this
end Go.Proofs.Ytldcgclbgbhffaa.M
