/- A quotient times the divisor, with what is left, divides into just these; and what was added is taken away again: for all words. -/
import Derived.Test.YtldcgclbgbhffaaS01
import Derived.Test.YtldcgclbgbhffaaFgradinelaw01LimbBack
namespace Go.Proofs.Ytldcgclbgbhffaa.Pure
open Go.RowKit Go.Proofs.Ytldcgclbgbhffaa.P Go.Proofs.Ytldcgclbgbhffaa.M Go.Proofs.YtldcgclbgbhffaaW.PrintWords Go.Proofs.YtldcgclbgbhffaaW.PrintLast Go.Proofs.YtldcgclbgbhffaaW.PrintMore

theorem LimbBack : gradinelaw01_LimbBack.Pure := by
  intro q d r hq hd hr
  have hq := wf_u64 hq
  have hd := wf_u64 hd
  have hr := wf_u64 hr
  refine Ev.rounds ?_
  refine Ev.bindc (limb_Add_c hq hd hr) ?_
  refine Ev.bindc (limb_Sub_c (a := (q + d + r) % 18446744073709551616) (by unfold U; omega) hd hr) ?_
  dsimp only
  refine Ev.ifp (by omega) ?_
  have hne : (-(((q + d + r) % 18446744073709551616 - d - r) / 18446744073709551616) != (q + d + r) / 18446744073709551616) = false := by
    rw [bne_eq_false_iff_eq]
    omega
  rw [hne]
  refine Ev.step (fun k => gradinelaw01_LimbBack.j0.eq_2 ..) ?_
  refine Ev.ifn (by decide) ?_
  by_cases h : r ≥ d
  · exact Ev.ifp h (Ev.bind law01_same_c (Ev.same rfl))
  · refine Ev.ifn h ?_
    refine Ev.bindc (limb_Mul_c hq hd) ?_
    dsimp only
    refine Ev.bindc (limb_Add_c (a := q * d % 18446744073709551616) (by unfold U; omega) hr (by unfold U; omega)) ?_
    dsimp only
    have h0 : 0 ≤ q * d := Int.mul_nonneg hq.1 hd.1
    have h1 : q * d ≤ 18446744073709551615 * d := Int.mul_le_mul_of_nonneg_right (by omega) hd.1
    have hdiv : (q * d + r) / d = q := by rw [Int.add_comm, Int.add_mul_ediv_right _ _ (by omega), Int.ediv_eq_zero_of_lt hr.1 (by omega), Int.zero_add]
    have hmod : (q * d + r) % d = r := by rw [Int.add_comm, Int.add_mul_emod_self_right, Int.emod_eq_of_lt hr.1 (by omega)]
    generalize q * d = p at *
    rw [wu_id (by omega) (by omega)]
    refine Ev.bind (limb_Div_c (by omega) (by omega) hd.2 (by unfold U; omega)) ?_
    have e : (p / 18446744073709551616 + (p % 18446744073709551616 + r + 0) / 18446744073709551616) * 18446744073709551616 + (p % 18446744073709551616 + r + 0) % 18446744073709551616 = p + r := by omega
    rw [e, hdiv, hmod]
    exact Ev.ifp rfl (Ev.ifp rfl (Ev.ifp rfl (Ev.bind law01_same_c (Ev.same rfl))))
end Go.Proofs.Ytldcgclbgbhffaa.Pure
