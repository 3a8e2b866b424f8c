/- Any quotient in lowest terms, or that it is none; which numbers are right: for numbers of up to 8 words. -/
import Derived.Test.YtldcgclbgbhffaaFgradinelaw07same
import Derived.Test.YtldcgclbgbhffaaBgradineplain
import Derived.Test.YtldcgclbgbhffaaS07
import Derived.Test.YtldcgclbgbhffaaC07b
import Derived.Test.YtldcgclbgbhffaaFgradinelaw07RatMakes
namespace Go.Proofs.Ytldcgclbgbhffaa.Pure
open Go.RowKit Go.Proofs.Ytldcgclbgbhffaa.P Go.Proofs.Ytldcgclbgbhffaa.M Go.Proofs.YtldcgclbgbhffaaW.PrintWords Go.Proofs.YtldcgclbgbhffaaW.PrintLast Go.Proofs.YtldcgclbgbhffaaW.PrintMore

def RatMakesS : Prop := ∀ (neg s : Bool) (a b : List Int) (n : Int), a.length ≤ maxLen → a.length * 8 ≤ 140737488351232 → (∀ x ∈ a, (Lit.int .u64 x).wf = true) → b.length ≤ maxLen → b.length * 8 ≤ 140737488351232 → (∀ x ∈ b, (Lit.int .u64 x).wf = true) → (Lit.int .i64 n).wf = true → ∃ k, gradinelaw07_RatMakes.f k neg s a b n = some true
theorem RatMakes : RatMakesS := by
  intro neg s a b n _ _ ha _ _ hb hn
  have hn := wf_i64 hn
  have ha : Ws a := fun y hy => wf_u64 (ha y hy)
  have hb : Ws b := fun y hy => wf_u64 (hb y hy)
  refine Ev.rounds ?_
  have out : Ev (fun k => (gradinelaw07_same.f k).bind fun t => some t) true := Ev.bind law07_same_c (Ev.same rfl)
  by_cases hL : (a.length : Int) > 8 ∨ (b.length : Int) > 8
  · refine Ev.bindc (a := true) ?_ (Ev.ifp rfl out)
    unfold gradineplain_Long.f
    by_cases h1 : (a.length : Int) > 8
    · rw [if_pos h1]
    · rw [if_neg h1, decide_eq_true (by omega)]
  · refine Ev.bindc (a := false) ?_ (Ev.ifn (by decide) ?_)
    · unfold gradineplain_Long.f
      rw [if_neg (by omega), decide_eq_false (by omega)]
    · have wa : Wl a := ⟨ha, by omega⟩
      have wb : Wl b := ⟨hb, by omega⟩
      have na := nv_nonneg ha
      have nb := nv_nonneg hb
      have ba := bl_nv ha
      have bb := bl_nv hb
      obtain ⟨r, R1, R2⟩ := rat_Right_c s wa wb (by omega) (by omega)
      obtain ⟨r', Q1, Q2⟩ := ref07_Right_c s wa wb (by omega) (by omega)
      have er : r = r' := Bool.eq_iff_iff.2 (R2.trans Q2.symm)
      refine Ev.bind (rat_Make_c neg wa wb (by omega) (by omega)) (Ev.bind (ref02_Size_c wb) ?_)
      by_cases hz : nv b = 0
      · rw [if_pos hz, hz, dg_zero]
        refine Ev.ifp rfl (Ev.ifp rfl ?_)
        have SS := ref07_Same_c (s := false) (s' := false) (a := []) (b := []) (a' := []) (b' := []) (by decide) (by decide)
        rw [decide_eq_true rfl] at SS
        refine Ev.bind SS (Ev.ifp rfl (Ev.bind R1 (Ev.ifn ?_ out)))
        intro k
        have := RR_pos hb (R2.1 k)
        omega
      · rw [if_neg hz]
        have hB : 0 < nv b := by omega
        have hl : (dg (nv b)).length ≠ 0 := fun k => hz ((dg_len_zero nb).1 k)
        refine Ev.ifn (by omega) (Ev.ifp rfl ?_)
        have f1 : Fit (sgI neg (nv a)) (nv b) := by
          refine ⟨hB, ?_, by omega⟩
          have : ab (sgI neg (nv a)) = nv a := by unfold ab sgI; cases neg <;> simp <;> omega
          rw [this]; omega
        have l1 := Rq_len f1
        have f2 : Fit n 1 := by
          refine ⟨by omega, ?_, by decide⟩
          have h1 : ab n < 2 ^ 64 := by unfold ab; split <;> omega
          have := bl_le_of h1
          omega
        refine Ev.bind (ref07_Make_c neg wa wb (by omega) (by omega) hB) (Ev.bind (same_self07 f1) (Ev.ifp rfl ?_))
        refine Ev.bind (rat_Of_c (by omega) (by omega)) (Ev.bind (ref07_Of_c (by omega) (by omega)) (Ev.bind (same_self07 f2) ?_))
        refine Ev.eqv (fun k => gradinelaw07_RatMakes.j0.eq_1 ..) (Ev.ifn (by decide) (Ev.bind R1 (Ev.bind Q1 (Ev.ifp (by rw [er]; simp) ?_))))
        exact Ev.bind (rat_Same_c (by omega) (by omega)) (Ev.bind (ref07_Same_c (by omega) (by omega)) (Ev.ifp (by simp) out))
end Go.Proofs.Ytldcgclbgbhffaa.Pure
