/- How any two doubles stand to one another, by the numbers that they are. -/
import Derived.Test.YtbpggonjcnakgaaBgradineref13
import Derived.Test.YtbpggonjcnakgaaS13
import Derived.Test.YtbpggonjcnakgaaC13s
import Derived.Test.YtbpggonjcnakgaaFgradinelaw13FcmpTells
namespace Go.Proofs.Ytbpggonjcnakgaa.Pure
open Go.RowKit Go.Proofs.Ytbpggonjcnakgaa.P Go.Proofs.Ytbpggonjcnakgaa.M Go.Proofs.YtbpggonjcnakgaaW.PrintWords Go.Proofs.YtbpggonjcnakgaaW.PrintLast Go.Proofs.YtbpggonjcnakgaaW.PrintMore

theorem FcmpTells : gradinelaw13_FcmpTells.Pure := by
  intro a b ha hb
  have ha : U a := wf_u64 ha
  have hb : U b := wf_u64 hb
  refine Ev.rounds ?_
  have key : ∃ n : Int, Ev (fun k => gradineref13_Cmp.f k a b) n ∧ less a b = decide (n = -1) ∧ sameD a b = decide (n = 0) := by
    by_cases h : fk a = 4 ∨ fk b = 4
    · refine ⟨2, ref13_Cmp_none ha hb h, ?_, ?_⟩
      · rw [decide_eq_false (by omega)]
        exact decide_eq_false (fun k => h.elim k.1 k.2.1)
      · rw [decide_eq_false (by omega)]
        exact decide_eq_false (fun k => h.elim k.1 k.2.1)
    · have h1 : fk a ≠ 4 := fun k => h (.inl k)
      have h2 : fk b ≠ 4 := fun k => h (.inr k)
      refine ⟨_, ref13_Cmp_c ha hb h1 h2, ?_, ?_⟩
      · unfold less
        refine decide_eq_decide.2 ?_
        unfold sgnI
        constructor
        · intro k
          rw [if_neg (by omega), if_pos (by omega)]
        · intro k
          refine ⟨h1, h2, ?_⟩
          split at k
          · omega
          · split at k <;> omega
      · unfold sameD
        refine decide_eq_decide.2 ?_
        unfold sgnI
        constructor
        · intro k
          rw [if_pos (by omega)]
        · intro k
          refine ⟨h1, h2, ?_⟩
          split at k
          · omega
          · split at k <;> omega
  obtain ⟨n, hn, k1, k2⟩ := key
  refine Ev.bind hn (Ev.bindc (fcmp_Less_c ha hb) (Ev.ifp ?_ (Ev.bindc (fcmp_Same_c ha hb) (Ev.ifp ?_ (Ev.bind law13_same_c (Ev.same rfl))))))
  · rw [k1, beq_iff_eq]; rfl
  · rw [k2, beq_iff_eq]; rfl
end Go.Proofs.Ytbpggonjcnakgaa.Pure
