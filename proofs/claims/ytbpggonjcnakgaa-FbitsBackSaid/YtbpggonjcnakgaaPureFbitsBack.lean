/- What is made of a double's parts is the double; of two without a sign the greater word is the greater one. -/
import Derived.Test.YtbpggonjcnakgaaS09
import Derived.Test.YtbpggonjcnakgaaC10t
import Derived.Test.YtbpggonjcnakgaaFgradinelaw09FbitsBack
namespace Go.Proofs.Ytbpggonjcnakgaa.Pure
open Go.RowKit Go.Proofs.Ytbpggonjcnakgaa.P Go.Proofs.Ytbpggonjcnakgaa.M Go.Proofs.YtbpggonjcnakgaaW.PrintWords Go.Proofs.YtbpggonjcnakgaaW.PrintLast Go.Proofs.YtbpggonjcnakgaaW.PrintMore

theorem FbitsBack : gradinelaw09_FbitsBack.Pure := by
  intro a b ha hb
  have ha : U a := wf_u64 ha
  have hb : U b := wf_u64 hb
  refine Ev.rounds ?_
  have j1 : ∀ t : Bool, (t = false → fs a = false ∧ fs b = false) → Ev (fun k => gradinelaw09_FbitsBack.j1 k a b t) true := by
    intro t ht
    refine Ev.step (fun k => gradinelaw09_FbitsBack.j1.eq_2 ..) ?_
    cases t
    · obtain ⟨h1, h2⟩ := ht rfl
      refine Ev.ifn (by decide) (Ev.bind (ref10_ToRat_c ha) (Ev.bind (ref10_ToRat_c hb) (Ev.bind (ref07_Cmp_c (fit_V a) (fit_V b)) ?_)))
      rw [sgn_LL]
      have k := key_iff ha hb
      have e1 : fkey a = a := by unfold fkey; rw [h1]; rfl
      have e2 : fkey b = b := by unfold fkey; rw [h2]; rfl
      rw [e1, e2] at k
      generalize SV a = x at *
      generalize SV b = y at *
      have s1 : sgnI (x - y) < 0 ↔ a < b := by unfold sgnI; split; omega; split <;> omega
      have s2 : sgnI (x - y) = 0 ↔ a = b := by unfold sgnI; split; omega; split <;> omega
      refine Ev.ifp ?_ (Ev.ifp ?_ (Ev.bind law09_same_c (Ev.same rfl)))
      · rw [beq_iff_eq]; exact decide_eq_decide.2 s1
      · rw [beq_iff_eq]
        by_cases h : a = b
        · rw [s2.2 h, h]; simp
        · have : sgnI (x - y) ≠ 0 := fun k => h (s2.1 k)
          rw [beq_eq_false_iff_ne.2 this, beq_eq_false_iff_ne.2 h]
    · exact Ev.ifp rfl (Ev.bind law09_same_c (Ev.same rfl))
  have j0 : Ev (fun k => gradinelaw09_FbitsBack.j0 k a b) true := by
    refine Ev.step (fun k => gradinelaw09_FbitsBack.j0.eq_2 ..) (Ev.bindc (ref09_Finite_c ha) ?_)
    by_cases h1 : decide (fx a ≠ 2047) = true
    · refine Ev.ifp h1 (Ev.bindc (ref09_Finite_c hb) ?_)
      by_cases h2 : decide (fx b ≠ 2047) = true
      · refine Ev.ifp h2 (Ev.bindc (ref09_Neg_c ha) ?_)
        cases hs : fs a
        · refine Ev.ifn (by decide) (Ev.bindc (ref09_Neg_c hb) (j1 _ (fun k => ⟨hs, k⟩)))
        · exact Ev.ifp rfl (j1 true (fun k => by cases k))
      · exact Ev.ifn h2 (j1 true (fun k => by cases k))
    · exact Ev.ifn h1 (j1 true (fun k => by cases k))
  refine Ev.bind (fbits_Parts_c ha) ?_
  by_cases hx : fx a = 2047
  · rw [if_pos hx]
    exact Ev.ifn (by decide) j0
  · rw [if_neg hx]
    have p1 := pm_range a
    have p2 := pe_range a
    have M := fbits_Make_c (m := pm a) (e := pe a) (fs a) (by unfold U; omega) (by omega) (by omega)
    rw [Mk_parts ha hx] at M
    exact Ev.ifp rfl (Ev.bind M (Ev.ifp rfl (Ev.ifp rfl j0)))
end Go.Proofs.Ytbpggonjcnakgaa.Pure
