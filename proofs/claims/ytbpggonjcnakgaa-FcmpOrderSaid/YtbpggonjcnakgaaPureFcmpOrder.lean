/- Of two numbers just one of less, the same and greater is so; what is less than what is less than a third one is less than that. -/
import Derived.Test.YtbpggonjcnakgaaS13
import Derived.Test.YtbpggonjcnakgaaFgradinelaw13FcmpOrder
namespace Go.Proofs.Ytbpggonjcnakgaa.Pure
open Go.RowKit Go.Proofs.Ytbpggonjcnakgaa.P Go.Proofs.Ytbpggonjcnakgaa.M Go.Proofs.YtbpggonjcnakgaaW.PrintWords Go.Proofs.YtbpggonjcnakgaaW.PrintLast Go.Proofs.YtbpggonjcnakgaaW.PrintMore

theorem less_of {a b : Int} (h1 : fk a ≠ 4) (h2 : fk b ≠ 4) : less a b = decide (fkey a < fkey b) := by
  unfold less
  simp [h1, h2]
theorem same_of {a b : Int} (h1 : fk a ≠ 4) (h2 : fk b ≠ 4) : sameD a b = decide (fkey a = fkey b) := by
  unfold sameD
  simp [h1, h2]
theorem less_no {a b : Int} (h : fk a = 4 ∨ fk b = 4) : less a b = false := decide_eq_false (fun k => h.elim k.1 k.2.1)
theorem same_no {a b : Int} (h : fk a = 4 ∨ fk b = 4) : sameD a b = false := decide_eq_false (fun k => h.elim k.1 k.2.1)
theorem FcmpOrder : gradinelaw13_FcmpOrder.Pure := by
  intro a b c ha hb hc
  have ha : U a := wf_u64 ha
  have hb : U b := wf_u64 hb
  have hc : U c := wf_u64 hc
  refine Ev.rounds ?_
  have j4 : ∀ t : Bool, t = false → Ev (fun k => gradinelaw13_FcmpOrder.j4 k a b c t) true := by
    intro t ht
    refine Ev.step (fun k => gradinelaw13_FcmpOrder.j4.eq_2 ..) (Ev.ifn (by rw [ht]; decide) (Ev.bindc (fcmp_Less_c ha hb) ?_))
    by_cases h1 : less a b = true
    · refine Ev.ifp h1 (Ev.bindc (fcmp_Less_c hb hc) ?_)
      by_cases h2 : less b c = true
      · have h3 : less a c = true := by
          have k1 := of_decide_eq_true h1
          have k2 := of_decide_eq_true h2
          exact decide_eq_true ⟨k1.1, k2.2.1, by omega⟩
        exact Ev.ifp h2 (Ev.bindc (fcmp_Less_c ha hc) (Ev.ifp h3 (Ev.bind law13_same_c (Ev.same rfl))))
      · exact Ev.ifn h2 (Ev.bind law13_same_c (Ev.same rfl))
    · exact Ev.ifn h1 (Ev.bind law13_same_c (Ev.same rfl))
  have hcomm : sameD a b = sameD b a := by
    unfold sameD
    congr 1
    apply propext
    constructor
    · intro k; exact ⟨k.2.1, k.1, k.2.2.symm⟩
    · intro k; exact ⟨k.2.1, k.1, k.2.2.symm⟩
  have j3 : ∀ (n : Int) (t : Bool), (t = true → n = 1) → (t = false → n = 0) → Ev (fun k => gradinelaw13_FcmpOrder.j3 k a b c n t) true := by
    intro n t h1 h0
    refine Ev.step (fun k => gradinelaw13_FcmpOrder.j3.eq_2 ..) ?_
    cases t
    · refine Ev.ifn (by decide) (Ev.ifp (h0 rfl) (Ev.bindc (fcmp_Same_c ha hb) (Ev.bindc (fcmp_Same_c hb ha) (j4 _ ?_))))
      rw [hcomm]; simp
    · refine Ev.ifp rfl (Ev.ifp (h1 rfl) (Ev.bindc (fcmp_Same_c ha hb) (Ev.bindc (fcmp_Same_c hb ha) (j4 _ ?_))))
      rw [hcomm]; simp
  have j2 : ∀ n : Int, ((fk a ≠ 4 ∧ fk b ≠ 4) → n = 1) → ((fk a = 4 ∨ fk b = 4) → n = 0) → Ev (fun k => gradinelaw13_FcmpOrder.j2 k a b c n) true := by
    intro n h1 h0
    refine Ev.step (fun k => gradinelaw13_FcmpOrder.j2.eq_2 ..) (Ev.bindc (ref09_Kind_c ha) ?_)
    by_cases h : fk a = 4
    · exact Ev.ifp h (j3 n false (fun k => by cases k) (fun _ => h0 (.inl h)))
    · refine Ev.ifn h (Ev.bindc (ref09_Kind_c hb) (j3 n _ (fun k => h1 ⟨h, ?_⟩) (fun k => h0 (.inr ?_))))
      · simpa using k
      · simpa using k
  by_cases hk : fk a = 4 ∨ fk b = 4
  · refine Ev.bindc (fcmp_Less_c ha hb) (Ev.ifn (by rw [less_no hk]; decide) ?_)
    refine Ev.step (fun k => gradinelaw13_FcmpOrder.j0.eq_2 ..) (Ev.bindc (fcmp_Less_c hb ha) (Ev.ifn (by rw [less_no hk.symm]; decide) ?_))
    refine Ev.step (fun k => gradinelaw13_FcmpOrder.j1.eq_2 ..) (Ev.bindc (fcmp_Same_c ha hb) (Ev.ifn (by rw [same_no hk]; decide) ?_))
    exact j2 0 (fun k => absurd hk (by omega)) (fun _ => rfl)
  · have h1 : fk a ≠ 4 := fun k => hk (.inl k)
    have h2 : fk b ≠ 4 := fun k => hk (.inr k)
    have l1 := less_of h1 h2
    have l2 := less_of h2 h1
    have l3 := same_of h1 h2
    refine Ev.bindc (fcmp_Less_c ha hb) ?_
    rcases Int.lt_trichotomy (fkey a) (fkey b) with h | h | h
    · refine Ev.ifp (by rw [l1]; exact decide_eq_true h) ?_
      refine Ev.step (fun k => gradinelaw13_FcmpOrder.j0.eq_2 ..) (Ev.bindc (fcmp_Less_c hb ha) (Ev.ifn (by rw [l2, decide_eq_false (by omega)]; decide) ?_))
      refine Ev.step (fun k => gradinelaw13_FcmpOrder.j1.eq_2 ..) (Ev.bindc (fcmp_Same_c ha hb) (Ev.ifn (by rw [l3, decide_eq_false (by omega)]; decide) ?_))
      exact j2 _ (fun _ => by first | rfl | (rw [w64_id (by omega) (by omega)]; rfl)) (fun k => absurd k hk)
    · refine Ev.ifn (by rw [l1, decide_eq_false (by omega)]; decide) ?_
      refine Ev.step (fun k => gradinelaw13_FcmpOrder.j0.eq_2 ..) (Ev.bindc (fcmp_Less_c hb ha) (Ev.ifn (by rw [l2, decide_eq_false (by omega)]; decide) ?_))
      refine Ev.step (fun k => gradinelaw13_FcmpOrder.j1.eq_2 ..) (Ev.bindc (fcmp_Same_c ha hb) (Ev.ifp (by rw [l3]; exact decide_eq_true h) ?_))
      exact j2 _ (fun _ => by first | rfl | (rw [w64_id (by omega) (by omega)]; rfl)) (fun k => absurd k hk)
    · refine Ev.ifn (by rw [l1, decide_eq_false (by omega)]; decide) ?_
      refine Ev.step (fun k => gradinelaw13_FcmpOrder.j0.eq_2 ..) (Ev.bindc (fcmp_Less_c hb ha) (Ev.ifp (by rw [l2]; exact decide_eq_true h) ?_))
      refine Ev.step (fun k => gradinelaw13_FcmpOrder.j1.eq_2 ..) (Ev.bindc (fcmp_Same_c ha hb) (Ev.ifn (by rw [l3, decide_eq_false (by omega)]; decide) ?_))
      exact j2 _ (fun _ => by first | rfl | (rw [w64_id (by omega) (by omega)]; rfl)) (fun k => absurd k hk)
end Go.Proofs.Ytbpggonjcnakgaa.Pure
