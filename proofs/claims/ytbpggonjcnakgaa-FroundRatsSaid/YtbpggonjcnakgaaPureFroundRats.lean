/- The double that is nearest to any exact number, and the exact number that any double is: for numbers of up to 20 words. -/
import Derived.Test.YtbpggonjcnakgaaBgradineplain
import Derived.Test.YtbpggonjcnakgaaBgradineref07
import Derived.Test.YtbpggonjcnakgaaS10
import Derived.Test.YtbpggonjcnakgaaC10q
import Derived.Test.YtbpggonjcnakgaaFgradinelaw10right
import Derived.Test.YtbpggonjcnakgaaFgradinelaw10FroundRats
namespace Go.Proofs.Ytbpggonjcnakgaa.Pure
open Go.RowKit Go.Proofs.Ytbpggonjcnakgaa.P Go.Proofs.Ytbpggonjcnakgaa.M Go.Proofs.YtbpggonjcnakgaaW.PrintWords Go.Proofs.YtbpggonjcnakgaaW.PrintLast Go.Proofs.YtbpggonjcnakgaaW.PrintMore

theorem law10_right_c {a b : List Int} (neg : Bool) (ha : Ws a) (hb : Ws b) : ∃ r, Ev (fun k => gradinelaw10_right.f k neg a b) r ∧ (r = true → a.length ≤ 20 ∧ b.length ≤ 20 ∧ RR neg a b) := by
  by_cases la : (a.length : Int) > 20
  · exact ⟨false, Ev.bindc (a := true) (by unfold gradineplain_Long.f; rw [if_pos la]) (Ev.ifp rfl (Ev.same rfl)), by simp⟩
  · by_cases lb : (b.length : Int) > 20
    · exact ⟨false, Ev.bindc (a := true) (by unfold gradineplain_Long.f; rw [if_neg la, decide_eq_true lb]) (Ev.ifp rfl (Ev.same rfl)), by simp⟩
    · obtain ⟨r, h1, h2⟩ := ref07_Right_c (a := a) (b := b) neg ⟨ha, by omega⟩ ⟨hb, by omega⟩ (by omega) (by omega)
      exact ⟨r, Ev.bindc (a := false) (by unfold gradineplain_Long.f; rw [if_neg la, decide_eq_false lb]) (Ev.ifn (by decide) (Ev.bind h1 (Ev.same rfl))), fun h => ⟨by omega, by omega, h2.1 h⟩⟩
theorem RR_pos {neg : Bool} {a b : List Int} (ha : Ws a) (hb : Ws b) (h : RR neg a b) : 0 < nv b := by
  obtain ⟨h1, h2, h3, h4, h5⟩ := h
  have nb := nv_nonneg hb
  rcases (show nv b = 0 ∨ 0 < nv b by omega) with k | k
  · exfalso; apply h3; rw [← h2, k, dg_zero]; rfl
  · exact k
def FroundRatsS : Prop := ∀ (neg : Bool) (a b : List Int) (x : Int), a.length ≤ maxLen → a.length * 8 ≤ 140737488351232 → (∀ x ∈ a, (Lit.int .u64 x).wf = true) → b.length ≤ maxLen → b.length * 8 ≤ 140737488351232 → (∀ x ∈ b, (Lit.int .u64 x).wf = true) → (Lit.int .u64 x).wf = true → ∃ k, gradinelaw10_FroundRats.f k neg a b x = some true
theorem same_self (s : Bool) {a b : List Int} (ha : a.length ≤ 1000000) (hb : b.length ≤ 1000000) : Ev (fun k => gradineref07_Same.f k s a b s a b) true := by
  have h := ref07_Same_c (s := s) (s' := s) (a := a) (b := b) (a' := a) (b' := b) ha hb
  rw [decide_eq_true rfl] at h
  exact h
theorem FroundRats : FroundRatsS := by
  intro neg a b x _ _ ha _ _ hb hx
  have hx : U x := wf_u64 hx
  have ha : Ws a := fun y hy => wf_u64 (ha y hy)
  have hb : Ws b := fun y hy => wf_u64 (hb y hy)
  refine Ev.rounds ?_
  obtain ⟨r, h1, h2⟩ := law10_right_c neg ha hb
  refine Ev.bind h1 ?_
  cases r
  · exact Ev.ifn (by decide) (Ev.bind law10_same_c (Ev.same rfl))
  · refine Ev.ifp rfl ?_
    obtain ⟨la, lb, hR⟩ := h2 rfl
    have hB := RR_pos ha hb hR
    have wa : Wl a := ⟨ha, by omega⟩
    have wb : Wl b := ⟨hb, by omega⟩
    have F1 := fround_FromRat_c neg wa wb (by omega) (by omega) hB
    have F2 := ref10_FromRat_c neg wa wb (by omega) (by omega) hB hR.1
    have j0 : Ev (fun k => gradinelaw10_FroundRats.j0 k false neg a b) true := Ev.step (fun k => gradinelaw10_FroundRats.j0.eq_2 ..) (Ev.ifn (by decide) (Ev.bind F1 (Ev.bind F2 (Ev.ifp rfl (Ev.bind law10_same_c (Ev.same rfl))))))
    have j1 : Ev (fun k => gradinelaw10_FroundRats.j1 k false neg a b) true := Ev.step (fun k => gradinelaw10_FroundRats.j1.eq_2 ..) (Ev.ifn (by decide) (Ev.bind F1 (Ev.bind F2 (Ev.ifp rfl (Ev.bind law10_same_c (Ev.same rfl))))))
    refine Ev.bind (fround_ToRat_c hx) (Ev.bindc (ref09_Finite_c hx) ?_)
    by_cases hf : fx x = 2047
    · rw [if_pos hf, decide_eq_false (by omega)]
      refine Ev.ifn (by decide) (Ev.ifp rfl (Ev.bind (same_self false (by decide) (by decide)) j1))
    · rw [if_neg hf, decide_eq_true (by omega)]
      refine Ev.ifp rfl (Ev.ifp rfl (Ev.bind (ref10_ToRat_c hx) ?_))
      obtain ⟨N, E, e, n0, e0, bn, be, _⟩ := Rq_fit (fit_V x)
      have ln := dg_len_bl N
      have le := dg_len_bl E
      rw [e]
      exact Ev.bind (same_self _ (by dsimp only; omega) (by dsimp only; omega)) j0
end Go.Proofs.Ytbpggonjcnakgaa.Pure
