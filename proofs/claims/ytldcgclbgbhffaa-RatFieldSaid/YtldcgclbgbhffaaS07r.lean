/- The guard that statements of rat begin with: at most six words, and right. -/
import Derived.Test.YtldcgclbgbhffaaBgradineplain
import Derived.Test.YtldcgclbgbhffaaC07c
import Derived.Test.YtldcgclbgbhffaaFgradinelaw07right
namespace Go.Proofs.Ytldcgclbgbhffaa.M
open Go.RowKit Go.Proofs.Ytldcgclbgbhffaa.P Go.Proofs.YtldcgclbgbhffaaW.PrintWords Go.Proofs.YtldcgclbgbhffaaW.PrintLast Go.Proofs.YtldcgclbgbhffaaW.PrintMore
set_option linter.unusedVariables false

theorem law07_right_c {a b : List Int} (neg : Bool) (ha : Ws a) (hb : Ws b) : ∃ r, Ev (fun k => gradinelaw07_right.f k neg a b) r ∧ (r = true → ∃ S D, (neg, a, b) = Rq S D ∧ Fb 400 S D) := by
  by_cases la : (a.length : Int) > 6
  · exact ⟨false, Ev.bindc (a := true) (by unfold gradineplain_Long.f; rw [if_pos la]) (Ev.ifp rfl (Ev.same rfl)), by simp⟩
  · by_cases lb : (b.length : Int) > 6
    · exact ⟨false, Ev.bindc (a := true) (by unfold gradineplain_Long.f; rw [if_neg la, decide_eq_true lb]) (Ev.ifp rfl (Ev.same rfl)), by simp⟩
    · obtain ⟨r, h1, h2⟩ := ref07_Right_c (a := a) (b := b) neg ⟨ha, by omega⟩ ⟨hb, by omega⟩ (by omega) (by omega)
      refine ⟨r, Ev.bindc (a := false) (by unfold gradineplain_Long.f; rw [if_neg la, decide_eq_false lb]) (Ev.ifn (by decide) (Ev.bind h1 (Ev.same rfl))), fun h => ?_⟩
      have hR := h2.1 h
      have ba := bl_nv ha
      have bb := bl_nv hb
      have na := nv_nonneg ha
      refine ⟨sgI neg (nv a), nv b, (RR_Rq ha hb hR).symm, RR_pos hb hR, ?_, by omega⟩
      have : ab (sgI neg (nv a)) = nv a := by unfold ab sgI; cases neg <;> simp <;> omega
      rw [this]
      omega
end Go.Proofs.Ytldcgclbgbhffaa.M
