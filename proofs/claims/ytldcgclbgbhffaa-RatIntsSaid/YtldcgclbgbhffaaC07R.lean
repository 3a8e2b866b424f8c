/- What a right number is, told by the reference and by the program. -/
import Derived.Test.YtldcgclbgbhffaaC07r
import Derived.Test.YtldcgclbgbhffaaC05
import Derived.Test.YtldcgclbgbhffaaBgradineref07
namespace Go.Proofs.Ytldcgclbgbhffaa.M
open Go.RowKit Go.Proofs.Ytldcgclbgbhffaa.P Go.Proofs.YtldcgclbgbhffaaW.PrintWords Go.Proofs.YtldcgclbgbhffaaW.PrintLast Go.Proofs.YtldcgclbgbhffaaW.PrintMore
set_option linter.unusedVariables false

theorem cmpI_zero {x y : Int} : cmpI x y = 0 ↔ x = y := by unfold cmpI; split <;> (try split) <;> omega
/-- What a right number is. -/
def RR (neg : Bool) (a b : List Int) : Prop := dg (nv a) = a ∧ dg (nv b) = b ∧ b.length ≠ 0 ∧ (neg = true → a.length ≠ 0) ∧ gc (nv a) (nv b) = 1
theorem ref07_Right_c {a b : List Int} (neg : Bool) (ha : Wl a) (hb : Wl b) (hla : a.length ≤ 1000) (hlb : b.length ≤ 1000) : ∃ r, Ev (fun k => gradineref07_Right.f k neg a b) r ∧ (r = true ↔ RR neg a b) := by
  have na := nv_nonneg ha.1
  have nb := nv_nonneg hb.1
  have bt : ∀ {x : Bool}, x = true → Ev (fun k => gradineref07_Right.j0 k x neg a b) false := fun h => Ev.eqv (fun k => gradineref07_Right.j0.eq_1 ..) (Ev.ifp h (Ev.same rfl))
  have bf : ∀ {x : Bool}, x = false → Ev (fun k => gradineref07_Right.j0 k x neg a b) (decide (gc (nv a) (nv b) = 1)) := fun h => by
    refine Ev.eqv (fun k => gradineref07_Right.j0.eq_1 ..) (Ev.ifn (by rw [h]; decide) (Ev.bind (ref05_Gcd_c ha hb hla hlb) ?_))
    have hg := gc_nonneg (nv a) (nv b)
    have C := ref02_Cmp_c (a := dg (gc (nv a) (nv b))) (b := [1]) (Wl_dg (by
      have h1 := bl_gc na nb (m := 64000) (by have := bl_nv ha.1; omega) (by have := bl_nv hb.1; omega)
      omega)) ⟨Ws_one (by unfold U; omega), by decide⟩
    rw [nv_dg hg, nv_one] at C
    refine Ev.bind C (Ev.same ?_)
    congr 1
    have := cmpI_zero (x := gc (nv a) (nv b)) (y := 1)
    by_cases h2 : gc (nv a) (nv b) = 1
    · rw [decide_eq_true h2, this.2 h2]; rfl
    · rw [decide_eq_false h2]
      exact beq_eq_false_iff_ne.2 (fun k => h2 (this.1 k))
  unfold RR
  by_cases h1 : dg (nv a) = a
  · by_cases h2 : dg (nv b) = b
    · by_cases h3 : b.length = 0
      · exact ⟨_, Ev.bind (ref02_Right_c ha) (Ev.ifp (decide_eq_true h1) (Ev.bind (ref02_Right_c hb) (Ev.ifp (decide_eq_true h2) (Ev.ifp (by omega) (bt rfl))))), by simp [h3]⟩
      · have pre : ∀ {r : Bool}, Ev (fun k => if neg = true then gradineref07_Right.j0 k ((a.length : Int) == 0) neg a b else gradineref07_Right.j0 k false neg a b) r → Ev (fun k => gradineref07_Right.f k neg a b) r := fun h =>
          Ev.bind (ref02_Right_c ha) (Ev.ifp (decide_eq_true h1) (Ev.bind (ref02_Right_c hb) (Ev.ifp (decide_eq_true h2) (Ev.ifn (by omega) h))))
        cases neg
        · exact ⟨_, pre (Ev.ifn (by decide) (bf rfl)), by simp [h1, h2, h3]⟩
        · by_cases h4 : a.length = 0
          · exact ⟨_, pre (Ev.ifp rfl (bt (by rw [h4]; rfl))), by simp [h4]⟩
          · exact ⟨_, pre (Ev.ifp rfl (bf (beq_eq_false_iff_ne.2 (by omega)))), by simp [h1, h2, h3, h4]⟩
    · exact ⟨_, Ev.bind (ref02_Right_c ha) (Ev.ifp (decide_eq_true h1) (Ev.bind (ref02_Right_c hb) (Ev.ifn (by simp [h2]) (bt rfl)))), by simp [h2]⟩
  · exact ⟨_, Ev.bind (ref02_Right_c ha) (Ev.ifn (by simp [h1]) (bt rfl)), by simp [h1]⟩
theorem RR_pos {neg : Bool} {a b : List Int} (hb : Ws b) (h : RR neg a b) : 0 < nv b := by
  obtain ⟨h1, h2, h3, h4, h5⟩ := h
  have nb := nv_nonneg hb
  rcases (show nv b = 0 ∨ 0 < nv b by omega) with k | k
  · exfalso; apply h3; rw [← h2, k, dg_zero]; rfl
  · exact k
/-- A right number is what its quotient is. -/
theorem RR_Rq {neg : Bool} {a b : List Int} (ha : Ws a) (hb : Ws b) (h : RR neg a b) : Rq (sgI neg (nv a)) (nv b) = (neg, a, b) := by
  have hB := RR_pos hb h
  obtain ⟨h1, h2, h3, h4, h5⟩ := h
  have na := nv_nonneg ha
  rcases (show nv a = 0 ∨ 0 < nv a by omega) with k | k
  · have ea : a = [] := by rw [← h1, k, dg_zero]
    have en : neg = false := by
      cases neg
      · rfl
      · exact absurd (by rw [ea]; rfl) (h4 rfl)
    rw [k, gc_comm, gc_zero (by omega)] at h5
    rw [k, en, ea, ← h2, h5, dg_one]
    rfl
  · rw [Rq_of neg k, h5, Int.ediv_one, Int.ediv_one, h1, h2]
end Go.Proofs.Ytldcgclbgbhffaa.M
