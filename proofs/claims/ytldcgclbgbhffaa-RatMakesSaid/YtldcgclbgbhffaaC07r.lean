/- What the reference's exact numbers answer. -/
import Derived.Test.YtldcgclbgbhffaaBgradineref07
import Derived.Test.YtldcgclbgbhffaaC05r
import Derived.Test.YtldcgclbgbhffaaM7
namespace Go.Proofs.Ytldcgclbgbhffaa.M
open Go.RowKit Go.Proofs.Ytldcgclbgbhffaa.P Go.Proofs.YtldcgclbgbhffaaW.PrintWords Go.Proofs.YtldcgclbgbhffaaW.PrintLast Go.Proofs.YtldcgclbgbhffaaW.PrintMore
set_option linter.unusedVariables false

theorem Rq_of (neg : Bool) {n d : Int} (hn : 0 < n) : Rq (sgI neg n) d = (neg, dg (n / gc n d), dg (d / gc n d)) := by
  cases neg
  · show Rq n d = _
    have : ab n = n := by unfold ab; rw [if_neg (by omega)]
    unfold Rq
    rw [if_neg (show ¬ n = 0 by omega), decide_eq_false (show ¬ n < 0 by omega), this]
  · show Rq (-n) d = _
    have : ab (-n) = n := by unfold ab; rw [if_pos (by omega)]; omega
    unfold Rq
    rw [if_neg (show ¬ -n = 0 by omega), decide_eq_true (show -n < 0 by omega), this]
theorem Rq_zero (neg : Bool) (d : Int) : Rq (sgI neg 0) d = (false, [], [1]) := by
  unfold Rq sgI
  cases neg <;> rfl
theorem ref07_Make_c {a b : List Int} (neg : Bool) (ha : Wl a) (hb : Wl b) (hla : a.length ≤ 1000) (hlb : b.length ≤ 1000) (hB : 0 < nv b) : Ev (fun k => gradineref07_Make.f k neg a b) (Rq (sgI neg (nv a)) (nv b)) := by
  have hA0 := nv_nonneg ha.1
  refine Ev.bind (ref02_Size_c ha) ?_
  by_cases hz : nv a = 0
  · rw [hz, Rq_zero]
    exact Ev.ifp rfl (Ev.same rfl)
  · rw [Rq_of neg (by omega)]
    refine Ev.ifn (fun k => hz ((dg_len_zero hA0).1 (by omega))) (Ev.bind (ref05_Gcd_c ha hb hla hlb) ?_)
    have g := gc_nonneg (nv a) (nv b)
    have gle : gc (nv a) (nv b) ≤ nv a := by
      have s := gc_split hA0 (Int.le_of_lt hB)
      have l := gc_le (a := nv b) (b := nv a) (Int.le_of_lt hB) (by omega)
      rw [gc_comm] at l
      have := Int.mul_le_mul_of_nonneg_right (show 1 ≤ nv a / gc (nv a) (nv b) by omega) g
      rw [s.1] at this
      omega
    have ba := bl_nv ha.1
    have bg := bl_mono gle
    have lg := dg_len_bl (gc (nv a) (nv b))
    have P1 := ref05_Part_c ha (g := dg (gc (nv a) (nv b))) (Wl_dg (by omega)) hla (by omega)
    have P2 := ref05_Part_c hb (g := dg (gc (nv a) (nv b))) (Wl_dg (by omega)) hlb (by omega)
    rw [nv_dg g] at P1 P2
    exact Ev.bind P1 (Ev.bind P2 (Ev.same rfl))
/-- Numbers that are gone through. -/
def Fit (S D : Int) : Prop := 0 < D ∧ bl (ab S) ≤ 14000 ∧ bl D ≤ 14000
theorem Rq_fit {S D : Int} (h : Fit S D) : ∃ N E : Int, Rq S D = (decide (S < 0), dg N, dg E) ∧ 0 ≤ N ∧ 0 < E ∧ bl N ≤ 14000 ∧ bl E ≤ 14000 ∧ sgI (decide (S < 0)) N * D = S * E ∧ (N = 0 ↔ S = 0) := by
  obtain ⟨N, E, h1, h2, h3, h4, h5, h6, h7, h8⟩ := Rq_spec S h.1
  have := bl_mono h4
  have := bl_mono h5
  have := h.2
  exact ⟨N, E, h1, h2, h3, by omega, by omega, Rq_signed h6 h7, h7⟩
theorem ref07_Words_l {a b : List Int} (hl : a.length = b.length) (ha : a.length ≤ 1000000) (d : Nat) : ∀ i : Nat, i + d = a.length → a.take i = b.take i → Ev (fun k => gradineref07_Words.l0 k a b (a.length : Int) i) (decide (a = b)) := by
  induction d with
  | zero =>
    intro i hi he
    refine Ev.step (fun k => gradineref07_Words.l0.eq_2 ..) (Ev.ifn (by omega) (Ev.same ?_))
    rw [List.take_of_length_le (by omega), List.take_of_length_le (by omega)] at he
    rw [decide_eq_true he]
  | succ d ih =>
    intro i hi he
    have e : wrap64 ((i : Int) + 1) = ((i + 1 : Nat) : Int) := by rw [w64_id (by omega) (by omega)]; omega
    refine Ev.step (fun k => gradineref07_Words.l0.eq_2 ..) (Ev.ifp (by omega) (Ev.ifp (by omega) (Ev.ifp (by omega) (Ev.ifp (by omega) ?_))))
    by_cases h : rd a (i : Int) = rd b (i : Int)
    · refine Ev.ifp h ?_
      rw [e]
      exact ih (i + 1) (by omega) (by rw [take_rd (by omega), take_rd (by omega), he, h])
    · refine Ev.ifn h (Ev.same ?_)
      rw [decide_eq_false (fun k => h (by rw [k]))]
theorem ref07_Words_c {a b : List Int} (ha : a.length ≤ 1000000) : Ev (fun k => gradineref07_Words.f k a b) (decide (a = b)) := by
  by_cases h : (a.length : Int) = (b.length : Int)
  · exact Ev.ifp h (ref07_Words_l (by omega) ha a.length 0 (by omega) rfl)
  · exact Ev.ifn h (Ev.same (by rw [decide_eq_false (fun k => h (by rw [k]))]))
theorem ref07_Same_c {s s' : Bool} {a b a' b' : List Int} (ha : a.length ≤ 1000000) (hb : b.length ≤ 1000000) : Ev (fun k => gradineref07_Same.f k s a b s' a' b') (decide ((s, a, b) = (s', a', b'))) := by
  by_cases hs : s = s'
  · refine Ev.ifp (by rw [hs]; simp) (Ev.bind (ref07_Words_c ha) ?_)
    by_cases h1 : a = a'
    · refine Ev.ifp (decide_eq_true h1) (Ev.bind (ref07_Words_c hb) (Ev.same ?_))
      congr 1
      rw [hs, h1]
      simp
    · refine Ev.ifn (by rw [decide_eq_false h1]; decide) (Ev.same ?_)
      rw [decide_eq_false]
      simp [h1]
  · refine Ev.ifn (by simp [hs]) (Ev.same ?_)
    rw [decide_eq_false]
    simp [hs]
end Go.Proofs.Ytldcgclbgbhffaa.M
