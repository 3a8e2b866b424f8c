/- What the functions of nat answer: numbers moved up and down, bits; and whether two lists are the same. -/
import Derived.Test.YtldcgclbgbhffaaBgradineplain
import Derived.Test.YtldcgclbgbhffaaC02
namespace Go.Proofs.Ytldcgclbgbhffaa.M
open Go.RowKit Go.Proofs.Ytldcgclbgbhffaa.P Go.Proofs.YtldcgclbgbhffaaW.PrintWords Go.Proofs.YtldcgclbgbhffaaW.PrintLast Go.Proofs.YtldcgclbgbhffaaW.PrintMore
set_option linter.unusedVariables false

theorem Words_l {a b : List Int} (hl : a.length = b.length) (hb : a.length ≤ 4611686018427387904) (d : Nat) : ∀ i : Nat, i + d = a.length → (a.take i = b.take i) → Ev (fun k => gradineplain_Words.l0 k a b (a.length : Int) i) (decide (a = b)) := by
  induction d with
  | zero =>
    intro i hi he
    refine Ev.step (fun k => gradineplain_Words.l0.eq_2 ..) ?_
    refine Ev.ifn (by omega) (Ev.same ?_)
    rw [List.take_of_length_le (by omega), List.take_of_length_le (by omega)] at he
    simp [he]
  | succ d ih =>
    intro i hi he
    refine Ev.step (fun k => gradineplain_Words.l0.eq_2 ..) ?_
    refine Ev.ifp (by omega) (Ev.ifp (by omega) (Ev.ifp (by omega) (Ev.ifp (by omega) ?_)))
    by_cases hc : rd a (i : Int) = rd b (i : Int)
    · refine Ev.ifp hc ?_
      have e : wrap64 ((i : Int) + 1) = ((i + 1 : Nat) : Int) := by rw [w64_id (by omega) (by omega)]; omega
      rw [e]
      refine ih (i + 1) (by omega) ?_
      rw [take_rd (by omega), take_rd (by omega), he, hc]
    · refine Ev.ifn hc (Ev.same ?_)
      have hne : a ≠ b := fun h => hc (by rw [h])
      simp [hne]
theorem Words_c {a b : List Int} (ha : a.length ≤ 4611686018427387904) : Ev (fun k => gradineplain_Words.f k a b) (decide (a = b)) := by
  by_cases h : (a.length : Int) = (b.length : Int)
  · exact Ev.ifp h (Words_l (by omega) ha a.length 0 (by omega) rfl)
  · refine Ev.ifn h (Ev.same ?_)
    have hne : a ≠ b := fun e => h (by rw [e])
    simp [hne]

/-- A fact that linear arithmetic is not to look at. -/
structure Hd (p : Prop) : Prop where mk :: (out : p)
/-! ### Up and down -/
/-! ### Bits -/
end Go.Proofs.Ytldcgclbgbhffaa.M
