/- What the lowest functions of rat answer, over numbers. -/
import Derived.Test.YtldcgclbgbhffaaC05
import Derived.Test.YtldcgclbgbhffaaM7
import Derived.Test.YtldcgclbgbhffaaBrat
namespace Go.Proofs.Ytldcgclbgbhffaa.M
open Go.RowKit Go.Proofs.Ytldcgclbgbhffaa.P Go.Proofs.YtldcgclbgbhffaaW.PrintWords Go.Proofs.YtldcgclbgbhffaaW.PrintLast Go.Proofs.YtldcgclbgbhffaaW.PrintMore
set_option linter.unusedVariables false

theorem rat_lowest_c {a b : List Int} (neg : Bool) (ha : Wl a) (hb : Wl b) (hla : a.length ≤ 1000) (hlb : b.length ≤ 1000) (hB : 0 < nv b) : Ev (fun k => rat_lowest.f k neg a b) (Rq (sgI neg (nv a)) (nv b)) := by
  have na := nv_nonneg ha.1
  refine Ev.bind (gcd_Reduce_c ha hb hla hlb) ?_
  dsimp only
  rcases (show nv a = 0 ∨ 0 < nv a by omega) with h | h
  · have e0 : gc (nv a) (nv b) = nv b := by rw [h, gc_comm]; exact gc_zero (by omega)
    have e1 : Rq (sgI neg (nv a)) (nv b) = (false, [], [1]) := by
      rw [h]; unfold Rq sgI; cases neg <;> rfl
    rw [e0, e1, h, Int.zero_ediv, Int.ediv_self (by omega), dg_zero, dg_one]
    cases neg
    · exact Ev.ifn (by decide) (Ev.same rfl)
    · exact Ev.ifp rfl (Ev.same rfl)
  · have hs := gc_split (show 0 ≤ nv a by omega) (show 0 ≤ nv b by omega)
    have hg := gc_pos (a := nv a) (b := nv b) (.inl h)
    have hq : 0 < nv a / gc (nv a) (nv b) := by
      rcases Int.lt_or_le 0 (nv a / gc (nv a) (nv b)) with k | k
      · exact k
      · have := Int.mul_nonpos_of_nonpos_of_nonneg k (show 0 ≤ gc (nv a) (nv b) by omega)
        omega
    have e1 : Rq (sgI neg (nv a)) (nv b) = (neg, dg (nv a / gc (nv a) (nv b)), dg (nv b / gc (nv a) (nv b))) := by
      unfold Rq
      have : sgI neg (nv a) ≠ 0 ∧ ab (sgI neg (nv a)) = nv a ∧ decide (sgI neg (nv a) < 0) = neg := by
        cases neg
        · refine ⟨by unfold sgI; simp; omega, by unfold ab sgI; simp; omega, by unfold sgI; simp; omega⟩
        · refine ⟨by unfold sgI; simp; omega, by unfold ab sgI; simp; omega, by unfold sgI; simp; omega⟩
      rw [if_neg this.1, this.2.1, this.2.2]
    rw [e1]
    have hl : dg (nv a / gc (nv a) (nv b)) ≠ [] := by rw [dg_pos hq]; exact List.cons_ne_nil _ _
    cases neg
    · exact Ev.ifn (by decide) (Ev.same rfl)
    · refine Ev.ifp rfl (Ev.same ?_)
      have : 0 < (dg (nv a / gc (nv a) (nv b))).length := List.length_pos_iff.2 hl
      rw [decide_eq_true (show ((dg (nv a / gc (nv a) (nv b))).length : Int) > 0 by omega)]
theorem rat_Make_c {a b : List Int} (neg : Bool) (ha : Wl a) (hb : Wl b) (hla : a.length ≤ 1000) (hlb : b.length ≤ 1000) :
    Ev (fun k => rat_Make.f k neg a b) (if nv b = 0 then (false, [], [], 4) else ((Rq (sgI neg (nv a)) (nv b)).1, (Rq (sgI neg (nv a)) (nv b)).2.1, (Rq (sgI neg (nv a)) (nv b)).2.2, 0)) := by
  have nb := nv_nonneg hb.1
  refine Ev.bind (nat_Bits_c hb) ?_
  by_cases h : nv b = 0
  · rw [if_pos h, h]
    exact Ev.ifp rfl (Ev.same rfl)
  · rw [if_neg h]
    have := bl_pos (x := nv b) (by omega)
    exact Ev.ifn (by omega) (Ev.bind (rat_lowest_c neg ha hb hla hlb (by omega)) (Ev.same rfl))
theorem rat_Sign_c {a b : List Int} (neg : Bool) (ha : Wl a) : Ev (fun k => rat_Sign.f k neg a b) (if nv a = 0 then 0 else if neg then -1 else 1) := by
  have na := nv_nonneg ha.1
  refine Ev.bind (nat_Bits_c ha) ?_
  by_cases h : nv a = 0
  · rw [if_pos h, h]
    exact Ev.ifp rfl (Ev.same rfl)
  · rw [if_neg h]
    have := bl_pos (x := nv a) (by omega)
    refine Ev.ifn (by omega) ?_
    cases neg
    · exact Ev.ifn (by decide) (Ev.same rfl)
    · exact Ev.ifp rfl (Ev.same rfl)
end Go.Proofs.Ytldcgclbgbhffaa.M
