/- Whole numbers are added, multiplied and held against each other as numbers of 32 bits are. -/
import Derived.Test.YtldcgclbgbhffaaFgradinelaw07same
import Derived.Test.YtldcgclbgbhffaaBrat
import Derived.Test.YtldcgclbgbhffaaS07
import Derived.Test.YtldcgclbgbhffaaFgradinelaw07RatInts
import Derived.Test.YtldcgclbgbhffaaC07c
namespace Go.Proofs.Ytldcgclbgbhffaa.Pure
open Go.RowKit Go.Proofs.Ytldcgclbgbhffaa.P Go.Proofs.Ytldcgclbgbhffaa.M Go.Proofs.YtldcgclbgbhffaaW.PrintWords Go.Proofs.YtldcgclbgbhffaaW.PrintLast Go.Proofs.YtldcgclbgbhffaaW.PrintMore

theorem wf_i32 {n : Int} (h : (Lit.int .i32 n).wf = true) : -2147483648 ≤ n ∧ n ≤ 2147483647 := by
  simp [Lit.wf, Go.IntKind.min, IntKind.max, IntKind.bits, IntKind.signed] at h
  omega
theorem RatInts : gradinelaw07_RatInts.Pure := by
  intro a b ha hb
  have ha := wf_i32 ha
  have hb := wf_i32 hb
  refine Ev.rounds ?_
  have out : Ev (fun k => (gradinelaw07_same.f k).bind fun t => some t) true := Ev.bind law07_same_c (Ev.same rfl)
  have mb : -4611686018427387904 ≤ a * b ∧ a * b ≤ 4611686018427387904 := by
    have h1 : a * b ≤ 2147483648 * 2147483648 := by
      rcases Int.le_total 0 b with k | k
      · have x := Int.mul_le_mul_of_nonneg_right (show a ≤ 2147483648 by omega) k
        omega
      · have x := Int.mul_le_mul_of_nonpos_right (show -2147483648 ≤ a by omega) k
        omega
    have h2 : -(2147483648 * 2147483648) ≤ a * b := by
      rcases Int.le_total 0 b with k | k
      · have x := Int.mul_le_mul_of_nonneg_right (show -2147483648 ≤ a by omega) k
        omega
      · have x := Int.mul_le_mul_of_nonpos_right (show a ≤ 2147483648 by omega) k
        omega
    omega
  have fit : ∀ {n : Int}, -9223372036854775808 ≤ n → n ≤ 9223372036854775807 → Fit n 1 := fun {n} h0 h1 => by
    refine ⟨by omega, ?_, by decide⟩
    have h2 : ab n < 2 ^ 64 := by unfold ab; split <;> omega
    have := bl_le_of h2
    omega
  have Fa := fit (n := a) (by omega) (by omega)
  have Fc := fit (n := b) (by omega) (by omega)
  have s1 : Fit (a * 1 + b * 1) (1 * 1) := by rw [Int.mul_one, Int.mul_one, Int.mul_one]; exact fit (by omega) (by omega)
  have s2 : Fit (a * 1 - b * 1) (1 * 1) := by rw [Int.mul_one, Int.mul_one, Int.mul_one]; exact fit (by omega) (by omega)
  have s3 : Fit (a * b) (1 * 1) := by rw [Int.mul_one]; exact fit (by omega) (by omega)
  unfold gradinelaw07_RatInts.f
  simp only [w64_id (n := a) (by omega) (by omega), w64_id (n := b) (by omega) (by omega), w64_id (n := a + b) (by omega) (by omega), w64_id (n := a * b) (by omega) (by omega), w64_id (n := a - b) (by omega) (by omega)]
  have O : ∀ {n : Int}, -9223372036854775808 ≤ n → n ≤ 9223372036854775807 → Ev (fun k => rat_Of.f k n) (Rq n 1) := fun h0 h1 => rat_Of_c h0 h1
  refine Ev.bind (O (by omega) (by omega)) (Ev.bind (O (by omega) (by omega)) (Ev.bind (rat_Add_c Fa Fc) (Ev.bind (O (n := a + b) (by omega) (by omega)) (Ev.bind (same_yes s1 (by omega) (by omega)) (Ev.ifp rfl ?_)))))
  refine Ev.bind (rat_Mul_c Fa Fc) (Ev.bind (O (n := a * b) (by omega) (by omega)) (Ev.bind (same_yes s3 (by omega) (by omega)) (Ev.ifp rfl ?_)))
  refine Ev.bind (rat_Sub_c Fa Fc) (Ev.bind (O (n := a - b) (by omega) (by omega)) (Ev.bind (same_yes s2 (by omega) (by omega)) ?_))
  refine Ev.eqv (fun k => gradinelaw07_RatInts.j0.eq_1 ..) (Ev.ifn (by decide) ?_)
  simp only [w64_id (n := a) (by omega) (by omega), w64_id (n := -a) (by omega) (by omega)]
  refine Ev.bind (rat_Cmp_c Fa Fc s2) (Ev.ifp ?_ (Ev.bind (rat_Neg_c Fa) (Ev.bind (O (n := -a) (by omega) (by omega)) (Ev.bind (same_yes (Fit_neg Fa) (by omega) rfl) (Ev.ifp rfl out)))))
  have : sgnI (a * 1 - b * 1) < 0 ↔ a < b := by rw [Int.mul_one, Int.mul_one]; unfold sgnI; split <;> (try split) <;> omega
  rw [show decide (sgnI (a * 1 - b * 1) < 0) = decide (a < b) from decide_eq_decide.2 this]
  simp
end Go.Proofs.Ytldcgclbgbhffaa.Pure
