/- The known results that each statement of rat asks besides. -/
import Derived.Test.YtldcgclbgbhffaaC07a
import Derived.Test.YtldcgclbgbhffaaFgradinelaw07same
namespace Go.Proofs.Ytldcgclbgbhffaa.M
open Go.RowKit Go.Proofs.Ytldcgclbgbhffaa.P Go.Proofs.YtldcgclbgbhffaaW.PrintWords Go.Proofs.YtldcgclbgbhffaaW.PrintLast Go.Proofs.YtldcgclbgbhffaaW.PrintMore
set_option linter.unusedVariables false

theorem dg_unit {x : Int} (h0 : 0 < x) (h1 : x < 18446744073709551616) : dg x = [x] := by
  rw [dg_pos h0, dg_nil (by omega), Int.emod_eq_of_lt (by omega) h1]
theorem law07_same_c : Ev (fun k => gradinelaw07_same.f k) true := by
  have w : ∀ x : Int, 0 ≤ x → x < 1000 → Wl [x] := fun x h0 h1 => ⟨Ws_one (by unfold U; omega), by simp⟩
  have M1 := rat_Make_c false (w 1 (by omega) (by omega)) (w 6 (by omega) (by omega)) (by decide) (by decide)
  have M2 := rat_Make_c false (w 2 (by omega) (by omega)) (w 20 (by omega) (by omega)) (by decide) (by decide)
  rw [nv_one, nv_one, if_neg (by decide)] at M1 M2
  have s1 : sgI false 1 = 1 := by decide
  have s2 : sgI false 2 = 2 := by decide
  rw [s1] at M1
  rw [s2] at M2
  have f1 : Fit 1 6 := ⟨by decide, by decide, by decide⟩
  have f2 : Fit 2 20 := ⟨by decide, by decide, by decide⟩
  have A := rat_Add_c f1 f2
  have e : Rq (1 * 20 + 2 * 6) (6 * 20) = (false, [4], [15]) := by
    have g : gc (ab (1 * 20 + 2 * 6)) (6 * 20) = 8 := by decide
    unfold Rq
    rw [if_neg (by decide), g, show ab (1 * 20 + 2 * 6) / 8 = 4 by decide, show (6 * 20 : Int) / 8 = 15 by decide, dg_unit (by omega) (by omega), dg_unit (by omega) (by omega)]
    rfl
  rw [e] at A
  have O := rat_Of_c (n := -3) (by omega) (by omega)
  have e3 : Rq (-3) 1 = (true, [3], [1]) := by
    have g : gc (ab (-3)) 1 = 1 := by decide
    unfold Rq
    rw [if_neg (by decide), g, show ab (-3) / 1 = 3 by decide, show (1 : Int) / 1 = 1 by decide, dg_unit (by omega) (by omega), dg_one]
    rfl
  rw [e3] at O
  have S := rat_Sign_c (b := [1]) true (w 3 (by omega) (by omega))
  rw [nv_one, if_neg (by decide), if_pos rfl] at S
  refine Ev.bind M1 (Ev.bind M2 (Ev.bind A ?_))
  exact Ev.ifp rfl (Ev.ifp rfl (Ev.ifp rfl (Ev.ifp (by decide) (Ev.ifp rfl (Ev.ifp rfl (Ev.ifp (by decide) (Ev.ifp rfl (Ev.bind O (Ev.bind S (Ev.same rfl))))))))))
end Go.Proofs.Ytldcgclbgbhffaa.M
