/- The known results that each statement of fprod asks besides. -/
import Derived.Test.YtbpggonjcnakgaaC12
import Derived.Test.YtbpggonjcnakgaaFgradinelaw12same
namespace Go.Proofs.Ytbpggonjcnakgaa.M
open Go.RowKit Go.Proofs.Ytbpggonjcnakgaa.P Go.Proofs.YtbpggonjcnakgaaW.PrintWords Go.Proofs.YtbpggonjcnakgaaW.PrintLast Go.Proofs.YtbpggonjcnakgaaW.PrintMore
set_option linter.unusedVariables false

theorem law12_same_c : Ev (fun k => gradinelaw12_same.f k) true := by
  have h1 := fprod_Div_c (a := 4607182418800017408) (b := 4613937818241073152) (by unfold U; omega) (by unfold U; omega)
  rw [show fdiv 4607182418800017408 4613937818241073152 = 4599676419421066581 by decide] at h1
  have h2 := fprod_Sqrt_c (b := 4611686018427387904) (w := 4609047870845172685) (by unfold U; omega) (by decide) (by decide) (by decide) (by decide)
    ⟨75, -64, 13043817825332782212, by decide, ⟨by decide, by decide, by decide⟩, by decide, by decide⟩
  have h3 := fprod_Mul_c (a := 0) (b := 9218868437227405312) (by unfold U; omega) (by unfold U; omega)
  rw [show fmul 0 9218868437227405312 = 9221120237041090560 by decide] at h3
  exact Ev.bind h1 (Ev.ifp rfl (Ev.bind h2 (Ev.ifp rfl (Ev.bind h3 (Ev.same rfl)))))
end Go.Proofs.Ytbpggonjcnakgaa.M
