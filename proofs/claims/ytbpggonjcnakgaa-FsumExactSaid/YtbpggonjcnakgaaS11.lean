/- The known results that each statement of fsum asks besides. -/
import Derived.Test.YtbpggonjcnakgaaC11
import Derived.Test.YtbpggonjcnakgaaFgradinelaw11same
namespace Go.Proofs.Ytbpggonjcnakgaa.M
open Go.RowKit Go.Proofs.Ytbpggonjcnakgaa.P Go.Proofs.YtbpggonjcnakgaaW.PrintWords Go.Proofs.YtbpggonjcnakgaaW.PrintLast Go.Proofs.YtbpggonjcnakgaaW.PrintMore
set_option linter.unusedVariables false

theorem law11_same_c : Ev (fun k => gradinelaw11_same.f k) true := by
  have h1 := fsum_Add_c (a := 4607182418800017408) (b := 4368491638549381120) (by unfold U; omega) (by unfold U; omega)
  rw [show fadd 4607182418800017408 4368491638549381120 = 4607182418800017408 by decide] at h1
  have h2 := fsum_Sub_c (a := 4607182418800017408) (b := 4607182418800017408) (by unfold U; omega) (by unfold U; omega)
  rw [show fsub 4607182418800017408 4607182418800017408 = 0 by decide] at h2
  have h3 := fsum_Sub_c (a := 9218868437227405312) (b := 9218868437227405312) (by unfold U; omega) (by unfold U; omega)
  rw [show fsub 9218868437227405312 9218868437227405312 = 9221120237041090560 by decide] at h3
  exact Ev.bind h1 (Ev.ifp rfl (Ev.bind h2 (Ev.ifp rfl (Ev.bind h3 (Ev.same rfl)))))
end Go.Proofs.Ytbpggonjcnakgaa.M
