/- The known results that each statement of fcmp asks besides. -/
import Derived.Test.YtbpggonjcnakgaaC13
import Derived.Test.YtbpggonjcnakgaaFgradinelaw13same
namespace Go.Proofs.Ytbpggonjcnakgaa.M
open Go.RowKit Go.Proofs.Ytbpggonjcnakgaa.P Go.Proofs.YtbpggonjcnakgaaW.PrintWords Go.Proofs.YtbpggonjcnakgaaW.PrintLast Go.Proofs.YtbpggonjcnakgaaW.PrintMore
set_option linter.unusedVariables false

theorem law13_same_c : Ev (fun k => gradinelaw13_same.f k) true := by
  have h1 := fcmp_Near_c (b := 4612811918334230528) (by unfold U; omega)
  rw [show near 4612811918334230528 = (2, true) by decide] at h1
  have h2 := fcmp_Scale_c (b := 4607182418800017408) (k := -1074) (by unfold U; omega)
  rw [show fscale 4607182418800017408 (-1074) = 1 by decide] at h2
  refine Ev.bind h1 (Ev.bindc (fcmp_Less_c (a := 9223372036854775808) (b := 0) (by unfold U; omega) (by unfold U; omega)) ?_)
  refine Ev.ifn (by decide) (Ev.bindc (fcmp_Same_c (a := 9223372036854775808) (b := 0) (by unfold U; omega) (by unfold U; omega)) ?_)
  exact Ev.ifp (by decide) (Ev.ifp rfl (Ev.ifp rfl (Ev.bind h2 (Ev.same rfl))))
end Go.Proofs.Ytbpggonjcnakgaa.M
