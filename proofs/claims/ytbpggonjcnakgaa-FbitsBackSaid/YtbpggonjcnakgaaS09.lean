/- The known results that each statement of fbits asks besides. -/
import Derived.Test.YtbpggonjcnakgaaC09
import Derived.Test.YtbpggonjcnakgaaFgradinelaw09same
namespace Go.Proofs.Ytbpggonjcnakgaa.M
open Go.RowKit Go.Proofs.Ytbpggonjcnakgaa.P Go.Proofs.YtbpggonjcnakgaaW.PrintWords Go.Proofs.YtbpggonjcnakgaaW.PrintLast Go.Proofs.YtbpggonjcnakgaaW.PrintMore
set_option linter.unusedVariables false

theorem law09_same_c : Ev (fun k => gradinelaw09_same.f k) true := by
  have h1 := fbits_Parts_c (b := 4607182418800017408) (by unfold U; omega)
  rw [show (if fx 4607182418800017408 = 2047 then (false, 0, 0, false) else (fs 4607182418800017408, pm 4607182418800017408, pe 4607182418800017408, true)) = (false, 4503599627370496, -52, true) by decide] at h1
  have h2 := fbits_Make_c (m := 3) (e := -1075) false (by unfold U; omega) (by omega) (by omega)
  rw [show Mk false 3 (-1075) = (0, false) by decide] at h2
  have h3 := fbits_Make_c (m := 4) (e := -1075) true (by unfold U; omega) (by omega) (by omega)
  rw [show Mk true 4 (-1075) = (9223372036854775810, true) by decide] at h3
  refine Ev.bind h1 (Ev.bind h2 (Ev.bind h3 ?_))
  exact Ev.ifn (by decide) (Ev.ifp rfl (Ev.ifp rfl (Ev.ifp rfl (Ev.ifn (by decide) (Ev.ifp rfl (Ev.ifp rfl (Ev.bindc (fbits_Kind_c (b := 9223372036854775810) (by unfold U; omega)) (Ev.same (by decide)))))))))
end Go.Proofs.Ytbpggonjcnakgaa.M
