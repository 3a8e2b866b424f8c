/- The known results that each statement of fround asks besides. -/
import Derived.Test.YtbpggonjcnakgaaC10
import Derived.Test.YtbpggonjcnakgaaFgradinelaw10same
namespace Go.Proofs.Ytbpggonjcnakgaa.M
open Go.RowKit Go.Proofs.Ytbpggonjcnakgaa.P Go.Proofs.YtbpggonjcnakgaaW.PrintWords Go.Proofs.YtbpggonjcnakgaaW.PrintLast Go.Proofs.YtbpggonjcnakgaaW.PrintMore
set_option linter.unusedVariables false

theorem law10_same_c : Ev (fun k => gradinelaw10_same.f k) true := by
  have h1 := fround_Word_c (m := 9007199254740993) (e := 0) false (by unfold U; omega)
  rw [show sgn false (Rd 9007199254740993 (ce 0)) = 4845873199050653696 by decide] at h1
  have h2 := fround_Word_c (m := 9007199254740995) (e := 0) false (by unfold U; omega)
  rw [show sgn false (Rd 9007199254740995 (ce 0)) = 4845873199050653698 by decide] at h2
  have h3 := fround_FromInt_c (n := -1) (by omega) (by omega)
  rw [show sgn (decide ((-1 : Int) < 0)) (Rd (if (-1 : Int) < 0 then - (-1) else -1) 0) = 13830554455654793216 by decide] at h3
  refine Ev.bind h1 (Ev.ifp rfl (Ev.bind h2 (Ev.ifp rfl (Ev.bind h3 (Ev.same rfl)))))
end Go.Proofs.Ytbpggonjcnakgaa.M
