/- The known results that each statement of limb asks besides. -/
import Derived.Test.YtldcgclbgbhffaaC01
import Derived.Test.YtldcgclbgbhffaaFgradinelaw01same
namespace Go.Proofs.Ytldcgclbgbhffaa.M
open Go.RowKit Go.Proofs.Ytldcgclbgbhffaa.P Go.Proofs.YtldcgclbgbhffaaW.PrintWords Go.Proofs.YtldcgclbgbhffaaW.PrintLast Go.Proofs.YtldcgclbgbhffaaW.PrintMore
set_option linter.unusedVariables false

theorem law01_same_c : Ev (fun k => gradinelaw01_same.f k) true := by
  refine Ev.bindc (limb_Add_c (a := 18446744073709551615) (b := 1) (c := 0) (by unfold U; omega) (by unfold U; omega) (by unfold U; omega)) ?_
  refine Ev.bind (limb_Div_c (hi := 1) (lo := 1) (d := 2) (by omega) (by omega) (by omega) (by unfold U; omega)) ?_
  refine Ev.ifp (by decide) (Ev.ifp (by decide) (Ev.ifp (by decide) (Ev.ifp (by decide) (Ev.ifp (by decide) ?_))))
  exact Ev.bind (limb_Len_c (x := 5) (by unfold U; omega)) (Ev.same (by decide))
end Go.Proofs.Ytldcgclbgbhffaa.M
