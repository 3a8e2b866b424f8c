/- The least common multiple. -/
import Derived.Test.YtldcgclbgbhffaaC05
import Derived.Test.YtldcgclbgbhffaaC05r
import Derived.Test.YtldcgclbgbhffaaC03
import Derived.Test.YtldcgclbgbhffaaFgradinelaw05same
import Derived.Test.YtldcgclbgbhffaaS02
namespace Go.Proofs.Ytldcgclbgbhffaa.M
open Go.RowKit Go.Proofs.Ytldcgclbgbhffaa.P Go.Proofs.YtldcgclbgbhffaaW.PrintWords Go.Proofs.YtldcgclbgbhffaaW.PrintLast Go.Proofs.YtldcgclbgbhffaaW.PrintMore
set_option linter.unusedVariables false

theorem law05_same_c : Ev (fun k => gradinelaw05_same.f k) true := by
  have w1 : Wl [12] := ⟨Ws_one U_lit, by simp⟩
  have w2 : Wl [18] := ⟨Ws_one U_lit, by simp⟩
  have G := gcd_Gcd_c w1 w2 (by simp) (by simp)
  have R := gcd_Reduce_c w1 w2 (by simp) (by simp)
  have e1 : gc 12 18 = 6 := by decide
  have e2 : dg 6 = [6] := dg_of (Ws_one U_lit) (.inr (by simp)) (by rw [nv_one])
  have e3 : dg 2 = [2] := dg_of (Ws_one U_lit) (.inr (by simp)) (by rw [nv_one])
  have e4 : dg 3 = [3] := dg_of (Ws_one U_lit) (.inr (by simp)) (by rw [nv_one])
  rw [nv_one, nv_one, e1, e2] at G
  rw [nv_one, nv_one, e1, show (12 : Int) / 6 = 2 by decide, show (18 : Int) / 6 = 3 by decide, e3, e4] at R
  refine Ev.bind G (Ev.bind R ?_)
  exact Ev.ifp rfl (Ev.ifp (by decide) (Ev.ifp rfl (Ev.ifp rfl (Ev.ifp (by decide) (Ev.ifp rfl (Ev.ifp rfl (Ev.ifp (by decide) (Ev.same rfl))))))))
end Go.Proofs.Ytldcgclbgbhffaa.M
