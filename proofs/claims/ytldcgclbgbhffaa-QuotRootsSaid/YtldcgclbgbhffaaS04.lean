/- The known results that each statement of quot asks besides. -/
import Derived.Test.YtldcgclbgbhffaaC04d
import Derived.Test.YtldcgclbgbhffaaC03
import Derived.Test.YtldcgclbgbhffaaS02
import Derived.Test.YtldcgclbgbhffaaFgradinelaw04same
namespace Go.Proofs.Ytldcgclbgbhffaa.M
open Go.RowKit Go.Proofs.Ytldcgclbgbhffaa.P Go.Proofs.YtldcgclbgbhffaaW.PrintWords Go.Proofs.YtldcgclbgbhffaaW.PrintLast Go.Proofs.YtldcgclbgbhffaaW.PrintMore
theorem law04_same_c : Ev (fun k => gradinelaw04_same.f k) true := by
  have w1 : Wl [0, 0, 1] := ⟨Ws_cons.2 ⟨U_lit, Ws_cons.2 ⟨U_lit, Ws_one U_lit⟩⟩, by simp⟩
  have w2 : Wl [1, 1] := ⟨Ws_cons.2 ⟨U_lit, Ws_one U_lit⟩, by simp⟩
  have w3 : Wl [99] := ⟨Ws_one U_lit, by simp⟩
  have D := quot_Div_c w1 w2 (by simp)
  have v1 : nv [0, 0, 1] = 340282366920938463463374607431768211456 := by simp [nv]
  have v2 : nv [1, 1] = 18446744073709551617 := by simp [nv]
  have e1 : dg (340282366920938463463374607431768211456 / 18446744073709551617) = [18446744073709551615] := dg_of (Ws_one U_lit) (.inr (by simp)) (by rw [nv_one]; decide)
  have e2 : dg (340282366920938463463374607431768211456 % 18446744073709551617) = [1] := dg_of (Ws_one U_lit) (.inr (by simp)) (by rw [nv_one]; decide)
  have e3 : dg 9 = [9] := dg_of (Ws_one U_lit) (.inr (by simp)) (by rw [nv_one])
  rw [v1, v2, if_neg (by decide), e1, e2] at D
  have R := quot_Root_c w3 (by simp) (r := 9) (by rw [nv_one]; exact ⟨by omega, by omega, by omega⟩)
  rw [e3] at R
  refine Ev.bind D (Ev.bind R (Ev.same rfl))
end Go.Proofs.Ytldcgclbgbhffaa.M
