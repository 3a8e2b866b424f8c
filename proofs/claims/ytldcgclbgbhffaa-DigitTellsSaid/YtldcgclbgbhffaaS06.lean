/- The known results that each statement of digit asks besides. -/
import Derived.Test.YtldcgclbgbhffaaC06b
import Derived.Test.YtldcgclbgbhffaaS02
import Derived.Test.YtldcgclbgbhffaaFgradinelaw06same
namespace Go.Proofs.Ytldcgclbgbhffaa.M
open Go.RowKit Go.Proofs.Ytldcgclbgbhffaa.P Go.Proofs.YtldcgclbgbhffaaW.PrintWords Go.Proofs.YtldcgclbgbhffaaW.PrintLast Go.Proofs.YtldcgclbgbhffaaW.PrintMore
def big : List Int := [49, 56, 52, 52, 54, 55, 52, 52, 48, 55, 51, 55, 48, 57, 53, 53, 49, 54, 49, 54]
theorem big_Tx : Tx big := ⟨by unfold Dd big; decide, by unfold big; simp, fun _ => by unfold big rd; decide⟩
theorem big_dv : dv big = 18446744073709551616 := by decide
theorem law06_same_c : Ev (fun k => gradinelaw06_same.f k) true := by
  have w1 : Wl [0, 1] := ⟨Ws_cons.2 ⟨U_lit, Ws_one U_lit⟩, by simp⟩
  have ev : nv [0, 1] = 18446744073709551616 := by simp [nv]
  have e1 : dg 18446744073709551616 = [0, 1] := dg_of w1.1 (.inr (by simp)) ev
  have h1 := digit_Read_yes (s := ⟨#[49, 56, 52, 52, 54, 55, 52, 52, 48, 55, 51, 55, 48, 57, 53, 53, 49, 54, 49, 54]⟩) big_Tx (by decide)
  have hb : byt ⟨#[49, 56, 52, 52, 54, 55, 52, 52, 48, 55, 51, 55, 48, 57, 53, 53, 49, 54, 49, 54]⟩ = big := rfl
  rw [hb, big_dv, e1] at h1
  have h2 := digit_Read_no (s := ⟨#[48, 48, 55]⟩) (fun h => h.2.2 (by decide) rfl) (by decide)
  have h3 := digit_Show_c w1 (by simp)
  have e3 : sh (nv [0, 1]) = big := by rw [ev, ← big_dv, sh_dv big_Tx]
  rw [e3] at h3
  refine Ev.bind h1 (Ev.bind h2 (Ev.bind h3 (Ev.ifp ?_ ?_)))
  · rw [ByteArray.toList_eq, strOfNums_data]; rfl
  · exact Ev.ifp rfl (Ev.ifp (by decide) (Ev.ifp rfl (Ev.ifp rfl (Ev.same rfl))))
end Go.Proofs.Ytldcgclbgbhffaa.M
