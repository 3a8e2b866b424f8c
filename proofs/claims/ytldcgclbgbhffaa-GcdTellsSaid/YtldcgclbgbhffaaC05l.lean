/- The least common multiple. -/
import Derived.Test.YtldcgclbgbhffaaC05
import Derived.Test.YtldcgclbgbhffaaC05r
import Derived.Test.YtldcgclbgbhffaaC03
import Derived.Test.YtldcgclbgbhffaaBgcd
import Derived.Test.YtldcgclbgbhffaaBgradineref05
import Derived.Test.YtldcgclbgbhffaaFgradinelaw05same
import Derived.Test.YtldcgclbgbhffaaS02
namespace Go.Proofs.Ytldcgclbgbhffaa.M
open Go.RowKit Go.Proofs.Ytldcgclbgbhffaa.P Go.Proofs.YtldcgclbgbhffaaW.PrintWords Go.Proofs.YtldcgclbgbhffaaW.PrintLast Go.Proofs.YtldcgclbgbhffaaW.PrintMore
set_option linter.unusedVariables false

theorem ediv_le_bl {b g : Int} (hb : 0 ≤ b) (hg : 0 ≤ g) {m : Int} (h : bl b ≤ m) : 0 ≤ b / g ∧ bl (b / g) ≤ m := by
  have h1 := Int.ediv_le_self g hb
  have := bl_mono h1
  exact ⟨Int.ediv_nonneg hb hg, by omega⟩
theorem gcd_Lcm_c {a b : List Int} (ha : Wl a) (hb : Wl b) (hla : a.length ≤ 900) (hlb : b.length ≤ 900) : Ev (fun k => gcd_Lcm.f k a b) (dg (nv a * (nv b / gc (nv a) (nv b)))) := by
  have bb := bl_nv hb.1
  obtain ⟨q0, q1⟩ := ediv_le_bl (nv_nonneg hb.1) (gc_nonneg (nv a) (nv b)) (m := 57600) (by omega)
  have lq := dg_len_bl (nv b / gc (nv a) (nv b))
  have M := prod_Mul_c ha (b := dg (nv b / gc (nv a) (nv b))) (Wl_dg (by omega)) (by omega) (by omega)
  rw [nv_dg q0] at M
  exact Ev.bind (gcd_Reduce_c ha hb (by omega) (by omega)) (Ev.bind M (Ev.same rfl))
theorem ref05_Lcm_c {a b : List Int} (ha : Wl a) (hb : Wl b) (hla : a.length ≤ 900) (hlb : b.length ≤ 900) : Ev (fun k => gradineref05_Lcm.f k a b) (dg (nv a * (nv b / gc (nv a) (nv b)))) := by
  have na := nv_nonneg ha.1
  have nb := nv_nonneg hb.1
  have ba := bl_nv ha.1
  have bb := bl_nv hb.1
  have bg := bl_gc na nb (m := 57600) (by omega) (by omega)
  have lg := dg_len_bl (gc (nv a) (nv b))
  obtain ⟨q0, q1⟩ := ediv_le_bl nb (gc_nonneg (nv a) (nv b)) (m := 57600) (by omega)
  have lq := dg_len_bl (nv b / gc (nv a) (nv b))
  have P := ref05_Part_c hb (g := dg (gc (nv a) (nv b))) (Wl_dg (by omega)) (by omega) (by omega)
  rw [nv_dg (gc_nonneg ..)] at P
  have M := ref03_Mul_c ha (b := dg (nv b / gc (nv a) (nv b))) (Wl_dg (by omega)) (by omega) (by omega)
  rw [nv_dg q0] at M
  exact Ev.bind (ref05_Gcd_c ha hb (by omega) (by omega)) (Ev.bind P (Ev.bind M (Ev.same rfl)))
theorem law05_same_c : Ev (fun k => gradinelaw05_same.f k) true := by
  have w1 : Wl [12] := ⟨Ws_one U_lit, by simp⟩
  have w2 : Wl [18] := ⟨Ws_one U_lit, by simp⟩
  have G := gcd_Gcd_c w1 w2 (by simp) (by simp)
  have R := gcd_Reduce_c w1 w2 (by simp) (by simp)
  have e1 : gc 12 18 = 6 := by decide
  have e2 : dg 6 = [6] := dg_of (Ws_one U_lit) (.inr (by simp)) (by rw [nv_one])
  have e3 : dg 2 = [2] := dg_of (Ws_one U_lit) (.inr (by simp)) (by rw [nv_one])
  have e4 : dg 3 = [3] := dg_of (Ws_one U_lit) (.inr (by simp)) (by rw [nv_one])
  rw [nv_one, nv_one, e1, e2] at G
  rw [nv_one, nv_one, e1, show (12 : Int) / 6 = 2 by decide, show (18 : Int) / 6 = 3 by decide, e3, e4] at R
  refine Ev.bind G (Ev.bind R ?_)
  exact Ev.ifp rfl (Ev.ifp (by decide) (Ev.ifp rfl (Ev.ifp rfl (Ev.ifp (by decide) (Ev.ifp rfl (Ev.ifp rfl (Ev.ifp (by decide) (Ev.same rfl))))))))
end Go.Proofs.Ytldcgclbgbhffaa.M
