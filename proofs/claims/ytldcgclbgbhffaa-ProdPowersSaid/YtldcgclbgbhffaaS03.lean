/- The known results that each statement of prod asks besides. -/
import Derived.Test.YtldcgclbgbhffaaC03
import Derived.Test.YtldcgclbgbhffaaS02
import Derived.Test.YtldcgclbgbhffaaFgradinelaw03same
namespace Go.Proofs.Ytldcgclbgbhffaa.M
open Go.RowKit Go.Proofs.Ytldcgclbgbhffaa.P Go.Proofs.YtldcgclbgbhffaaW.PrintWords Go.Proofs.YtldcgclbgbhffaaW.PrintLast Go.Proofs.YtldcgclbgbhffaaW.PrintMore
theorem law03_same_c : Ev (fun k => gradinelaw03_same.f k) true := by
  have w1 : Wl [18446744073709551615] := ⟨Ws_one U_lit, by simp⟩
  have w2 : Wl [3] := ⟨Ws_one U_lit, by simp⟩
  have e : dg (nv [18446744073709551615] * nv [18446744073709551615]) = [1, 18446744073709551614] := dg_of (Ws_cons.2 ⟨U_lit, Ws_one U_lit⟩) (.inr (by simp)) (by simp [nv])
  have e2 : dg (nv [3] ^ pown 4) = [81] := dg_of (Ws_one U_lit) (.inr (by simp)) (by rw [nv_one, nv_one]; decide)
  have h1 := prod_Mul_c w1 w1 (by simp) (by simp)
  have h2 := prod_Pow_c w2 (by simp) 4
  rw [e] at h1
  rw [e2] at h2
  refine Ev.bind h1 (Ev.bind h2 (Ev.same ?_))
  rfl
/-- The numbers' own forms of the contracts. -/
theorem add_dg {x y : Int} (hx : 0 ≤ x) (hy : 0 ≤ y) (bx : bl x ≤ 57000000000) (bY : bl y ≤ 57000000000) : Ev (fun k => nat_Add.f k (dg x) (dg y)) (dg (x + y)) := by
  have := nat_Add_c (Wl_dg (n := x) (by omega)) (Wl_dg (n := y) (by omega)) (by have := len_dg bx; omega) (by have := len_dg bY; omega)
  rwa [nv_dg hx, nv_dg hy] at this
theorem sub_dg {x y : Int} (hy : 0 ≤ y) (h : y ≤ x) (bx : bl x ≤ 57000000000) : Ev (fun k => nat_Sub.f k (dg x) (dg y)) (dg (x - y), true) := by
  have b2 := bl_mono h
  have := nat_Sub_c (Wl_dg (n := x) (by omega)) (Wl_dg (n := y) (by omega)) (by rw [nv_dg hy, nv_dg (by omega)]; exact h)
  rwa [nv_dg (n := x) (by omega), nv_dg hy] at this
end Go.Proofs.Ytldcgclbgbhffaa.M
