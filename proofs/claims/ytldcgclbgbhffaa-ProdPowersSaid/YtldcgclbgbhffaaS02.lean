/- The known results that each statement of nat asks besides. -/
import Derived.Test.YtldcgclbgbhffaaC02b
import Derived.Test.YtldcgclbgbhffaaFgradinelaw02same
namespace Go.Proofs.Ytldcgclbgbhffaa.M
open Go.RowKit Go.Proofs.Ytldcgclbgbhffaa.P Go.Proofs.YtldcgclbgbhffaaW.PrintWords Go.Proofs.YtldcgclbgbhffaaW.PrintLast Go.Proofs.YtldcgclbgbhffaaW.PrintMore
set_option linter.unusedVariables false

theorem len_dg {n : Int} (h : bl n ≤ 57000000000) : (dg n).length ≤ 900000000 := by have := dg_len_bl n; omega
theorem Wl_of {l : List Int} {m : Nat} (h : ∀ x ∈ l, (Lit.int .u64 x).wf = true) (hl : l.length ≤ m) (hm : m ≤ 1000000000 := by omega) : Wl l := ⟨fun x hx => wf_u64 (h x hx), by omega⟩
theorem dg_of {l : List Int} {n : Int} (h : Ws l) (hc : Cn l) (e : nv l = n) : dg n = l := by rw [← e, dg_nv h hc]
theorem U_lit {x : Int} (h0 : 0 ≤ x := by omega) (h1 : x < 18446744073709551616 := by omega) : U x := ⟨h0, h1⟩
theorem law02_same_c : Ev (fun k => gradinelaw02_same.f k) true := by
  have w1 : Wl [18446744073709551615] := ⟨Ws_one U_lit, by simp⟩
  have w2 : Wl [1] := ⟨Ws_one U_lit, by simp⟩
  have w3 : Wl [12] := ⟨Ws_one U_lit, by simp⟩
  have e : dg (nv [18446744073709551615] + nv [1]) = [0, 1] := dg_of (Ws_cons.2 ⟨U_lit, Ws_one U_lit⟩) (.inr (by simp)) (by simp [nv])
  have e12 : tz (nv [12]) = 2 := by rw [nv_one]; decide
  have w4 : Wl [0, 1] := ⟨Ws_cons.2 ⟨U_lit, Ws_one U_lit⟩, by simp⟩
  have e65 : bl (nv [0, 1]) = 65 := by
    have : nv [0, 1] = 2 ^ 64 := by simp [nv]
    rw [this]
    exact bl_eq (n := 64) (Int.le_refl _) (by decide)
  have h := nat_Add_c w1 w2 (by simp) (by simp)
  rw [e] at h
  refine Ev.bind h ?_
  refine Ev.ifp rfl (Ev.ifp (by decide) (Ev.ifp rfl (Ev.ifp (by decide) (Ev.ifp rfl ?_))))
  refine Ev.bind (nat_Bits_c w4) (Ev.ifp e65 (Ev.bind (nat_Even_c w3) (Ev.same ?_)))
  rw [e12]
  rfl
end Go.Proofs.Ytldcgclbgbhffaa.M
