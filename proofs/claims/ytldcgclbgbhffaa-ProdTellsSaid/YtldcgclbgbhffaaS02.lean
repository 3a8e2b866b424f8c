/- The known results that each statement of nat asks besides. -/
import Derived.Test.YtldcgclbgbhffaaC02b
namespace Go.Proofs.Ytldcgclbgbhffaa.M
open Go.RowKit Go.Proofs.Ytldcgclbgbhffaa.P Go.Proofs.YtldcgclbgbhffaaW.PrintWords Go.Proofs.YtldcgclbgbhffaaW.PrintLast Go.Proofs.YtldcgclbgbhffaaW.PrintMore
set_option linter.unusedVariables false

theorem Wl_of {l : List Int} {m : Nat} (h : ∀ x ∈ l, (Lit.int .u64 x).wf = true) (hl : l.length ≤ m) (hm : m ≤ 1000000000 := by omega) : Wl l := ⟨fun x hx => wf_u64 (h x hx), by omega⟩
theorem dg_of {l : List Int} {n : Int} (h : Ws l) (hc : Cn l) (e : nv l = n) : dg n = l := by rw [← e, dg_nv h hc]
theorem U_lit {x : Int} (h0 : 0 ≤ x := by omega) (h1 : x < 18446744073709551616 := by omega) : U x := ⟨h0, h1⟩
end Go.Proofs.Ytldcgclbgbhffaa.M
