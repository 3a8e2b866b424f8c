/- What a call of gradinelaw08_PowerBack answers. -/
import Derived.Test.YtldcgclbgbhffaaAgradinelaw08PowerBack
import Derived.Test.YtldcgclbgbhffaaWWb
namespace Go.Proofs.Ytldcgclbgbhffaa.P
open Go.RowKit Go.Proofs.YtldcgclbgbhffaaW.PrintWords Go.Proofs.YtldcgclbgbhffaaW.PrintLast Go.Proofs.YtldcgclbgbhffaaW.PrintMore Go.Proofs.YtldcgclbgbhffaaW.Abs
theorem gradinelaw08_PowerBack.calls (k : Nat) (a0_0 : Bool) (A0_1 : Option Addr) (c0_1 : Nat) (l0_1 : List Int) (A0_2 : Option Addr) (c0_2 : Nat) (l0_2 : List Int) (r : Bool) (w : World) (hr0_1 : Kd.C (Kd.int .u64) w A0_1 l0_1.length l0_1) (hc0_1 : l0_1.length ≤ c0_1) (hr0_2 : Kd.C (Kd.int .u64) w A0_2 l0_2.length l0_2) (hc0_2 : l0_2.length ≤ c0_2) (h : gradinelaw08_PowerBack.f k a0_0 l0_1 l0_2 = some r) :
  Calls Try.prog 32 #[.agg #[.bool a0_0, .slice A0_1 l0_1.length c0_1, .slice A0_2 l0_2.length c0_2]] w fun e w' => e = .returned (.bool r) ∧ Below w.heap.size w w' :=
 (((A.o_gradinelaw08_PowerBack).2 k ((a0_0, (l0_1, l0_2)), ()) (r, ()) (by show Option.map _ _ = _; rw [h]; rfl) (fun _ => False) w [mkV [.bool a0_0, .slice A0_1 l0_1.length c0_1, .slice A0_2 l0_2.length c0_2]] (fun _ q => q.elim) ⟨⟨[.bool a0_0, .slice A0_1 l0_1.length c0_1, .slice A0_2 l0_2.length c0_2], rfl, ⟨[.bool a0_0], [.slice A0_1 l0_1.length c0_1, .slice A0_2 l0_2.length c0_2], rfl, rfl, ⟨[.slice A0_1 l0_1.length c0_1], [.slice A0_2 l0_2.length c0_2], rfl, row_rd hr0_1 hc0_1, row_rd hr0_2 hc0_2⟩⟩⟩, rfl⟩).mono fun e w' ⟨v, he, hr, hb⟩ => ⟨by rw [he, res_bool hr], hb⟩)
end Go.Proofs.Ytldcgclbgbhffaa.P
