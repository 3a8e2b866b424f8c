/- What a call of gradinelaw10_FroundLists answers. -/
import Derived.Test.YtbpggonjcnakgaaAgradinelaw10FroundLists
import Derived.Test.YtbpggonjcnakgaaWWb
namespace Go.Proofs.Ytbpggonjcnakgaa.P
open Go.RowKit Go.Proofs.YtbpggonjcnakgaaW.PrintWords Go.Proofs.YtbpggonjcnakgaaW.PrintLast Go.Proofs.YtbpggonjcnakgaaW.PrintMore Go.Proofs.YtbpggonjcnakgaaW.Abs
theorem gradinelaw10_FroundLists.calls (k : Nat) (a0_0 : Bool) (a0_1 : Bool) (A0_2 : Option Addr) (c0_2 : Nat) (l0_2 : List Int) (a0_3 : Int) (a1 : Int) (r : Bool) (w : World) (hr0_2 : Kd.C (Kd.int .u64) w A0_2 l0_2.length l0_2) (hc0_2 : l0_2.length ≤ c0_2) (h : gradinelaw10_FroundLists.f k a0_0 a0_1 l0_2 a0_3 a1 = some r) :
  Calls Try.prog 14 #[.agg #[.bool a0_0, .bool a0_1, .slice A0_2 l0_2.length c0_2, .int .i64 a0_3], .int .i64 a1] w fun e w' => e = .returned (.bool r) ∧ Below w.heap.size w w' :=
 (((A.o_gradinelaw10_FroundLists).2 k ((a0_0, (a0_1, (l0_2, a0_3))), a1, ()) (r, ()) (by show Option.map _ _ = _; rw [h]; rfl) (fun _ => False) w [mkV [.bool a0_0, .bool a0_1, .slice A0_2 l0_2.length c0_2, .int .i64 a0_3], mkV [.int .i64 a1]] (fun _ q => q.elim) ⟨⟨[.bool a0_0, .bool a0_1, .slice A0_2 l0_2.length c0_2, .int .i64 a0_3], rfl, ⟨[.bool a0_0], [.bool a0_1, .slice A0_2 l0_2.length c0_2, .int .i64 a0_3], rfl, rfl, ⟨[.bool a0_1], [.slice A0_2 l0_2.length c0_2, .int .i64 a0_3], rfl, rfl, ⟨[.slice A0_2 l0_2.length c0_2], [.int .i64 a0_3], rfl, row_rd hr0_2 hc0_2, rfl⟩⟩⟩⟩, ⟨⟨[.int .i64 a1], rfl, rfl⟩, rfl⟩⟩).mono fun e w' ⟨v, he, hr, hb⟩ => ⟨by rw [he, res_bool hr], hb⟩)
end Go.Proofs.Ytbpggonjcnakgaa.P
