/- What a call of gradinelaw10_FroundNearest answers. -/
import Derived.Test.YtjocbnjpjihpnaaAgradinelaw10FroundNearest
import Derived.Test.YtjocbnjpjihpnaaWWc
namespace Go.Proofs.Ytjocbnjpjihpnaa.P
open Go.RowKit Go.Proofs.YtjocbnjpjihpnaaW.PrintWords Go.Proofs.YtjocbnjpjihpnaaW.PrintLast Go.Proofs.YtjocbnjpjihpnaaW.PrintMore Go.Proofs.YtjocbnjpjihpnaaW.Abs
theorem gradinelaw10_FroundNearest.calls (k : Nat) (a0_0 : Bool) (A0_1 : Option Addr) (c0_1 : Nat) (l0_1 : List Int) (A0_2 : Option Addr) (c0_2 : Nat) (l0_2 : List Int) (a1 : Int) (r : Bool) (w : World) (hr0_1 : Kd.C (Kd.int .u64) w A0_1 l0_1.length l0_1) (hc0_1 : l0_1.length ≤ c0_1) (hr0_2 : Kd.C (Kd.int .u64) w A0_2 l0_2.length l0_2) (hc0_2 : l0_2.length ≤ c0_2) (h : gradinelaw10_FroundNearest.f k a0_0 l0_1 l0_2 a1 = some r) :
  Calls Try.prog 5 #[.agg #[.bool a0_0, .slice A0_1 l0_1.length c0_1, .slice A0_2 l0_2.length c0_2], .int .u64 a1] w fun e w' => e = .returned (.bool r) ∧ Below w.heap.size w w' :=
 (((A.o_gradinelaw10_FroundNearest).2 k ((a0_0, (l0_1, l0_2)), a1, ()) (r, ()) (by show Option.map _ _ = _; rw [h]; rfl) (fun _ => False) w [mkV [.bool a0_0, .slice A0_1 l0_1.length c0_1, .slice A0_2 l0_2.length c0_2], mkV [.int .u64 a1]] (fun _ q => q.elim) ⟨⟨[.bool a0_0, .slice A0_1 l0_1.length c0_1, .slice A0_2 l0_2.length c0_2], rfl, ⟨[.bool a0_0], [.slice A0_1 l0_1.length c0_1, .slice A0_2 l0_2.length c0_2], rfl, rfl, ⟨[.slice A0_1 l0_1.length c0_1], [.slice A0_2 l0_2.length c0_2], rfl, row_rd hr0_1 hc0_1, row_rd hr0_2 hc0_2⟩⟩⟩, ⟨⟨[.int .u64 a1], rfl, rfl⟩, rfl⟩⟩).mono fun e w' ⟨v, he, hr, hb⟩ => ⟨by rw [he, res_bool hr], hb⟩)
end Go.Proofs.Ytjocbnjpjihpnaa.P
