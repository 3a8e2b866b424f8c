/- What a call of gradinelaw14_KernelTells answers. -/
import Derived.Test.YtjocbnjpjihpnaaAgradinelaw14KernelTells
import Derived.Test.YtjocbnjpjihpnaaWWc
namespace Go.Proofs.Ytjocbnjpjihpnaa.P
open Go.RowKit Go.Proofs.YtjocbnjpjihpnaaW.PrintWords Go.Proofs.YtjocbnjpjihpnaaW.PrintLast Go.Proofs.YtjocbnjpjihpnaaW.PrintMore Go.Proofs.YtjocbnjpjihpnaaW.Abs
theorem gradinelaw14_KernelTells.calls (k : Nat) (a0 : Int) (r : Bool) (w : World)  (h : gradinelaw14_KernelTells.f k a0 = some r) :
  Calls Try.prog 3 #[.int .u64 a0] w fun e w' => e = .returned (.bool r) ∧ Below w.heap.size w w' :=
 (((A.o_gradinelaw14_KernelTells).2 k (a0, ()) (r, ()) (by show Option.map _ _ = _; rw [h]; rfl) (fun _ => False) w [mkV [.int .u64 a0]] (fun _ q => q.elim) ⟨⟨[.int .u64 a0], rfl, rfl⟩, rfl⟩).mono fun e w' ⟨v, he, hr, hb⟩ => ⟨by rw [he, res_bool hr], hb⟩)
end Go.Proofs.Ytjocbnjpjihpnaa.P
