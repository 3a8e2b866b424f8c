/- gradinelaw14_KernelTells comes to what its text says. -/
import Derived.Test.YtjocbnjpjihpnaaAA
import Derived.Test.YtjocbnjpjihpnaaWWc
import Derived.Test.YtjocbnjpjihpnaaFgradinelaw14KernelTells
namespace Go.Proofs.Ytjocbnjpjihpnaa.A
open Go.RowKit Go.Proofs.Ytjocbnjpjihpnaa.P Go.Proofs.YtjocbnjpjihpnaaW.PrintWords Go.Proofs.YtjocbnjpjihpnaaW.PrintLast Go.Proofs.YtjocbnjpjihpnaaW.PrintMore Go.Proofs.YtjocbnjpjihpnaaW.Abs
set_option linter.unusedVariables false
set_option linter.unusedSimpArgs false
attribute [local irreducible] kernel_Exp.f gradineref14_Exp.f kernel_Log.f gradineref14_Log.f gradinelaw14_same.f
def s_gradinelaw14_KernelTells : FSpec := ⟨[.int .u64], [.bool], fun k x => (gradinelaw14_KernelTells.f k x.1).map fun r => (r, ())⟩
def m_gradinelaw14_KernelTells (r : Bool) : TT s_gradinelaw14_KernelTells.rs := (r, ())
set_option maxRecDepth 100000 in
set_option maxHeartbeats 4000000 in
theorem o_gradinelaw14_KernelTells : FOk Try.prog 3 s_gradinelaw14_KernelTells :=
 fn_of (Bt := blook []) (l := [(8, .pu s_kernel_Exp), (9, .pu s_gradineref14_Exp), (10, .pu s_kernel_Log), (11, .pu s_gradineref14_Log), (12, .pu s_gradinelaw14_same)]) (C := noCuts) (by kernel_rfl) tab_ok ⟨o_kernel_Exp, o_gradineref14_Exp, o_kernel_Log, o_gradineref14_Log, o_gradinelaw14_same, trivial⟩ (fn := Try.f3) (by kernel_rfl) rfl (by kernel_rfl) (by decide) (by kernel_rfl) (F := fun k x => gradinelaw14_KernelTells.f k x.1) (m := m_gradinelaw14_KernelTells) (fun k x => rfl)
  (by exact trivial)
  (fun k ⟨(a0 : Int), _⟩ => by show LeT m_gradinelaw14_KernelTells (gradinelaw14_KernelTells.f k a0) _; unfold gradinelaw14_KernelTells.f; exact go)
end Go.Proofs.Ytjocbnjpjihpnaa.A
