/- KernelTells: the plain law. -/
import Derived.Test.YtjocbnjpjihpnaaCCb
import Derived.Test.YtjocbnjpjihpnaaFgradinelaw14KernelTells
namespace Go.Proofs.Ytjocbnjpjihpnaa.Pure
open Go.RowKit Go.Proofs.Ytjocbnjpjihpnaa.P Go.Proofs.Ytjocbnjpjihpnaa.M Go.Proofs.YtjocbnjpjihpnaaW.PrintWords Go.Proofs.YtjocbnjpjihpnaaW.PrintLast Go.Proofs.YtjocbnjpjihpnaaW.PrintMore
set_option linter.unusedVariables false

def KernelTellsS : Prop := ∀ (x : Int), (Lit.int .u64 x).wf = true → ∃ k, gradinelaw14_KernelTells.f k x = some true
theorem KernelTells : KernelTellsS := fun x h => by
  have h : U x := wf_u64 h
  have : Ev (fun k => gradinelaw14_KernelTells.f k x) true := by
    refine Ev.bind (kernel_Exp_c h) (Ev.bind (ref14_Exp_c h) (Ev.ifp rfl (Ev.bind (kernel_Log_c h) (Ev.bind (ref14_Log_c h) (Ev.ifp rfl (Ev.bind law14_same_c (Ev.same rfl)))))))
  exact Ev.rounds this
end Go.Proofs.Ytjocbnjpjihpnaa.Pure
