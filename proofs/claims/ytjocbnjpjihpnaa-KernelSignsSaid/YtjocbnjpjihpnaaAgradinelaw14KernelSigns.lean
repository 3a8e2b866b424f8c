/- gradinelaw14_KernelSigns comes to what its text says. -/
import Derived.Test.YtjocbnjpjihpnaaAA
import Derived.Test.YtjocbnjpjihpnaaWWc
import Derived.Test.YtjocbnjpjihpnaaFgradinelaw14KernelSigns
namespace Go.Proofs.Ytjocbnjpjihpnaa.A
open Go.RowKit Go.Proofs.Ytjocbnjpjihpnaa.P Go.Proofs.YtjocbnjpjihpnaaW.PrintWords Go.Proofs.YtjocbnjpjihpnaaW.PrintLast Go.Proofs.YtjocbnjpjihpnaaW.PrintMore Go.Proofs.YtjocbnjpjihpnaaW.Abs
set_option linter.unusedVariables false
set_option linter.unusedSimpArgs false
attribute [local irreducible] kernel_Exp.f kernel_Log.f gradinelaw14_same.f gr09_Kind.f gr09_Neg.f gr13_Less.f
def s_gradinelaw14_KernelSigns:FSpec:=⟨[.int .u64],[.bool],fun k x=>(gradinelaw14_KernelSigns.f k x.1).map fun r=>(r,())⟩
def m_gradinelaw14_KernelSigns (r:Bool):TT s_gradinelaw14_KernelSigns.rs:=(r,())
set_option maxRecDepth 100000 in
set_option maxHeartbeats 4000000 in
theorem o_gradinelaw14_KernelSigns:FOk Try.prog 4 s_gradinelaw14_KernelSigns :=
 fn_of (Bt:=blook []) (l:= [(8, .pu s_kernel_Exp),(10, .pu s_kernel_Log),(12, .pu s_gradinelaw14_same),(13, .pu s_gr09_Kind),(14, .pu s_gr09_Neg),(15, .pu s_gr13_Less)]) (C:=noCuts) (by kernel_rfl) tab_ok ⟨o_kernel_Exp,o_kernel_Log,o_gradinelaw14_same,o_gr09_Kind,o_gr09_Neg,o_gr13_Less,trivial⟩ (fn:=Try.f4) (by kernel_rfl) rfl (by kernel_rfl) (by decide) (by kernel_rfl) (F:=fun k x=>gradinelaw14_KernelSigns.f k x.1) (m:=m_gradinelaw14_KernelSigns) (fun k x=>rfl)
  (by exact trivial)
  (fun k ⟨(a0:Int),_⟩=>by show LeT m_gradinelaw14_KernelSigns (gradinelaw14_KernelSigns.f k a0) _;unfold gradinelaw14_KernelSigns.f;unfold gradinelaw14_KernelSigns.j0;unfold gradinelaw14_KernelSigns.j1;exact goq)
end Go.Proofs.Ytjocbnjpjihpnaa.A
