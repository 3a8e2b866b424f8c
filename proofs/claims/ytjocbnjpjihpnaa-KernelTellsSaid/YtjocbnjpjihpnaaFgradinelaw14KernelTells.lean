/- gradinelaw14_KernelTells as a Lean function: written by hand. -/
import Derived.Test.YtjocbnjpjihpnaaFbase
import Derived.Test.YtjocbnjpjihpnaaBkernel
import Derived.Test.YtjocbnjpjihpnaaBgradineref14
import Derived.Test.YtjocbnjpjihpnaaFgradinelaw14same
namespace Go.Proofs.Ytjocbnjpjihpnaa.P
open Go.RowKit Go.Proofs.YtjocbnjpjihpnaaW.PrintWords Go.Proofs.YtjocbnjpjihpnaaW.PrintLast Go.Proofs.YtjocbnjpjihpnaaW.PrintMore
set_option linter.unusedVariables false

def gradinelaw14_KernelTells.f (k : Nat) (a0 : Int) : Option (Bool) := (kernel_Exp.f k a0).bind fun a => ((gradineref14_Exp.f k a0).bind fun b => (if a = b then ((kernel_Log.f k a0).bind fun c => ((gradineref14_Log.f k a0).bind fun d => (if c = d then ((gradinelaw14_same.f k).bind fun s => (some s)) else some false))) else some false))
end Go.Proofs.Ytjocbnjpjihpnaa.P
