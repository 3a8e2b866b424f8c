/- gradinelaw14_KernelSigns as a Lean function: written by hand. -/
import Derived.Test.YtjocbnjpjihpnaaFbase
import Derived.Test.YtjocbnjpjihpnaaBB
import Derived.Test.YtjocbnjpjihpnaaFgradinelaw14same
namespace Go.Proofs.Ytjocbnjpjihpnaa.P
open Go.RowKit Go.Proofs.YtjocbnjpjihpnaaW.PrintWords Go.Proofs.YtjocbnjpjihpnaaW.PrintLast Go.Proofs.YtjocbnjpjihpnaaW.PrintMore
set_option linter.unusedVariables false

def gradinelaw14_KernelSigns.j1 (k:Nat) (a0:Int) (l:Int):Option (Bool):=(gr09_Kind.f l).bind fun t=>(if t=4 then some false else ((gr09_Neg.f l).bind fun n=>((gr13_Less.f k a0 4607182418800017408).bind fun s=>(if n=s then ((gr09_Kind.f l).bind fun u=>(if (u==0)=(a0==4607182418800017408) then ((gradinelaw14_same.f k).bind fun z=>(some z)) else some false)) else some false))))
def gradinelaw14_KernelSigns.j0 (k:Nat) (a0:Int) (none:Bool):Option (Bool):=(kernel_Log.f k a0).bind fun l=>(if none=true then ((gr09_Kind.f l).bind fun t=>(if t=4 then ((gradinelaw14_same.f k).bind fun z=>(some z)) else some false)) else ((gr13_Less.f k a0 0).bind fun s=>(if s=true then ((gr09_Kind.f l).bind fun t=>(if t=4 then ((gradinelaw14_same.f k).bind fun z=>(some z)) else some false)) else gradinelaw14_KernelSigns.j1 k a0 l)))
def gradinelaw14_KernelSigns.f (k:Nat) (a0:Int):Option (Bool):=(gr09_Kind.f a0).bind fun t0=>((kernel_Exp.f k a0).bind fun e=>((gr09_Kind.f e).bind fun t1=>(if (t0==4)=(t1==4) then ((gr09_Neg.f e).bind fun n=>(if n=true then some false else gradinelaw14_KernelSigns.j0 k a0 (t0==4))) else some false)))
end Go.Proofs.Ytjocbnjpjihpnaa.P
