/- gradinelaw14_same as a Lean function: written by hand. -/
import Derived.Test.YtjocbnjpjihpnaaFbase
import Derived.Test.YtjocbnjpjihpnaaBB
namespace Go.Proofs.Ytjocbnjpjihpnaa.P
open Go.RowKit Go.Proofs.YtjocbnjpjihpnaaW.PrintWords Go.Proofs.YtjocbnjpjihpnaaW.PrintLast Go.Proofs.YtjocbnjpjihpnaaW.PrintMore
set_option linter.unusedVariables false

def gradinelaw14_same.f (k:Nat):Option (Bool):=(kernel_Exp.f k 0).bind fun a=>(if a=4607182418800017408 then ((kernel_Exp.f k 9223372036854775808).bind fun b=>(if b=4607182418800017408 then ((kernel_Log.f k 4607182418800017408).bind fun c=>(if c=0 then ((kernel_Log.f k 0).bind fun d=>(some (d==18442240474082181120))) else some false)) else some false)) else some false)
end Go.Proofs.Ytjocbnjpjihpnaa.P
