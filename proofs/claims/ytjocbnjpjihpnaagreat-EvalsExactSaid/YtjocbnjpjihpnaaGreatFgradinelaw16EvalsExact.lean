/- gradinelaw16_EvalsExact as a Lean function: written by a program of this session. -/
import Derived.Test.YtjocbnjpjihpnaaGreatFbase
import Derived.Test.YtjocbnjpjihpnaaGreatFsxbase
import Derived.Test.YtjocbnjpjihpnaaGreatBB
import Derived.Test.YtjocbnjpjihpnaaGreatFgradinelaw16Few
import Derived.Test.YtjocbnjpjihpnaaGreatFgradinelaw16same
namespace Go.Proofs.YtjocbnjpjihpnaaGreat.P
open Go.RowKit Go.Proofs.YtjocbnjpjihpnaaGreatW.PrintWords Go.Proofs.YtjocbnjpjihpnaaGreatW.PrintLast Go.Proofs.YtjocbnjpjihpnaaGreatW.PrintMore
set_option linter.unusedVariables false

def gradinelaw16_EvalsExact.f (k:Nat) (a0:List (Int × Int × Int × Bool × (List Int) × List Int)) (a1:List (Bool × (List Int) × List Int)) (a2:List (Bool × (List Int) × List Int)):Option (Bool):=(gradinelaw16_Few.f k a0 a1 a2).bind fun t1=>(if t1=true then ((evals_Exact.f k a0 a1 a2).bind fun bt2=>((gradineref16_Exact.f k a0 a1 a2).bind fun bt3=>(if bt2.2.2=bt3.2.2 then (if bt2.2.1=bt3.2.1 then ((gradineref16_Same.f k bt2.1 bt3.1).bind fun t4=>(if t4=true then ((gradinelaw16_same.f k).bind fun t5=>(some t5)) else (some false))) else (some false)) else (some false)))) else ((gradinelaw16_same.f k).bind fun t6=>(some t6)))
end Go.Proofs.YtjocbnjpjihpnaaGreat.P
