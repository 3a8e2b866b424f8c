/- gradinelaw17_TangentTells as a Lean function: written by a program of this session. -/
import Derived.Test.YtjocbnjpjihpnaaGreatFbase
import Derived.Test.YtjocbnjpjihpnaaGreatFsxbase
import Derived.Test.YtjocbnjpjihpnaaGreatFgradinelaw17few
import Derived.Test.YtjocbnjpjihpnaaGreatFgradinelaw17same
import Derived.Test.YtjocbnjpjihpnaaGreatBB
namespace Go.Proofs.YtjocbnjpjihpnaaGreat.P
open Go.RowKit Go.Proofs.YtjocbnjpjihpnaaGreatW.PrintWords Go.Proofs.YtjocbnjpjihpnaaGreatW.PrintLast Go.Proofs.YtjocbnjpjihpnaaGreatW.PrintMore
set_option linter.unusedVariables false

def gradinelaw17_TangentTells.f (k:Nat) (a0_0:List (Int × Int × Int × Bool × (List Int) × List Int)) (a0_1:List (Bool × (List Int) × List Int)) (a0_2:List (Bool × (List Int) × List Int)) (a0_3:List (Bool × (List Int) × List Int)):Option (Bool):=(gradinelaw17_few.f k a0_0 a0_1 a0_2 a0_3).bind fun t1=>(if t1=true then ((tangent_Of.f k a0_0 a0_1 a0_2 a0_3).bind fun bt2=>((gradineref17_Of.f k a0_0 a0_1 a0_2 a0_3).bind fun bt3=>(if bt2.2.2.2=bt3.2.2.2 then (if bt2.2.2.1=bt3.2.2.1 then ((gradineref16_Same.f k bt2.1 bt3.1).bind fun t4=>(if t4=true then ((gradineref16_Same.f k bt2.2.1 bt3.2.1).bind fun t5=>(if t5=true then ((gradinelaw17_same.f k).bind fun t6=>(some t6)) else (some false))) else (some false))) else (some false)) else (some false)))) else ((gradinelaw17_same.f k).bind fun t7=>(some t7)))
end Go.Proofs.YtjocbnjpjihpnaaGreat.P
