/- gradinelaw17_few as a Lean function: written by a program of this session. -/
import Derived.Test.YtjocbnjpjihpnaaGreatFbase
import Derived.Test.YtjocbnjpjihpnaaGreatFsxbase
import Derived.Test.YtjocbnjpjihpnaaGreatBB
import Derived.Test.YtjocbnjpjihpnaaGreatFgradinelaw16Few
namespace Go.Proofs.YtjocbnjpjihpnaaGreat.P
open Go.RowKit Go.Proofs.YtjocbnjpjihpnaaGreatW.PrintWords Go.Proofs.YtjocbnjpjihpnaaGreatW.PrintLast Go.Proofs.YtjocbnjpjihpnaaGreatW.PrintMore
set_option linter.unusedVariables false

def gradinelaw17_few.f (k:Nat) (a0_0:List (Int × Int × Int × Bool × (List Int) × List Int)) (a0_1:List (Bool × (List Int) × List Int)) (a0_2:List (Bool × (List Int) × List Int)) (a0_3:List (Bool × (List Int) × List Int)):Option (Bool):=(gradinelaw16_Few.f k a0_0 a0_1 a0_3).bind fun t1=>(if t1=true then (if (a0_2.length:Int)≤30 then ((gradineplain_Longer.f k a0_2 3).bind fun t2=>(some (!t2))) else (some false)) else (some false))
end Go.Proofs.YtjocbnjpjihpnaaGreat.P
