/- gradinelaw16_Few as a Lean function: written by a program of this session. -/
import Derived.Test.YtjocbnjpjihpnaaGreatFbase
import Derived.Test.YtjocbnjpjihpnaaGreatFsxbase
import Derived.Test.YtjocbnjpjihpnaaGreatBB
import Derived.Test.YtjocbnjpjihpnaaGreatFgradinelaw15Many
namespace Go.Proofs.YtjocbnjpjihpnaaGreat.P
open Go.RowKit Go.Proofs.YtjocbnjpjihpnaaGreatW.PrintWords Go.Proofs.YtjocbnjpjihpnaaGreatW.PrintLast Go.Proofs.YtjocbnjpjihpnaaGreatW.PrintMore
set_option linter.unusedVariables false

def gradinelaw16_Few.f (k:Nat) (a0:List (Int × Int × Int × Bool × (List Int) × List Int)) (a1:List (Bool × (List Int) × List Int)) (a2:List (Bool × (List Int) × List Int)):Option (Bool):=(gradinelaw15_Many.f k a0).bind fun t1=>(if t1=true then (some false) else (if (a0.length:Int)≤60 then (if (a1.length:Int)≤30 then (if (a2.length:Int)≤60 then ((gradineplain_Longer.f k a1 3).bind fun t2=>(if t2=true then (some false) else ((gradineplain_Longer.f k a2 3).bind fun t3=>(some (!t3))))) else (some false)) else (some false)) else (some false)))
end Go.Proofs.YtjocbnjpjihpnaaGreat.P
