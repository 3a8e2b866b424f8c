/- gradinelaw16_EvalsFloat as a Lean function: written by a program of this session. -/
import Derived.Test.YtjocbnjpjihpnaaGreatFbase
import Derived.Test.YtjocbnjpjihpnaaGreatFsxbase
import Derived.Test.YtjocbnjpjihpnaaGreatFgradinelaw16same
import Derived.Test.YtjocbnjpjihpnaaGreatFgradinelaw15Many
import Derived.Test.YtjocbnjpjihpnaaGreatBB
namespace Go.Proofs.YtjocbnjpjihpnaaGreat.P
open Go.RowKit Go.Proofs.YtjocbnjpjihpnaaGreatW.PrintWords Go.Proofs.YtjocbnjpjihpnaaGreatW.PrintLast Go.Proofs.YtjocbnjpjihpnaaGreatW.PrintMore
set_option linter.unusedVariables false

def gradinelaw16_EvalsFloat.j2:Nat→Option (Bool)
 | 0=>none
 | k+1=>(gradinelaw16_same.f k).bind fun t6=>(some t6)
def gradinelaw16_EvalsFloat.f (k:Nat) (a0:List (Int × Int × Int × Bool × (List Int) × List Int)) (a1:List Int):Option (Bool):=(gradinelaw15_Many.f k a0).bind fun t1=>(if t1=true then (gradinelaw16_EvalsFloat.j2 k) else (if (a0.length:Int)>60 then (gradinelaw16_EvalsFloat.j2 k) else (if (a1.length:Int)>30 then (gradinelaw16_EvalsFloat.j2 k) else ((evals_Float.f k a0 a1).bind fun bt2=>((gr16_Float.f k a0 a1).bind fun bt3=>(if bt2.2.2=bt3.2.2 then (if bt2.2.1=bt3.2.1 then ((gradineplain_Words.f k bt2.1 bt3.1).bind fun t4=>(if t4=true then ((gradinelaw16_same.f k).bind fun t5=>(some t5)) else (some false))) else (some false)) else (some false)))))))
end Go.Proofs.YtjocbnjpjihpnaaGreat.P
