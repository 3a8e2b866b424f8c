/- gradinelaw18_long as a Lean function: written by a program of this session. -/
import Derived.Test.YtjocbnjpjihpnaaGreatFbase
import Derived.Test.YtjocbnjpjihpnaaGreatFsxbase
import Derived.Test.YtjocbnjpjihpnaaGreatBB
namespace Go.Proofs.YtjocbnjpjihpnaaGreat.P
open Go.RowKit Go.Proofs.YtjocbnjpjihpnaaGreatW.AD Go.Proofs.YtjocbnjpjihpnaaGreatW.AR Go.Proofs.YtjocbnjpjihpnaaGreatW.AY
set_option linter.unusedVariables false
def CP.f (k:Nat) (Hv:List ((Bool × (List Int) × List Int) × Int × Int)) (oH:List Bool):Option (Bool):=(BD.f k Hv 40).bind λt1=>(some t1)
end Go.Proofs.YtjocbnjpjihpnaaGreat.P
