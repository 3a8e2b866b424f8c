/- gradinelaw18_long as a Lean function: written by a program of this session. -/
import Derived.Test.YtjocbnjpjihpnaaGreatFbase
import Derived.Test.YtjocbnjpjihpnaaGreatFsxbase
import Derived.Test.YtjocbnjpjihpnaaGreatBB
namespace Go.Proofs.YtjocbnjpjihpnaaGreat.P
open Go.RowKit Go.Proofs.YtjocbnjpjihpnaaGreatW.AD Go.Proofs.YtjocbnjpjihpnaaGreatW.AU Go.Proofs.YtjocbnjpjihpnaaGreatW.Ac
set_option linter.unusedVariables false
def DE.f (k:Nat) (ED:List ((Bool × (List Int) × List Int) × Int × Int)) (F2:List Bool):Option (Bool):=(BG.f k ED 40).bind λt1=>(some t1)
end Go.Proofs.YtjocbnjpjihpnaaGreat.P
