/- gradinelaw18_long as a Lean function: written by a program of this session. -/
import Derived.Test.YtjocbnjpjihpnaaGreatFbase
import Derived.Test.YtjocbnjpjihpnaaGreatFsxbase
import Derived.Test.YtjocbnjpjihpnaaGreatBB
namespace Go.Proofs.YtjocbnjpjihpnaaGreat.P
open Go.RowKit Go.Proofs.YtjocbnjpjihpnaaGreatW.AH Go.Proofs.YtjocbnjpjihpnaaGreatW.AX Go.Proofs.YtjocbnjpjihpnaaGreatW.Ad
set_option linter.unusedVariables false
def Dq.f (k:Nat) (EN:List ((Bool × (List Int) × List Int) × Int × Int)) (v9:List Bool):Option (Bool):=(BR.f k EN 40).bind λt1=>(some t1)
end Go.Proofs.YtjocbnjpjihpnaaGreat.P
