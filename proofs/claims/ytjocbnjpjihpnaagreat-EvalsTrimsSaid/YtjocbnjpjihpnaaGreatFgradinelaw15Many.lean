/- gradinelaw15_Many as a Lean function: written by a program of this session. -/
import Derived.Test.YtjocbnjpjihpnaaGreatFbase
import Derived.Test.YtjocbnjpjihpnaaGreatFsxbase
import Derived.Test.YtjocbnjpjihpnaaGreatBB
namespace Go.Proofs.YtjocbnjpjihpnaaGreat.P
open Go.RowKit Go.Proofs.YtjocbnjpjihpnaaGreatW.PrintWords Go.Proofs.YtjocbnjpjihpnaaGreatW.PrintLast Go.Proofs.YtjocbnjpjihpnaaGreatW.PrintMore
set_option linter.unusedVariables false

def gradinelaw15_Many.l0:Nat→(List (Int × Int × Int × Bool × (List Int) × List Int))→Int→Int→Option (Bool)
 | 0,_,_,_=>none
 | k+1,x0,x5,x6=>if x6<x5 then (if 0≤x6 then (if x6<(x0.length:Int) then ((gradineplain_Long.f (rd_iiibLL x0 x6).2.2.2.1 (rd_iiibLL x0 x6).2.2.2.2.1 (rd_iiibLL x0 x6).2.2.2.2.2 8).bind fun t1=>(if t1=true then (some true) else (gradinelaw15_Many.l0 k x0 x5 (wrap64 (x6+1))))) else none) else none) else (some (decide ((x0.length:Int)>300)))
def gradinelaw15_Many.f (k:Nat) (a0:List (Int × Int × Int × Bool × (List Int) × List Int)):Option (Bool):=gradinelaw15_Many.l0 k a0 (a0.length:Int) 0
end Go.Proofs.YtjocbnjpjihpnaaGreat.P
