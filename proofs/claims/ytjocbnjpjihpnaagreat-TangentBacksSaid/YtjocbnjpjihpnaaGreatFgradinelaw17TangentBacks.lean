/- gradinelaw17_TangentBacks as a Lean function: written by a program of this session. -/
import Derived.Test.YtjocbnjpjihpnaaGreatFbase
import Derived.Test.YtjocbnjpjihpnaaGreatFsxbase
import Derived.Test.YtjocbnjpjihpnaaGreatFgradinelaw17few
import Derived.Test.YtjocbnjpjihpnaaGreatFgradinelaw17same
import Derived.Test.YtjocbnjpjihpnaaGreatBB
namespace Go.Proofs.YtjocbnjpjihpnaaGreat.P
open Go.RowKit Go.Proofs.YtjocbnjpjihpnaaGreatW.PrintWords Go.Proofs.YtjocbnjpjihpnaaGreatW.PrintLast Go.Proofs.YtjocbnjpjihpnaaGreatW.PrintMore
set_option linter.unusedVariables false

mutual
def gradinelaw17_TangentBacks.j2:Nat→Option (Bool)
 | 0=>none
 | k+1=>(gradinelaw17_same.f k).bind fun t10=>(some t10)
def gradinelaw17_TangentBacks.j5:Nat→(List (Bool × (List Int) × List Int))→Int→Int→Option (Bool)
 | 0,_,_,_=>none
 | k+1,x7,x8,x9=>if x9=1 then (if x8=0 then (if (x7.length:Int)=0 then ((gradinelaw17_same.f k).bind fun t11=>(some t11)) else (some false)) else (some false)) else (some false)
end
def gradinelaw17_TangentBacks.f (k:Nat) (a0_0:List (Int × Int × Int × Bool × (List Int) × List Int)) (a0_1:List (Bool × (List Int) × List Int)) (a0_2:List (Bool × (List Int) × List Int)) (a0_3:List (Bool × (List Int) × List Int)) (a1:List Int) (a2:List (Bool × (List Int) × List Int)):Option (Bool):=(gradinelaw17_few.f k a0_0 a0_1 a0_2 a0_3).bind fun t1=>(if t1=true then (if (a1.length:Int)>30 then (gradinelaw17_TangentBacks.j2 k) else (if (a2.length:Int)>30 then (gradinelaw17_TangentBacks.j2 k) else ((gradineplain_Longer.f k a2 3).bind fun t2=>(if t2=true then (gradinelaw17_TangentBacks.j2 k) else ((tangent_Back.f k a0_0 a0_1 a0_3 a1 a2).bind fun bt3=>(if (a1.length:Int)=(a2.length:Int) then ((gradineref16_Rats.f k a2).bind fun t4=>(if t4=true then ((gradineref16_Exact.f k a0_0 a0_1 a0_3).bind fun bt5=>(if bt5.2.2=0 then ((gradineref17_Back.f k a0_0 bt5.1 a1 a2).bind fun bt6=>(if bt3.2.2=bt6.2.2 then (if bt3.2.1=bt6.2.1 then ((gradineref16_Same.f k bt3.1 bt6.1).bind fun t7=>(if t7=true then ((gradinelaw17_same.f k).bind fun t8=>(some t8)) else (some false))) else (some false)) else (some false))) else (if bt3.2.2=bt5.2.2 then (if bt3.2.1=bt5.2.1 then (if (bt3.1.length:Int)=0 then ((gradinelaw17_same.f k).bind fun t9=>(some t9)) else (some false)) else (some false)) else (some false)))) else (gradinelaw17_TangentBacks.j5 k bt3.1 bt3.2.1 bt3.2.2))) else (gradinelaw17_TangentBacks.j5 k bt3.1 bt3.2.1 bt3.2.2))))))) else (gradinelaw17_TangentBacks.j2 k))
end Go.Proofs.YtjocbnjpjihpnaaGreat.P
