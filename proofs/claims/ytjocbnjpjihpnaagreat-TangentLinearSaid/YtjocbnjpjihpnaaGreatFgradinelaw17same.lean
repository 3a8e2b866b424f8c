/- gradinelaw17_same as a Lean function: written by a program of this session. -/
import Derived.Test.YtjocbnjpjihpnaaGreatFbase
import Derived.Test.YtjocbnjpjihpnaaGreatFsxbase
import Derived.Test.YtjocbnjpjihpnaaGreatBB
import Derived.Test.YtjocbnjpjihpnaaGreatFgradinelaw17three
namespace Go.Proofs.YtjocbnjpjihpnaaGreat.P
open Go.RowKit Go.Proofs.YtjocbnjpjihpnaaGreatW.PrintWords Go.Proofs.YtjocbnjpjihpnaaGreatW.PrintLast Go.Proofs.YtjocbnjpjihpnaaGreatW.PrintMore
set_option linter.unusedVariables false

def gradinelaw17_same.f (k:Nat):Option (Bool):=(gradinelaw17_three.f).bind fun bt1=>((gr07_Of.f k 1).bind fun bt2=>((tangent_Of.f k [(1,(0,(0,(false,(([]:List Int),([]:List Int)))))),(6,(0,(0,(false,(([]:List Int),([]:List Int))))))] [(bt1.1,(bt1.2.1,bt1.2.2))] [(bt2.1,(bt2.2.1,bt2.2.2))] ([]:List (Bool × (List Int) × List Int))).bind fun bt3=>((gradinelaw17_three.f).bind fun bt4=>((gr07_Of.f k 1).bind fun bt5=>((tangent_Back.f k [(1,(0,(0,(false,(([]:List Int),([]:List Int)))))),(6,(0,(0,(false,(([]:List Int),([]:List Int))))))] [(bt4.1,(bt4.2.1,bt4.2.2))] ([]:List (Bool × (List Int) × List Int)) [1] [(bt5.1,(bt5.2.1,bt5.2.2))]).bind fun bt6=>(if bt3.2.2.2=0 then (if bt6.2.2=0 then (if (bt3.2.1.length:Int)=2 then (if 1<(bt3.2.1.length:Int) then ((gr07_Of.f k 6).bind fun bt7=>((gr07_Same.f k (rd_bLL bt3.2.1 1).1 (rd_bLL bt3.2.1 1).2.1 (rd_bLL bt3.2.1 1).2.2 bt7.1 bt7.2.1 bt7.2.2).bind fun t8=>(if t8=true then (if (bt6.1.length:Int)=1 then (if 0<(bt6.1.length:Int) then ((gr07_Of.f k 6).bind fun bt9=>((gr07_Same.f k (rd_bLL bt6.1 0).1 (rd_bLL bt6.1 0).2.1 (rd_bLL bt6.1 0).2.2 bt9.1 bt9.2.1 bt9.2.2).bind fun t10=>(some t10))) else none) else (some false)) else (some false)))) else none) else (some false)) else (some false)) else (some false)))))))
end Go.Proofs.YtjocbnjpjihpnaaGreat.P
