/- gradinelaw17_TangentLinear as a Lean function: written by a program of this session. -/
import Derived.Test.YtjocbnjpjihpnaaGreatFbase
import Derived.Test.YtjocbnjpjihpnaaGreatFsxbase
import Derived.Test.YtjocbnjpjihpnaaGreatFgradinelaw17few
import Derived.Test.YtjocbnjpjihpnaaGreatFgradinelaw17same
import Derived.Test.YtjocbnjpjihpnaaGreatBB
namespace Go.Proofs.YtjocbnjpjihpnaaGreat.P
open Go.RowKit Go.Proofs.YtjocbnjpjihpnaaGreatW.PrintWords Go.Proofs.YtjocbnjpjihpnaaGreatW.PrintLast Go.Proofs.YtjocbnjpjihpnaaGreatW.PrintMore
set_option linter.unusedVariables false

mutual
def gradinelaw17_TangentLinear.j2:Nat→Option (Bool)
 | 0=>none
 | k+1=>(gradinelaw17_same.f k).bind fun t6=>(some t6)
def gradinelaw17_TangentLinear.l0:Nat→(List (Bool × (List Int) × List Int))→(List (Bool × (List Int) × List Int))→Int→Int→(List (Int × Int × Int × Bool × (List Int) × List Int))→(List (Bool × (List Int) × List Int))→(List (Bool × (List Int) × List Int))→(List (Bool × (List Int) × List Int))→Bool→List Int→List Int→Option (Bool)
 | 0,_,_,_,_,_,_,_,_,_,_,_=>none
 | k+1,x1,x8,x54,x55,v3_0,v3_1,v3_2,v3_3,v7_0,v7_1,v7_2=>if x55<x54 then (if 0≤x55 then (if x55<(x1.length:Int) then ((gr07_Mul.f k (rd_bLL x1 x55).1 (rd_bLL x1 x55).2.1 (rd_bLL x1 x55).2.2 v7_0 v7_1 v7_2).bind fun bt7=>(if x55<(v3_2.length:Int) then ((gr07_Add.f k bt7.1 bt7.2.1 bt7.2.2 (rd_bLL v3_2 x55).1 (rd_bLL v3_2 x55).2.1 (rd_bLL v3_2 x55).2.2).bind fun bt8=>(if (x8.length+1)*56≤140737488355328 then (gradinelaw17_TangentLinear.l0 k x1 (x8++ [(bt8.1,(bt8.2.1,bt8.2.2))]) x54 (wrap64 (x55+1)) v3_0 v3_1 v3_2 v3_3 v7_0 v7_1 v7_2) else none)) else none)) else none) else none) else ((tangent_Of.f k v3_0 v3_1 v3_2 v3_3).bind fun bt9=>((tangent_Of.f k v3_0 v3_1 x1 v3_3).bind fun bt10=>((tangent_Of.f k v3_0 v3_1 x8 v3_3).bind fun bt11=>(if bt9.2.2.2=0 then (if bt10.2.2.2=0 then (if bt11.2.2.2=0 then (if (bt9.2.1.length:Int)=(v3_0.length:Int) then (if (bt10.2.1.length:Int)=(v3_0.length:Int) then (if (bt11.2.1.length:Int)=(v3_0.length:Int) then (gradinelaw17_TangentLinear.l1 k bt9.2.1 bt10.2.1 bt11.2.1 (bt9.2.1.length:Int) 0 v7_0 v7_1 v7_2) else (gradinelaw17_TangentLinear.j16 k)) else (gradinelaw17_TangentLinear.j16 k)) else (gradinelaw17_TangentLinear.j16 k)) else (gradinelaw17_TangentLinear.j14 k)) else (gradinelaw17_TangentLinear.j14 k)) else (gradinelaw17_TangentLinear.j14 k)))))
def gradinelaw17_TangentLinear.l1:Nat→(List (Bool × (List Int) × List Int))→(List (Bool × (List Int) × List Int))→(List (Bool × (List Int) × List Int))→Int→Int→Bool→List Int→List Int→Option (Bool)
 | 0,_,_,_,_,_,_,_,_=>none
 | k+1,x11,x15,x19,x148,x149,v7_0,v7_1,v7_2=>if x149<x148 then (if 0≤x149 then (if x149<(x11.length:Int) then (if x149<(x15.length:Int) then ((rat_Mul.f k (rd_bLL x15 x149).1 (rd_bLL x15 x149).2.1 (rd_bLL x15 x149).2.2 v7_0 v7_1 v7_2).bind fun bt12=>((rat_Add.f k (rd_bLL x11 x149).1 (rd_bLL x11 x149).2.1 (rd_bLL x11 x149).2.2 bt12.1 bt12.2.1 bt12.2.2).bind fun bt13=>(if x149<(x19.length:Int) then ((rat_Same.f k bt13.1 bt13.2.1 bt13.2.2 (rd_bLL x19 x149).1 (rd_bLL x19 x149).2.1 (rd_bLL x19 x149).2.2).bind fun t14=>(if t14=true then (gradinelaw17_TangentLinear.l1 k x11 x15 x19 x148 (wrap64 (x149+1)) v7_0 v7_1 v7_2) else (some false))) else none))) else none) else none) else none) else ((gradinelaw17_same.f k).bind fun t15=>(some t15))
def gradinelaw17_TangentLinear.j16:Nat→Option (Bool)
 | 0=>none
 | k+1=>some false
def gradinelaw17_TangentLinear.j14:Nat→Option (Bool)
 | 0=>none
 | k+1=>(gradinelaw17_same.f k).bind fun t16=>(some t16)
end
def gradinelaw17_TangentLinear.f (k:Nat) (a0_0:List (Int × Int × Int × Bool × (List Int) × List Int)) (a0_1:List (Bool × (List Int) × List Int)) (a0_2:List (Bool × (List Int) × List Int)) (a0_3:List (Bool × (List Int) × List Int)) (a1:List (Bool × (List Int) × List Int)) (a2:Int):Option (Bool):=(gradinelaw17_few.f k a0_0 a0_1 a0_2 a0_3).bind fun t1=>(if t1=true then (if (a1.length:Int)=(a0_2.length:Int) then ((gradineplain_Longer.f k a1 3).bind fun t2=>(if t2=true then (gradinelaw17_TangentLinear.j2 k) else ((gr16_Rats.f k a1).bind fun t3=>(if t3=true then ((gr16_Rats.f k a0_2).bind fun t4=>(if t4=true then ((gr07_Of.f k (wrap64 (a2))).bind fun bt5=>(gradinelaw17_TangentLinear.l0 k a1 [] (a1.length:Int) 0 a0_0 a0_1 a0_2 a0_3 bt5.1 bt5.2.1 bt5.2.2)) else (gradinelaw17_TangentLinear.j2 k))) else (gradinelaw17_TangentLinear.j2 k))))) else (gradinelaw17_TangentLinear.j2 k)) else (gradinelaw17_TangentLinear.j2 k))
end Go.Proofs.YtjocbnjpjihpnaaGreat.P
