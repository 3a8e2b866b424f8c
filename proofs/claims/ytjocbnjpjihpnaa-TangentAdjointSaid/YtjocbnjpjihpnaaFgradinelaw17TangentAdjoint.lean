/- gradinelaw17_TangentAdjoint as a Lean function: written by a program of this session. -/
import Derived.Test.YtjocbnjpjihpnaaFbase
import Derived.Test.YtjocbnjpjihpnaaFsxbase
import Derived.Test.YtjocbnjpjihpnaaFgradinelaw17few
import Derived.Test.YtjocbnjpjihpnaaBB
import Derived.Test.YtjocbnjpjihpnaaFgradinelaw17same
namespace Go.Proofs.Ytjocbnjpjihpnaa.P
open Go.RowKit Go.Proofs.YtjocbnjpjihpnaaW.PrintWords Go.Proofs.YtjocbnjpjihpnaaW.PrintLast Go.Proofs.YtjocbnjpjihpnaaW.PrintMore
set_option linter.unusedVariables false

mutual
def gradinelaw17_TangentAdjoint.j2:Nat→Option (Bool)
 | 0=>none
 | k+1=>(gradinelaw17_same.f k).bind fun t7=>(some t7)
def gradinelaw17_TangentAdjoint.j8:Nat→Option (Bool)
 | 0=>none
 | k+1=>some false
def gradinelaw17_TangentAdjoint.l0:Nat→List Int→(List (Bool × (List Int) × List Int))→(List (Bool × (List Int) × List Int))→(List (Bool × (List Int) × List Int))→Int→Int→(List (Int × Int × Int × Bool × (List Int) × List Int))→(List (Bool × (List Int) × List Int))→(List (Bool × (List Int) × List Int))→(List (Bool × (List Int) × List Int))→Bool→List Int→List Int→Bool→List Int→List Int→Option (Bool)
 | 0,_,_,_,_,_,_,_,_,_,_,_,_,_,_,_,_=>none
 | k+1,x1,x2,x8,x11,x94,x95,v3_0,v3_1,v3_2,v3_3,v14_0,v14_1,v14_2,v15_0,v15_1,v15_2=>if x95<x94 then (if 0≤x95 then (if x95<(x1.length:Int) then (if (rd x1 x95)<0 then (gradinelaw17_TangentAdjoint.j14 k) else (if (rd x1 x95)≥(x8.length:Int) then (gradinelaw17_TangentAdjoint.j14 k) else (if 0≤(rd x1 x95) then (if (rd x1 x95)<(x8.length:Int) then (if x95<(x2.length:Int) then ((rat_Mul.f k (rd_bLL x8 (rd x1 x95)).1 (rd_bLL x8 (rd x1 x95)).2.1 (rd_bLL x8 (rd x1 x95)).2.2 (rd_bLL x2 x95).1 (rd_bLL x2 x95).2.1 (rd_bLL x2 x95).2.2).bind fun bt8=>((rat_Add.f k v14_0 v14_1 v14_2 bt8.1 bt8.2.1 bt8.2.2).bind fun bt9=>(gradinelaw17_TangentAdjoint.l0 k x1 x2 x8 x11 x94 (wrap64 (x95+1)) v3_0 v3_1 v3_2 v3_3 bt9.1 bt9.2.1 bt9.2.2 v15_0 v15_1 v15_2))) else none) else none) else none))) else none) else none) else (gradinelaw17_TangentAdjoint.l1 k x11 (x11.length:Int) 0 v3_0 v3_1 v3_2 v3_3 v14_0 v14_1 v14_2 v15_0 v15_1 v15_2)
def gradinelaw17_TangentAdjoint.j6:Nat→Option (Bool)
 | 0=>none
 | k+1=>(gradinelaw17_same.f k).bind fun t10=>(some t10)
def gradinelaw17_TangentAdjoint.j14:Nat→Option (Bool)
 | 0=>none
 | k+1=>some false
def gradinelaw17_TangentAdjoint.l1:Nat→(List (Bool × (List Int) × List Int))→Int→Int→(List (Int × Int × Int × Bool × (List Int) × List Int))→(List (Bool × (List Int) × List Int))→(List (Bool × (List Int) × List Int))→(List (Bool × (List Int) × List Int))→Bool→List Int→List Int→Bool→List Int→List Int→Option (Bool)
 | 0,_,_,_,_,_,_,_,_,_,_,_,_,_=>none
 | k+1,x11,x128,x129,v3_0,v3_1,v3_2,v3_3,v14_0,v14_1,v14_2,v15_0,v15_1,v15_2=>if x129<x128 then (if 0≤x129 then (if x129<(x11.length:Int) then (if x129<(v3_2.length:Int) then ((rat_Mul.f k (rd_bLL x11 x129).1 (rd_bLL x11 x129).2.1 (rd_bLL x11 x129).2.2 (rd_bLL v3_2 x129).1 (rd_bLL v3_2 x129).2.1 (rd_bLL v3_2 x129).2.2).bind fun bt11=>((rat_Add.f k v15_0 v15_1 v15_2 bt11.1 bt11.2.1 bt11.2.2).bind fun bt12=>(gradinelaw17_TangentAdjoint.l1 k x11 x128 (wrap64 (x129+1)) v3_0 v3_1 v3_2 v3_3 v14_0 v14_1 v14_2 bt12.1 bt12.2.1 bt12.2.2))) else none) else none) else none) else ((rat_Same.f k v14_0 v14_1 v14_2 v15_0 v15_1 v15_2).bind fun t13=>(if t13=true then ((gradinelaw17_same.f k).bind fun t14=>(some t14)) else (some false)))
end
def gradinelaw17_TangentAdjoint.f (k:Nat) (a0_0:List (Int × Int × Int × Bool × (List Int) × List Int)) (a0_1:List (Bool × (List Int) × List Int)) (a0_2:List (Bool × (List Int) × List Int)) (a0_3:List (Bool × (List Int) × List Int)) (a1:List Int) (a2:List (Bool × (List Int) × List Int)):Option (Bool):=(gradinelaw17_few.f k a0_0 a0_1 a0_2 a0_3).bind fun t1=>(if t1=true then (if (a1.length:Int)>30 then (gradinelaw17_TangentAdjoint.j2 k) else (if (a2.length:Int)>30 then (gradinelaw17_TangentAdjoint.j2 k) else ((gradineplain_Longer.f k a2 3).bind fun t2=>(if t2=true then (gradinelaw17_TangentAdjoint.j2 k) else ((tangent_Of.f k a0_0 a0_1 a0_2 a0_3).bind fun bt3=>((tangent_Back.f k a0_0 a0_1 a0_3 a1 a2).bind fun bt4=>(if bt3.2.2.2=0 then (if bt4.2.2=0 then (if (bt4.1.length:Int)>(a0_2.length:Int) then (gradinelaw17_TangentAdjoint.j8 k) else (if (bt3.2.1.length:Int)=(a0_0.length:Int) then (if (a1.length:Int)=(a2.length:Int) then ((gr07_Of.f k 0).bind fun bt5=>((gr07_Of.f k 0).bind fun bt6=>(gradinelaw17_TangentAdjoint.l0 k a1 a2 bt3.2.1 bt4.1 (a1.length:Int) 0 a0_0 a0_1 a0_2 a0_3 bt5.1 bt5.2.1 bt5.2.2 bt6.1 bt6.2.1 bt6.2.2))) else (gradinelaw17_TangentAdjoint.j8 k)) else (gradinelaw17_TangentAdjoint.j8 k))) else (gradinelaw17_TangentAdjoint.j6 k)) else (gradinelaw17_TangentAdjoint.j6 k)))))))) else (gradinelaw17_TangentAdjoint.j2 k))
end Go.Proofs.Ytjocbnjpjihpnaa.P
