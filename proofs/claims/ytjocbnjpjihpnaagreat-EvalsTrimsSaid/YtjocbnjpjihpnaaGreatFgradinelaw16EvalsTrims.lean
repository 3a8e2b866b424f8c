/- gradinelaw16_EvalsTrims as a Lean function: written by a program of this session. -/
import Derived.Test.YtjocbnjpjihpnaaGreatFbase
import Derived.Test.YtjocbnjpjihpnaaGreatFsxbase
import Derived.Test.YtjocbnjpjihpnaaGreatBB
import Derived.Test.YtjocbnjpjihpnaaGreatFgradinelaw16Few
import Derived.Test.YtjocbnjpjihpnaaGreatFgradinelaw16same
namespace Go.Proofs.YtjocbnjpjihpnaaGreat.P
open Go.RowKit Go.Proofs.YtjocbnjpjihpnaaGreatW.PrintWords Go.Proofs.YtjocbnjpjihpnaaGreatW.PrintLast Go.Proofs.YtjocbnjpjihpnaaGreatW.PrintMore
set_option linter.unusedVariables false

mutual
def gradinelaw16_EvalsTrims.j2:Nat→Option (Bool)
 | 0=>none
 | k+1=>(gradinelaw16_same.f k).bind fun t8=>(some t8)
def gradinelaw16_EvalsTrims.l0:Nat→(List (Int × Int × Int × Bool × (List Int) × List Int))→List Int→(List (Bool × (List Int) × List Int))→List Int→(List (Bool × (List Int) × List Int))→Int→Int→Option (Bool)
 | 0,_,_,_,_,_,_,_=>none
 | k+1,x0,x2,x7,x11,x12,x88,x89=>if x89<x88 then (if 0≤x89 then (if x89<(x2.length:Int) then (if (rd x2 x89)<0 then (gradinelaw16_EvalsTrims.l0 k x0 x2 x7 x11 x12 x88 (wrap64 (x89+1))) else (if (rd x2 x89)≥(x0.length:Int) then (gradinelaw16_EvalsTrims.l0 k x0 x2 x7 x11 x12 x88 (wrap64 (x89+1))) else (if x89<(x11.length:Int) then (if (rd x11 x89)<0 then (some false) else (if (rd x11 x89)≥(x12.length:Int) then (some false) else (if 0≤(rd x2 x89) then (if (rd x2 x89)<(x7.length:Int) then (if 0≤(rd x11 x89) then (if (rd x11 x89)<(x12.length:Int) then ((gr07_Same.f k (rd_bLL x7 (rd x2 x89)).1 (rd_bLL x7 (rd x2 x89)).2.1 (rd_bLL x7 (rd x2 x89)).2.2 (rd_bLL x12 (rd x11 x89)).1 (rd_bLL x12 (rd x11 x89)).2.1 (rd_bLL x12 (rd x11 x89)).2.2).bind fun t9=>(if t9=true then (gradinelaw16_EvalsTrims.l0 k x0 x2 x7 x11 x12 x88 (wrap64 (x89+1))) else (some false))) else none) else none) else none) else none))) else none))) else none) else none) else ((gradinelaw16_same.f k).bind fun t10=>(some t10))
def gradinelaw16_EvalsTrims.j9:Nat→Option (Bool)
 | 0=>none
 | k+1=>some false
end
def gradinelaw16_EvalsTrims.f (k:Nat) (a0:List (Int × Int × Int × Bool × (List Int) × List Int)) (a1:List (Bool × (List Int) × List Int)) (a2:List Int):Option (Bool):=(gradinelaw16_Few.f k a0 a1 ([]:List (Bool × (List Int) × List Int))).bind fun t1=>(if t1=true then (if (a2.length:Int)>30 then (gradinelaw16_EvalsTrims.j2 k) else ((gr15_Right.f k a0).bind fun t2=>(if t2=true then ((gr16_Rats.f k a1).bind fun t3=>(if t3=true then ((evals_Exact.f k a0 a1 ([]:List (Bool × (List Int) × List Int))).bind fun bt4=>(if bt4.2.2=0 then ((line_Trim.f k a0 a2).bind fun bt5=>((evals_Exact.f k bt5.1 a1 ([]:List (Bool × (List Int) × List Int))).bind fun bt6=>(if bt6.2.2=0 then (if (bt4.1.length:Int)=(a0.length:Int) then (if (bt5.2.length:Int)=(a2.length:Int) then (if (bt6.1.length:Int)=(bt5.1.length:Int) then (gradinelaw16_EvalsTrims.l0 k a0 a2 bt4.1 bt5.2 bt6.1 (a2.length:Int) 0) else (gradinelaw16_EvalsTrims.j9 k)) else (gradinelaw16_EvalsTrims.j9 k)) else (gradinelaw16_EvalsTrims.j9 k)) else (gradinelaw16_EvalsTrims.j9 k)))) else (if (bt4.1.length:Int)=0 then ((gradinelaw16_same.f k).bind fun t7=>(some t7)) else (some false)))) else (gradinelaw16_EvalsTrims.j2 k))) else (gradinelaw16_EvalsTrims.j2 k)))) else (gradinelaw16_EvalsTrims.j2 k))
end Go.Proofs.YtjocbnjpjihpnaaGreat.P
