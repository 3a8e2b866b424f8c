/- gradinelaw18_Run_back as a Lean function: written by a program of this session. -/
import Derived.Test.YtjocbnjpjihpnaaGreatFbase
import Derived.Test.YtjocbnjpjihpnaaGreatFsxbase
namespace Go.Proofs.YtjocbnjpjihpnaaGreat.P
open Go.RowKit Go.Proofs.YtjocbnjpjihpnaaGreatW.AD Go.Proofs.YtjocbnjpjihpnaaGreatW.AR Go.Proofs.YtjocbnjpjihpnaaGreatW.AY
set_option linter.unusedVariables false
def AU.j2:Nat->Bool->List Int->List Int->Int->Int->(List ((Bool × (List Int) × List Int) × Int × Int))->List Bool->Option (Bool × List Int × List Int × Int × Int × List ((Bool × (List Int) × List Int) × Int × Int) × List Bool)
 | 0,_,_,_,_,_,_,_=>none
 | k+1,AIy,AIz,AI0,AI1,AI2,ABY,ABZ=>some (false,([]:List Int),([]:List Int),0,0,ABY,ABZ)
def AU.f (k:Nat) (Af:List ((Bool × (List Int) × List Int) × Int × Int)) (Al:List Bool) (a1:Int):Option (Bool × List Int × List Int × Int × Int × List ((Bool × (List Int) × List Int) × Int × Int) × List Bool):=if a1<1 then(AU.j2 k false [] [] 0 0 Af Al) else(if a1>(Af.length:Int) then(AU.j2 k false [] [] 0 0 Af Al) else(if 0<=(wrap64 ((Af.length:Int)-a1)) then(if(wrap64 ((Af.length:Int)-a1))<(Af.length:Int) then(some ((DH Af (wrap64 ((Af.length:Int)-a1))).1.1,(DH Af (wrap64 ((Af.length:Int)-a1))).1.2.1,(DH Af (wrap64 ((Af.length:Int)-a1))).1.2.2,(DH Af (wrap64 ((Af.length:Int)-a1))).2.1,(DH Af (wrap64 ((Af.length:Int)-a1))).2.2,Af,Al)) else none) else none))
end Go.Proofs.YtjocbnjpjihpnaaGreat.P
