/- gradinelaw18_Run_back as a Lean function: written by a program of this session. -/
import Derived.Test.YtjocbnjpjihpnaaGreatFbase
import Derived.Test.YtjocbnjpjihpnaaGreatFsxbase
namespace Go.Proofs.YtjocbnjpjihpnaaGreat.P
open Go.RowKit Go.Proofs.YtjocbnjpjihpnaaGreatW.AD Go.Proofs.YtjocbnjpjihpnaaGreatW.AU Go.Proofs.YtjocbnjpjihpnaaGreatW.Ac
set_option linter.unusedVariables false
def Ab.j2:Nat->Bool->List Int->List Int->Int->Int->(List ((Bool × (List Int) × List Int) × Int × Int))->List Bool->Option (Bool × List Int × List Int × Int × Int × List ((Bool × (List Int) × List Int) × Int × Int) × List Bool)
 | 0,_,_,_,_,_,_,_=>none
 | k+1,ALX,ALY,ALZ,ALa,ALb,Oi,R4=>some (false,([]:List Int),([]:List Int),0,0,Oi,R4)
def Ab.f (k:Nat) (AX:List ((Bool × (List Int) × List Int) × Int × Int)) (Al:List Bool) (a1:Int):Option (Bool × List Int × List Int × Int × Int × List ((Bool × (List Int) × List Int) × Int × Int) × List Bool):=if a1<1 then(Ab.j2 k false [] [] 0 0 AX Al) else(if a1>(AX.length:Int) then(Ab.j2 k false [] [] 0 0 AX Al) else(if 0<=(wrap64 ((AX.length:Int)-a1)) then(if(wrap64 ((AX.length:Int)-a1))<(AX.length:Int) then(some ((Bz AX (wrap64 ((AX.length:Int)-a1))).1.1,(Bz AX (wrap64 ((AX.length:Int)-a1))).1.2.1,(Bz AX (wrap64 ((AX.length:Int)-a1))).1.2.2,(Bz AX (wrap64 ((AX.length:Int)-a1))).2.1,(Bz AX (wrap64 ((AX.length:Int)-a1))).2.2,AX,Al)) else none) else none))
end Go.Proofs.YtjocbnjpjihpnaaGreat.P
