/- gradinelaw18_Run_back as a Lean function: written by a program of this session. -/
import Derived.Test.YtjocbnjpjihpnaaGreatFbase
import Derived.Test.YtjocbnjpjihpnaaGreatFsxbase
namespace Go.Proofs.YtjocbnjpjihpnaaGreat.P
open Go.RowKit Go.Proofs.YtjocbnjpjihpnaaGreatW.AH Go.Proofs.YtjocbnjpjihpnaaGreatW.AX Go.Proofs.YtjocbnjpjihpnaaGreatW.Ad
set_option linter.unusedVariables false
def AU.j2:Nat->Bool->List Int->List Int->Int->Int->(List ((Bool × (List Int) × List Int) × Int × Int))->List Bool->Option (Bool × List Int × List Int × Int × Int × List ((Bool × (List Int) × List Int) × Int × Int) × List Bool)
 | 0,_,_,_,_,_,_,_=>none
 | k+1,APb,APc,APd,APe,APf,AGS,AGT=>some (false,([]:List Int),([]:List Int),0,0,AGS,AGT)
def AU.f (k:Nat) (Ab:List ((Bool × (List Int) × List Int) × Int × Int)) (Ae:List Bool) (a1:Int):Option (Bool × List Int × List Int × Int × Int × List ((Bool × (List Int) × List Int) × Int × Int) × List Bool):=if a1<1 then(AU.j2 k false [] [] 0 0 Ab Ae) else(if a1>(Ab.length:Int) then(AU.j2 k false [] [] 0 0 Ab Ae) else(if 0<=(wrap64 ((Ab.length:Int)-a1)) then(if(wrap64 ((Ab.length:Int)-a1))<(Ab.length:Int) then(some ((Dp Ab (wrap64 ((Ab.length:Int)-a1))).1.1,(Dp Ab (wrap64 ((Ab.length:Int)-a1))).1.2.1,(Dp Ab (wrap64 ((Ab.length:Int)-a1))).1.2.2,(Dp Ab (wrap64 ((Ab.length:Int)-a1))).2.1,(Dp Ab (wrap64 ((Ab.length:Int)-a1))).2.2,Ab,Ae)) else none) else none))
end Go.Proofs.YtjocbnjpjihpnaaGreat.P
