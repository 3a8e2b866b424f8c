/- gradinelaw18_ref as a Lean function: written by a program of this session. -/
import Derived.Test.YtjocbnjpjihpnaaGreatFbase
import Derived.Test.YtjocbnjpjihpnaaGreatFsxbase
import Derived.Test.YtjocbnjpjihpnaaGreatFgradinelaw18Runback
import Derived.Test.YtjocbnjpjihpnaaGreatBB
namespace Go.Proofs.YtjocbnjpjihpnaaGreat.P
open Go.RowKit Go.Proofs.YtjocbnjpjihpnaaGreatW.AH Go.Proofs.YtjocbnjpjihpnaaGreatW.AX Go.Proofs.YtjocbnjpjihpnaaGreatW.Ad
set_option linter.unusedVariables false
mutual
def AD.j2:Nat->Bool->Int->Int->Int->Int->Int->Int->Int->Int->Int->List Bool->Bool->(List ((Bool × (List Int) × List Int) × Int × Int))->List Bool->Option (Int × Int × Int × List Bool × Bool × List ((Bool × (List Int) × List Int) × Int × Int) × List Bool)
 | 0,_,_,_,_,_,_,_,_,_,_,_,_,_,_=>none
 | k+1,x6,DZ,Ds,Dd,EH,EI,EY,A9,BA,BB,BC,BD,Cp,DF=>if DZ>1 then(if Ds<1 then(some (A9,BA,BB,BC,BD,Cp,DF)) else(if Ds>(Cp.length:Int) then(some (A9,BA,BB,BC,BD,Cp,DF)) else(if x6=true then(if Dd<1 then(some (A9,BA,BB,BC,BD,Cp,DF)) else(if Dd>(Cp.length:Int) then(some (A9,BA,BB,BC,BD,Cp,DF)) else(AD.j3 k DZ Ds Dd EH EI EY A9 BA BB BC BD Cp DF))) else(AD.j3 k DZ Ds Dd EH EI EY A9 BA BB BC BD Cp DF)))) else(if x6=true then(if Dd<1 then(some (A9,BA,BB,BC,BD,Cp,DF)) else(if Dd>(Cp.length:Int) then(some (A9,BA,BB,BC,BD,Cp,DF)) else(AD.j3 k DZ Ds Dd EH EI EY A9 BA BB BC BD Cp DF))) else(AD.j3 k DZ Ds Dd EH EI EY A9 BA BB BC BD Cp DF))
def AD.j3:Nat->Int->Int->Int->Int->Int->Int->Int->Int->Int->List Bool->Bool->(List ((Bool × (List Int) × List Int) × Int × Int))->List Bool->Option (Int × Int × Int × List Bool × Bool × List ((Bool × (List Int) × List Int) × Int × Int) × List Bool)
 | 0,_,_,_,_,_,_,_,_,_,_,_,_,_=>none
 | k+1,DZ,Ds,Dd,EH,EI,EY,A9,BA,BB,BC,BD,Cp,DF=>if DZ=0 then((Iu.f k A9 BA BB BC BD EH EI EY).bind λAW=>(if(Cp.length+1)*72<=140737488355328 then(AD.j5 k DZ Ds Dd EH EI EY AW.2.2.2.2.2.1 AW.2.2.2.2.2.2.1 AW.2.2.2.2.2.2.2.1 AW.2.2.2.2.2.2.2.2.1 AW.2.2.2.2.2.2.2.2.2 (Cp++ [((AW.1,(AW.2.1,AW.2.2.1)),(AW.2.2.2.1,AW.2.2.2.2.1))]) DF) else none)) else(AD.j5 k DZ Ds Dd EH EI EY A9 BA BB BC BD Cp DF)
def AD.j5:Nat->Int->Int->Int->Int->Int->Int->Int->Int->Int->List Bool->Bool->(List ((Bool × (List Int) × List Int) × Int × Int))->List Bool->Option (Int × Int × Int × List Bool × Bool × List ((Bool × (List Int) × List Int) × Int × Int) × List Bool)
 | 0,_,_,_,_,_,_,_,_,_,_,_,_,_=>none
 | k+1,DZ,Ds,Dd,EH,EI,EY,A9,BA,BB,BC,BD,Cp,DF=>if DZ=1 then((Iv.f k A9 BA BB BC BD EH EI).bind λCQ=>(if(Cp.length+1)*72<=140737488355328 then(AD.j7 k DZ Ds Dd EH EI EY CQ.2.2.2.2.2.1 CQ.2.2.2.2.2.2.1 CQ.2.2.2.2.2.2.2.1 CQ.2.2.2.2.2.2.2.2.1 CQ.2.2.2.2.2.2.2.2.2 (Cp++ [((CQ.1,(CQ.2.1,CQ.2.2.1)),(CQ.2.2.2.1,CQ.2.2.2.2.1))]) DF) else none)) else(AD.j7 k DZ Ds Dd EH EI EY A9 BA BB BC BD Cp DF)
def AD.j7:Nat->Int->Int->Int->Int->Int->Int->Int->Int->Int->List Bool->Bool->(List ((Bool × (List Int) × List Int) × Int × Int))->List Bool->Option (Int × Int × Int × List Bool × Bool × List ((Bool × (List Int) × List Int) × Int × Int) × List Bool)
 | 0,_,_,_,_,_,_,_,_,_,_,_,_,_=>none
 | k+1,DZ,Ds,Dd,EH,EI,EY,A9,BA,BB,BC,BD,Cp,DF=>if DZ>=3 then(if DZ<=10 then((AU.f k Cp DF Ds).bind λJp=>((AU.f k Jp.2.2.2.2.2.1 Jp.2.2.2.2.2.2 Dd).bind λC5=>((DT.f k A9 BA BB BC BD DZ Jp.1 Jp.2.1 Jp.2.2.1 Jp.2.2.2.1 Jp.2.2.2.2.1 C5.1 C5.2.1 C5.2.2.1 C5.2.2.2.1 C5.2.2.2.2.1).bind λHF=>(if(C5.2.2.2.2.2.1.length+1)*72<=140737488355328 then(AD.j9 k DZ Ds Dd EH EI EY HF.2.2.2.2.2.1 HF.2.2.2.2.2.2.1 HF.2.2.2.2.2.2.2.1 HF.2.2.2.2.2.2.2.2.1 HF.2.2.2.2.2.2.2.2.2 (C5.2.2.2.2.2.1++ [((HF.1,(HF.2.1,HF.2.2.1)),(HF.2.2.2.1,HF.2.2.2.2.1))]) C5.2.2.2.2.2.2) else none)))) else(AD.j9 k DZ Ds Dd EH EI EY A9 BA BB BC BD Cp DF)) else(AD.j9 k DZ Ds Dd EH EI EY A9 BA BB BC BD Cp DF)
def AD.j9:Nat->Int->Int->Int->Int->Int->Int->Int->Int->Int->List Bool->Bool->(List ((Bool × (List Int) × List Int) × Int × Int))->List Bool->Option (Int × Int × Int × List Bool × Bool × List ((Bool × (List Int) × List Int) × Int × Int) × List Bool)
 | 0,_,_,_,_,_,_,_,_,_,_,_,_,_=>none
 | k+1,DZ,Ds,Dd,EH,EI,EY,A9,BA,BB,BC,BD,Cp,DF=>if DZ=11 then((AU.f k Cp DF Ds).bind λFw=>((AU.f k Fw.2.2.2.2.2.1 Fw.2.2.2.2.2.2 Dd).bind λIe=>((BZ.f k A9 BA BB BC BD Fw.1 Fw.2.1 Fw.2.2.1 Fw.2.2.2.1 Fw.2.2.2.2.1 Ie.1 Ie.2.1 Ie.2.2.1 Ie.2.2.2.1 Ie.2.2.2.2.1).bind λM6=>(if(Ie.2.2.2.2.2.2.length+1)*1<=140737488355328 then(some (M6.2.1,M6.2.2.1,M6.2.2.2.1,M6.2.2.2.2.1,M6.2.2.2.2.2,Ie.2.2.2.2.2.1,(Ie.2.2.2.2.2.2++ [M6.1]))) else none)))) else(some (A9,BA,BB,BC,BD,Cp,DF))
end
def AD.f (k:Nat) (Ab Ae Af:Int) (Ah:List Bool) (Ai:Bool) (j8:List ((Bool × (List Int) × List Int) × Int × Int)) (kC:List Bool) (EA FZ Fa H8 J3 AAb:Int):Option (Int × Int × Int × List Bool × Bool × List ((Bool × (List Int) × List Int) × Int × Int) × List Bool):=if EA>=4 then(if EA<=7 then(AD.j2 k true EA FZ Fa H8 J3 AAb Ab Ae Af Ah Ai j8 kC) else(AD.j2 k (EA==11) EA FZ Fa H8 J3 AAb Ab Ae Af Ah Ai j8 kC)) else(AD.j2 k (EA==11) EA FZ Fa H8 J3 AAb Ab Ae Af Ah Ai j8 kC)
end Go.Proofs.YtjocbnjpjihpnaaGreat.P
