/- gradinelaw18_comes as a Lean function: written by a program of this session. -/
import Derived.Test.YtjocbnjpjihpnaaGreatFbase
import Derived.Test.YtjocbnjpjihpnaaGreatFsxbase
import Derived.Test.YtjocbnjpjihpnaaGreatBB
namespace Go.Proofs.YtjocbnjpjihpnaaGreat.P
open Go.RowKit Go.Proofs.YtjocbnjpjihpnaaGreatW.AD Go.Proofs.YtjocbnjpjihpnaaGreatW.AU Go.Proofs.YtjocbnjpjihpnaaGreatW.Ac
set_option linter.unusedVariables false
mutual
def AG.j7:Nat->Int->(List (Int × Int × Int × Bool × (List Int) × List Int))->(List (Bool × (List Int) × List Int))->List Int->Int->(List ((Bool × (List Int) × List Int) × Int × Int))->List Bool->(List ((Bool × (List Int) × List Int) × Int × Int))->List Bool->Option (Bool)
 | 0,_,_,_,_,_,_,_,_,_=>none
 | k+1,x0,x3,Dm,X0,uw,Gn,JG,Ie,OZ=>if x0=0 then(if(Dm.length:Int)=(x3.length:Int) then(if x0=1 then(if uw=0 then(if(X0.length:Int)=(x3.length:Int) then(AG.j9 k x0 x3 Dm X0 Gn JG Ie OZ) else(AG.j8 k)) else(AG.j8 k)) else(AG.j9 k x0 x3 Dm X0 Gn JG Ie OZ)) else(AG.j8 k)) else(if x0=1 then(if uw=0 then(if(X0.length:Int)=(x3.length:Int) then(AG.j9 k x0 x3 Dm X0 Gn JG Ie OZ) else(AG.j8 k)) else(AG.j8 k)) else(AG.j9 k x0 x3 Dm X0 Gn JG Ie OZ))
def AG.j9:Nat->Int->(List (Int × Int × Int × Bool × (List Int) × List Int))->(List (Bool × (List Int) × List Int))->List Int->(List ((Bool × (List Int) × List Int) × Int × Int))->List Bool->(List ((Bool × (List Int) × List Int) × Int × Int))->List Bool->Option (Bool)
 | 0,_,_,_,_,_,_,_,_=>none
 | k+1,x0,x3,Dm,X0,Gn,JG,Ie,OZ=>AG.l0 k x0 x3 Dm X0 (Gn.length:Int) 0 Gn JG Ie OZ
def AG.j8:Nat->Option (Bool)
 | 0=>none
 | k+1=>some false
def AG.l0:Nat->Int->(List (Int × Int × Int × Bool × (List Int) × List Int))->(List (Bool × (List Int) × List Int))->List Int->Int->Int->(List ((Bool × (List Int) × List Int) × Int × Int))->List Bool->(List ((Bool × (List Int) × List Int) × Int × Int))->List Bool->Option (Bool)
 | 0,_,_,_,_,_,_,_,_,_,_=>none
 | k+1,x0,x3,Dm,X0,x76,X1,Gn,JG,Ie,OZ=>if X1<x76 then(if 0<=X1 then(if X1<(Ie.length:Int) then(if(Bz Ie X1).2.2<0 then(some false) else(if(Bz Ie X1).2.2>=(x3.length:Int) then(some false) else(if x0=0 then(if 0<=(Bz Ie X1).2.2 then(if(Bz Ie X1).2.2<(Dm.length:Int) then(if X1<(Gn.length:Int) then((G1.f k (CI Dm (Bz Ie X1).2.2).1 (CI Dm (Bz Ie X1).2.2).2.1 (CI Dm (Bz Ie X1).2.2).2.2 (Bz Gn X1).1.1 (Bz Gn X1).1.2.1 (Bz Gn X1).1.2.2).bind λt3=>(if t3=true then(if x0=1 then(if(Bz Ie X1).2.2<(X0.length:Int) then(if(rd X0 (Bz Ie X1).2.2)=(Bz Gn X1).2.1 then(AG.l0 k x0 x3 Dm X0 x76 (wrap64 (X1+1)) Gn JG Ie OZ) else(some false)) else none) else(AG.l0 k x0 x3 Dm X0 x76 (wrap64 (X1+1)) Gn JG Ie OZ)) else(some false))) else none) else none) else none) else(if x0=1 then(if 0<=(Bz Ie X1).2.2 then(if(Bz Ie X1).2.2<(X0.length:Int) then(if X1<(Gn.length:Int) then(if(rd X0 (Bz Ie X1).2.2)=(Bz Gn X1).2.1 then(AG.l0 k x0 x3 Dm X0 x76 (wrap64 (X1+1)) Gn JG Ie OZ) else(some false)) else none) else none) else none) else(AG.l0 k x0 x3 Dm X0 x76 (wrap64 (X1+1)) Gn JG Ie OZ))))) else none) else none) else(some true)
end
def AG.f (k:Nat) (a0:Int) (D7:List ((Bool × (List Int) × List Int) × Int × Int)) (DR:List Bool) (F1:List ((Bool × (List Int) × List Int) × Int × Int)) (HD:List Bool) (a3:List (Int × Int × Int × Bool × (List Int) × List Int)) (a4:List (Bool × (List Int) × List Int)) (a5:List Int):Option (Bool):=if(D7.length:Int)=(F1.length:Int) then((Ak.f k a3 a4 ([]:List (Bool × (List Int) × List Int))).bind λAT=>((BP.f k a3 a5).bind λCj=>(if a0=0 then(if AT.2.2=0 then(AG.j7 k a0 a3 AT.1 Cj.1 Cj.2.2 D7 DR F1 HD) else(some (AT.2.2==5))) else(AG.j7 k a0 a3 AT.1 Cj.1 Cj.2.2 D7 DR F1 HD)))) else(some false)
end Go.Proofs.YtjocbnjpjihpnaaGreat.P
