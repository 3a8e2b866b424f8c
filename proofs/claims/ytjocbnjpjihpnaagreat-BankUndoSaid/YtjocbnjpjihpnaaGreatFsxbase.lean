/- Readers of rows of structs. -/
import Derived.Test.YtjocbnjpjihpnaaGreatFbase
namespace Go.Proofs.YtjocbnjpjihpnaaGreat.P
abbrev AKz (xs:List (Bool)) (i:Int):Bool:=xs.getD i.toNat false
abbrev AMC (xs:List (Bool × (List Int) × List Int)) (i:Int):Bool × (List Int) × List Int:=xs.getD i.toNat (false,([],[]))
abbrev DH (xs:List ((Bool × (List Int) × List Int) × Int × Int)) (i:Int):(Bool × (List Int) × List Int) × Int × Int:=xs.getD i.toNat ((false,([],[])),(0,0))
abbrev HH (xs:List (Int × Int × Int × Bool × (List Int) × List Int)) (i:Int):Int × Int × Int × Bool × (List Int) × List Int:=xs.getD i.toNat (0,(0,(0,(false,([],[])))))
abbrev BI (xs:List (Int × Int × Int × Int × Int × Int)) (i:Int):Int × Int × Int × Int × Int × Int:=xs.getD i.toNat (0,(0,(0,(0,(0,0)))))
end Go.Proofs.YtjocbnjpjihpnaaGreat.P
