/- Readers of rows of structs. -/
import Derived.Test.YtjocbnjpjihpnaaGreatFbase
namespace Go.Proofs.YtjocbnjpjihpnaaGreat.P
abbrev rd_b (xs:List (Bool)) (i:Int):Bool:=xs.getD i.toNat false
abbrev rd_bLL (xs:List (Bool × (List Int) × List Int)) (i:Int):Bool × (List Int) × List Int:=xs.getD i.toNat (false,([],[]))
abbrev rd_bLLii (xs:List ((Bool × (List Int) × List Int) × Int × Int)) (i:Int):(Bool × (List Int) × List Int) × Int × Int:=xs.getD i.toNat ((false,([],[])),(0,0))
abbrev rd_iiibLL (xs:List (Int × Int × Int × Bool × (List Int) × List Int)) (i:Int):Int × Int × Int × Bool × (List Int) × List Int:=xs.getD i.toNat (0,(0,(0,(false,([],[])))))
end Go.Proofs.YtjocbnjpjihpnaaGreat.P
