/- Functions of one package as Lean functions, and walks: written by a program for this claim. -/
import Derived.Test.YtjocbnjpjihpnaaFbase
import Derived.Test.YtjocbnjpjihpnaaBnat
import Derived.Test.YtjocbnjpjihpnaaBgcd
namespace Go.Proofs.Ytjocbnjpjihpnaa.P
open Go.RowKit Go.Proofs.YtjocbnjpjihpnaaW.PrintWords Go.Proofs.YtjocbnjpjihpnaaW.PrintLast Go.Proofs.YtjocbnjpjihpnaaW.PrintMore
attribute [local go_sem] max2_int min2_int max_two min_two max_three min_three max_four min_four   -- for this text's walks alone
set_option linter.unusedVariables false
set_option linter.unusedSimpArgs false

def rat_Sign.f (k : Nat) (a0_0 : Bool) (l0_1 : List Int) (l0_2 : List Int) : Option (Int) := (nat_Bits.f k l0_1).bind fun t724 => (if t724 = 0 then (some 0) else (if a0_0 = true then (some (-1)) else (some 1)))

def rat_lowest.f (k : Nat) (a0 : Bool) (l1 : List Int) (l2 : List Int) : Option (Bool × List Int × List Int) := (gcd_Reduce.f k l1 l2).bind fun bt992 => (if a0 = true then (some (decide ((bt992.1.length : Int) > 0), bt992.1, bt992.2)) else (some (false, bt992.1, bt992.2)))

def rat_Make.f (k : Nat) (a0 : Bool) (l1 : List Int) (l2 : List Int) : Option (Bool × List Int × List Int × Int) := (nat_Bits.f k l2).bind fun t999 => (if t999 = 0 then (some (false, ([] : List Int), ([] : List Int), 4)) else ((rat_lowest.f k a0 l1 l2).bind fun bt1000 => (some (bt1000.1, bt1000.2.1, bt1000.2.2, 0))))

end Go.Proofs.Ytjocbnjpjihpnaa.P
