/- Functions of the seat as Lean functions, and walks: written by a program for this claim. -/
import Derived.Test.YtjocbnjpjihpnaaFbase
import Derived.Test.YtjocbnjpjihpnaaBgradineplain
import Derived.Test.YtjocbnjpjihpnaaBgradineref07
namespace Go.Proofs.Ytjocbnjpjihpnaa.P
open Go.RowKit Go.Proofs.YtjocbnjpjihpnaaW.PrintWords Go.Proofs.YtjocbnjpjihpnaaW.PrintLast Go.Proofs.YtjocbnjpjihpnaaW.PrintMore
attribute [local go_sem] max2_int min2_int max_two min_two max_three min_three max_four min_four   -- for this text's walks alone
set_option linter.unusedVariables false
set_option linter.unusedSimpArgs false

def gradinelaw10_right.f (k : Nat) (a0_0 : Bool) (l0_1 : List Int) (l0_2 : List Int) : Option (Bool) := (gradineplain_Long.f a0_0 l0_1 l0_2 20).bind fun t721 => (if t721 = true then (some false) else ((gradineref07_Right.f k a0_0 l0_1 l0_2).bind fun t722 => (some t722)))
end Go.Proofs.Ytjocbnjpjihpnaa.P
