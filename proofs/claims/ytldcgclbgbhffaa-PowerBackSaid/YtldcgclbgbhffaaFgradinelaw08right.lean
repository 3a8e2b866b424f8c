/- Functions of the seat as Lean functions, and walks: written by a program for this claim. -/
import Derived.Test.YtldcgclbgbhffaaFbase
import Derived.Test.YtldcgclbgbhffaaBgradineplain
import Derived.Test.YtldcgclbgbhffaaBgradineref07
namespace Go.Proofs.Ytldcgclbgbhffaa.P
open Go.RowKit Go.Proofs.YtldcgclbgbhffaaW.PrintWords Go.Proofs.YtldcgclbgbhffaaW.PrintLast Go.Proofs.YtldcgclbgbhffaaW.PrintMore
attribute [local go_sem] max2_int min2_int max_two min_two max_three min_three max_four min_four   -- for this text's walks alone
set_option linter.unusedVariables false
set_option linter.unusedSimpArgs false

def gradinelaw08_right.f (k : Nat) (a0_0 : Bool) (l0_1 : List Int) (l0_2 : List Int) (a1 : Int) : Option (Bool) := (gradineplain_Long.f a0_0 l0_1 l0_2 a1).bind fun t1560 => (if t1560 = true then (some false) else ((gradineref07_Right.f k a0_0 l0_1 l0_2).bind fun t1561 => (some t1561)))
end Go.Proofs.Ytldcgclbgbhffaa.P
