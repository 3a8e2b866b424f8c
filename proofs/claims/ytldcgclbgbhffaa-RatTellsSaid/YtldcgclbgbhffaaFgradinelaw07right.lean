/- Functions of the seat as Lean functions, and walks: written by a program for this claim. -/
import Derived.Test.YtldcgclbgbhffaaFbase
import Derived.Test.YtldcgclbgbhffaaBgradineplain
import Derived.Test.YtldcgclbgbhffaaBgradineref07
namespace Go.Proofs.Ytldcgclbgbhffaa.P
open Go.RowKit Go.Proofs.YtldcgclbgbhffaaW.PrintWords Go.Proofs.YtldcgclbgbhffaaW.PrintLast Go.Proofs.YtldcgclbgbhffaaW.PrintMore
attribute [local go_sem] max2_int min2_int max_two min_two max_three min_three max_four min_four   -- for this text's walks alone
set_option linter.unusedVariables false
set_option linter.unusedSimpArgs false

def gradinelaw07_right.f (k : Nat) (a0_0 : Bool) (l0_1 : List Int) (l0_2 : List Int) : Option (Bool) := (gradineplain_Long.f a0_0 l0_1 l0_2 6).bind fun t904 => (if t904 = true then (some false) else ((gradineref07_Right.f k a0_0 l0_1 l0_2).bind fun t905 => (some t905)))
end Go.Proofs.Ytldcgclbgbhffaa.P
