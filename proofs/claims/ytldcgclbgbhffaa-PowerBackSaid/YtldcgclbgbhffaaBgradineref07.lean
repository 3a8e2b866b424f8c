/- Functions of one package as Lean functions, and walks: written by a program for this claim. -/
import Derived.Test.YtldcgclbgbhffaaFbase
import Derived.Test.YtldcgclbgbhffaaBgradineref02
import Derived.Test.YtldcgclbgbhffaaBgradineref05
namespace Go.Proofs.Ytldcgclbgbhffaa.P
open Go.RowKit Go.Proofs.YtldcgclbgbhffaaW.PrintWords Go.Proofs.YtldcgclbgbhffaaW.PrintLast Go.Proofs.YtldcgclbgbhffaaW.PrintMore
attribute [local go_sem] max2_int min2_int max_two min_two max_three min_three max_four min_four   -- for this text's walks alone
set_option linter.unusedVariables false
set_option linter.unusedSimpArgs false

def gradineref07_Right.j0 (k : Nat) (x28 : Bool) (x844000 : Bool) (x844001 : List Int) (x844002 : List Int) : Option (Bool) := if x28 = true then (some false) else ((gradineref05_Gcd.f k x844001 x844002).bind fun t846 => ((gradineref02_Cmp.f k t846 (([1] : List Int))).bind fun t852 => (some (t852 == 0))))
def gradineref07_Right.f (k : Nat) (a0_0 : Bool) (l0_1 : List Int) (l0_2 : List Int) : Option (Bool) := (gradineref02_Right.f k l0_1).bind fun t844 => (if t844 = true then ((gradineref02_Right.f k l0_2).bind fun t845 => (if t845 = true then (if (l0_2.length : Int) = 0 then (gradineref07_Right.j0 k true a0_0 l0_1 l0_2) else (if a0_0 = true then (gradineref07_Right.j0 k ((l0_1.length : Int) == 0) a0_0 l0_1 l0_2) else (gradineref07_Right.j0 k false a0_0 l0_1 l0_2))) else (gradineref07_Right.j0 k true a0_0 l0_1 l0_2))) else (gradineref07_Right.j0 k true a0_0 l0_1 l0_2))

end Go.Proofs.Ytldcgclbgbhffaa.P
