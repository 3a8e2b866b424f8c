/- Functions of the seat as Lean functions, and walks: written by a program for this claim. -/
import Derived.Test.YtbpggonjcnakgaaFbase
import Derived.Test.YtbpggonjcnakgaaBgradineref10
import Derived.Test.YtbpggonjcnakgaaBfround
import Derived.Test.YtbpggonjcnakgaaFgradinelaw10same
namespace Go.Proofs.Ytbpggonjcnakgaa.P
open Go.RowKit Go.Proofs.YtbpggonjcnakgaaW.PrintWords Go.Proofs.YtbpggonjcnakgaaW.PrintLast Go.Proofs.YtbpggonjcnakgaaW.PrintMore
attribute [local go_sem] max2_int min2_int max_two min_two max_three min_three max_four min_four   -- for this text's walks alone
set_option linter.unusedVariables false
set_option linter.unusedSimpArgs false

def gradinelaw10_FroundLists.f (k : Nat) (a0_0 : Bool) (a0_1 : Bool) (l0_2 : List Int) (a0_3 : Int) (a1 : Int) : Option (Bool) := if (l0_2.length : Int) > 40 then ((gradinelaw10_same.f k).bind fun t567 => (some t567)) else ((fround_Of.f k a0_0 l0_2 a0_3 a0_1).bind fun t568 => ((gradineref10_More.f k a0_0 l0_2 a0_3 a0_1).bind fun t569 => (if t568 = t569 then ((fround_FromInt.f k a1).bind fun t570 => ((gradineref10_FromInt.f k a1).bind fun t571 => (if t570 = t571 then ((gradinelaw10_same.f k).bind fun t572 => (some t572)) else (some false)))) else (some false))))
end Go.Proofs.Ytbpggonjcnakgaa.P
