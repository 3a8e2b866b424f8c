/- Functions of the seat as Lean functions, and walks: written by a program for this claim. -/
import Derived.Test.YtldcgclbgbhffaaFbase
import Derived.Test.YtldcgclbgbhffaaBrat
namespace Go.Proofs.Ytldcgclbgbhffaa.P
open Go.RowKit Go.Proofs.YtldcgclbgbhffaaW.PrintWords Go.Proofs.YtldcgclbgbhffaaW.PrintLast Go.Proofs.YtldcgclbgbhffaaW.PrintMore
attribute [local go_sem] max2_int min2_int max_two min_two max_three min_three max_four min_four   -- for this text's walks alone
set_option linter.unusedVariables false
set_option linter.unusedSimpArgs false

def gradinelaw07_same.f (k : Nat)  : Option (Bool) := (rat_Make.f k false (([1] : List Int)) (([6] : List Int))).bind fun bt543 => ((rat_Make.f k false (([2] : List Int)) (([20] : List Int))).bind fun bt558 => ((rat_Add.f k bt543.1 bt543.2.1 bt543.2.2.1 bt558.1 bt558.2.1 bt558.2.2.1).bind fun bt567 => (if bt543.2.2.2 = 0 then (if bt558.2.2.2 = 0 then (if (bt567.2.1.length : Int) = 1 then (if 0 < (bt567.2.1.length : Int) then (if (rd bt567.2.1 0) = 4 then (if (bt567.2.2.length : Int) = 1 then (if 0 < (bt567.2.2.length : Int) then (if (rd bt567.2.2 0) = 15 then ((rat_Of.f k (-3)).bind fun bt577 => ((rat_Sign.f k bt577.1 bt577.2.1 bt577.2.2).bind fun t584 => (some (t584 == (-1))))) else (some false)) else (none)) else (some false)) else (some false)) else (none)) else (some false)) else (some false)) else (some false))))
end Go.Proofs.Ytldcgclbgbhffaa.P
