/- Functions of the seat as Lean functions, and walks: written by a program for this claim. -/
import Derived.Test.YtldcgclbgbhffaaFbase
import Derived.Test.YtldcgclbgbhffaaBgradineref02
import Derived.Test.YtldcgclbgbhffaaBgradineplain
import Derived.Test.YtldcgclbgbhffaaBrat
import Derived.Test.YtldcgclbgbhffaaFgradinelaw07same
import Derived.Test.YtldcgclbgbhffaaBgradineref07
namespace Go.Proofs.Ytldcgclbgbhffaa.P
open Go.RowKit Go.Proofs.YtldcgclbgbhffaaW.PrintWords Go.Proofs.YtldcgclbgbhffaaW.PrintLast Go.Proofs.YtldcgclbgbhffaaW.PrintMore
attribute [local go_sem] max2_int min2_int max_two min_two max_three min_three max_four min_four   -- for this text's walks alone
set_option linter.unusedVariables false
set_option linter.unusedSimpArgs false

def gradinelaw07_RatMakes.j0 (k : Nat) (x60 : Bool) (x860000 : Bool) (x860001 : List Int) (x860002 : List Int) (x871000 : Bool) (x871001 : List Int) (x871002 : List Int) : Option (Bool) := if x60 = true then (some false) else ((rat_Right.f k x860000 x860001 x860002).bind fun t898 => ((gradineref07_Right.f k x860000 x860001 x860002).bind fun t899 => (if (t898 == t899) = true then ((rat_Same.f k x860000 x860001 x860002 x871000 x871001 x871002).bind fun t900 => ((gradineref07_Same.f k x860000 x860001 x860002 x871000 x871001 x871002).bind fun t901 => (if (t900 == t901) = true then ((gradinelaw07_same.f k).bind fun t902 => (some t902)) else (some false)))) else (some false))))
def gradinelaw07_RatMakes.f (k : Nat) (a0 : Bool) (a1_0 : Bool) (l1_1 : List Int) (l1_2 : List Int) (a2 : Int) : Option (Bool) := (gradineplain_Long.f a1_0 l1_1 l1_2 8).bind fun t860 => (if t860 = true then ((gradinelaw07_same.f k).bind fun t861 => (some t861)) else ((rat_Make.f k a0 l1_1 l1_2).bind fun bt862 => ((gradineref02_Size.f k l1_2).bind fun t871 => (if t871 = 0 then (if bt862.2.2.2 = 4 then ((gradineref07_Same.f k bt862.1 bt862.2.1 bt862.2.2.1 false ([] : List Int) ([] : List Int)).bind fun t872 => (if t872 = true then ((rat_Right.f k a1_0 l1_1 l1_2).bind fun t873 => (if t873 = true then (some false) else ((gradinelaw07_same.f k).bind fun t874 => (some t874)))) else (some false))) else (some false)) else (if bt862.2.2.2 = 0 then ((gradineref07_Make.f k a0 l1_1 l1_2).bind fun bt875 => ((gradineref07_Same.f k bt862.1 bt862.2.1 bt862.2.2.1 bt875.1 bt875.2.1 bt875.2.2).bind fun t882 => (if t882 = true then ((rat_Of.f k a2).bind fun bt883 => ((gradineref07_Of.f k a2).bind fun bt890 => ((gradineref07_Same.f k bt883.1 bt883.2.1 bt883.2.2 bt890.1 bt890.2.1 bt890.2.2).bind fun t897 => (gradinelaw07_RatMakes.j0 k (!t897) a1_0 l1_1 l1_2 bt862.1 bt862.2.1 bt862.2.2.1)))) else (gradinelaw07_RatMakes.j0 k true a1_0 l1_1 l1_2 bt862.1 bt862.2.1 bt862.2.2.1)))) else (gradinelaw07_RatMakes.j0 k true a1_0 l1_1 l1_2 bt862.1 bt862.2.1 bt862.2.2.1))))))
end Go.Proofs.Ytldcgclbgbhffaa.P
