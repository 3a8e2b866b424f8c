/- Functions of the seat as Lean functions, and walks: written by a program for this claim. -/
import Derived.Test.YtldcgclbgbhffaaFbase
import Derived.Test.YtldcgclbgbhffaaBrat
import Derived.Test.YtldcgclbgbhffaaFgradinelaw08right
import Derived.Test.YtldcgclbgbhffaaBpower
import Derived.Test.YtldcgclbgbhffaaFgradinelaw08same
namespace Go.Proofs.Ytldcgclbgbhffaa.P
open Go.RowKit Go.Proofs.YtldcgclbgbhffaaW.PrintWords Go.Proofs.YtldcgclbgbhffaaW.PrintLast Go.Proofs.YtldcgclbgbhffaaW.PrintMore
attribute [local go_sem] max2_int min2_int max_two min_two max_three min_three max_four min_four   -- for this text's walks alone
set_option linter.unusedVariables false
set_option linter.unusedSimpArgs false

def gradinelaw08_PowerBack.j0 (k : Nat) (x38 : Bool) (x2037000 : Bool) (x2037001 : List Int) (x2037002 : List Int) (x2057000 : Bool) (x2057001 : List Int) (x2057002 : List Int) : Option (Bool) := if x38 = true then (some false) else ((rat_Cmp.f k x2057000 x2057001 x2057002 x2037000 x2037001 x2037002).bind fun t2059 => (if t2059 ≤ 0 then ((rat_Of.f k 1).bind fun bt2060 => ((rat_Add.f k x2057000 x2057001 x2057002 bt2060.1 bt2060.2.1 bt2060.2.2).bind fun bt2067 => ((rat_Cmp.f k bt2067.1 bt2067.2.1 bt2067.2.2 x2037000 x2037001 x2037002).bind fun t2074 => (if t2074 > 0 then ((power_Abs.f k x2037000 x2037001 x2037002).bind fun bt2075 => ((rat_Sign.f k bt2075.1 bt2075.2.1 bt2075.2.2).bind fun t2082 => (if t2082 ≥ 0 then ((gradinelaw08_same.f k).bind fun t2083 => (some t2083)) else (some false)))) else (some false))))) else (some false)))
def gradinelaw08_PowerBack.f (k : Nat) (a0_0 : Bool) (l0_1 : List Int) (l0_2 : List Int) : Option (Bool) := (gradinelaw08_right.f k a0_0 l0_1 l0_2 8).bind fun t2037 => (if t2037 = true then ((power_Show.f k a0_0 l0_1 l0_2).bind fun t2039 => ((power_Read.f k t2039).bind fun bt2040 => ((power_Floor.f k a0_0 l0_1 l0_2).bind fun bt2049 => (if bt2040.2.2.2 = 0 then ((rat_Same.f k bt2040.1 bt2040.2.1 bt2040.2.2.1 a0_0 l0_1 l0_2).bind fun t2057 => (if t2057 = true then (if (bt2049.2.2.length : Int) = 1 then (if 0 < (bt2049.2.2.length : Int) then (gradinelaw08_PowerBack.j0 k ((rd bt2049.2.2 0) != 1) a0_0 l0_1 l0_2 bt2049.1 bt2049.2.1 bt2049.2.2) else (none)) else (gradinelaw08_PowerBack.j0 k true a0_0 l0_1 l0_2 bt2049.1 bt2049.2.1 bt2049.2.2)) else (gradinelaw08_PowerBack.j0 k true a0_0 l0_1 l0_2 bt2049.1 bt2049.2.1 bt2049.2.2))) else (gradinelaw08_PowerBack.j0 k true a0_0 l0_1 l0_2 bt2049.1 bt2049.2.1 bt2049.2.2))))) else ((gradinelaw08_same.f k).bind fun t2038 => (some t2038)))
end Go.Proofs.Ytldcgclbgbhffaa.P
