/- Functions of the seat as Lean functions, and walks: written by a program for this claim. -/
import Derived.Test.YtldcgclbgbhffaaFbase
import Derived.Test.YtldcgclbgbhffaaBgradineref07
import Derived.Test.YtldcgclbgbhffaaFgradinelaw08right
import Derived.Test.YtldcgclbgbhffaaBpower
import Derived.Test.YtldcgclbgbhffaaFgradinelaw08same
import Derived.Test.YtldcgclbgbhffaaBgradineref08
namespace Go.Proofs.Ytldcgclbgbhffaa.P
open Go.RowKit Go.Proofs.YtldcgclbgbhffaaW.PrintWords Go.Proofs.YtldcgclbgbhffaaW.PrintLast Go.Proofs.YtldcgclbgbhffaaW.PrintMore
attribute [local go_sem] max2_int min2_int max_two min_two max_three min_three max_four min_four   -- for this text's walks alone
set_option linter.unusedVariables false
set_option linter.unusedSimpArgs false

def gradinelaw08_PowerTells.j0 (k : Nat) (x40 : Bool) (x1942000 : Bool) (x1942001 : List Int) (x1942002 : List Int) : Option (Bool) := if x40 = true then (some false) else ((power_Abs.f k x1942000 x1942001 x1942002).bind fun bt1965 => ((gradineref08_Abs.f k x1942000 x1942001 x1942002).bind fun bt1972 => ((gradineref07_Same.f k bt1965.1 bt1965.2.1 bt1965.2.2 bt1972.1 bt1972.2.1 bt1972.2.2).bind fun t1979 => (if t1979 = true then ((power_Floor.f k x1942000 x1942001 x1942002).bind fun bt1980 => ((gradineref08_Floor.f k x1942000 x1942001 x1942002).bind fun bt1987 => ((gradineref07_Same.f k bt1980.1 bt1980.2.1 bt1980.2.2 bt1987.1 bt1987.2.1 bt1987.2.2).bind fun t1994 => (if t1994 = true then ((gradinelaw08_same.f k).bind fun t1995 => (some t1995)) else (some false))))) else (some false)))))
def gradinelaw08_PowerTells.f (k : Nat) (a0_0 : Bool) (l0_1 : List Int) (l0_2 : List Int) (a1 : Int) : Option (Bool) := (gradinelaw08_right.f k a0_0 l0_1 l0_2 3).bind fun t1942 => (if t1942 = true then ((power_Pow.f k a0_0 l0_1 l0_2 a1).bind fun bt1944 => ((gradineref08_Pow.f k a0_0 l0_1 l0_2 a1).bind fun bt1953 => (if bt1944.2.2.2 = bt1953.2.2.2 then ((gradineref07_Same.f k bt1944.1 bt1944.2.1 bt1944.2.2.1 bt1953.1 bt1953.2.1 bt1953.2.2.1).bind fun t1962 => (if t1962 = true then ((power_Bits.f k a0_0 l0_1 l0_2).bind fun t1963 => ((gradineref08_Bits.f k a0_0 l0_1 l0_2).bind fun t1964 => (gradinelaw08_PowerTells.j0 k (t1963 != t1964) a0_0 l0_1 l0_2))) else (gradinelaw08_PowerTells.j0 k true a0_0 l0_1 l0_2))) else (gradinelaw08_PowerTells.j0 k true a0_0 l0_1 l0_2)))) else ((gradinelaw08_same.f k).bind fun t1943 => (some t1943)))
end Go.Proofs.Ytldcgclbgbhffaa.P
