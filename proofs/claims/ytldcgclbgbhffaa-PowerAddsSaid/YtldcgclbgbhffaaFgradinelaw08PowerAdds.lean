/- Functions of the seat as Lean functions, and walks: written by a program for this claim. -/
import Derived.Test.YtldcgclbgbhffaaFbase
import Derived.Test.YtldcgclbgbhffaaBrat
import Derived.Test.YtldcgclbgbhffaaBgradineref07
import Derived.Test.YtldcgclbgbhffaaFgradinelaw08right
import Derived.Test.YtldcgclbgbhffaaBpower
import Derived.Test.YtldcgclbgbhffaaFgradinelaw08same
namespace Go.Proofs.Ytldcgclbgbhffaa.P
open Go.RowKit Go.Proofs.YtldcgclbgbhffaaW.PrintWords Go.Proofs.YtldcgclbgbhffaaW.PrintLast Go.Proofs.YtldcgclbgbhffaaW.PrintMore
attribute [local go_sem] max2_int min2_int max_two min_two max_three min_three max_four min_four   -- for this text's walks alone
set_option linter.unusedVariables false
set_option linter.unusedSimpArgs false

def gradinelaw08_PowerAdds.j0 (k : Nat) (x1 : Int) (x2 : Int) (x43 : Bool) (x1997000 : Bool) (x1997001 : List Int) (x1997002 : List Int) : Option (Bool) := if x43 = true then ((gradinelaw08_same.f k).bind fun t1999 => (some t1999)) else ((power_Pow.f k x1997000 x1997001 x1997002 x1).bind fun bt2000 => ((power_Pow.f k x1997000 x1997001 x1997002 x2).bind fun bt2009 => ((power_Pow.f k x1997000 x1997001 x1997002 (wrap64 (x1 + x2))).bind fun bt2018 => (if bt2000.2.2.2 = 0 then (if bt2009.2.2.2 = 0 then (if bt2018.2.2.2 = 0 then ((rat_Mul.f k bt2000.1 bt2000.2.1 bt2000.2.2.1 bt2009.1 bt2009.2.1 bt2009.2.2.1).bind fun bt2027 => ((rat_Same.f k bt2027.1 bt2027.2.1 bt2027.2.2 bt2018.1 bt2018.2.1 bt2018.2.2.1).bind fun t2034 => (if t2034 = true then ((gradinelaw08_same.f k).bind fun t2035 => (some t2035)) else (some false)))) else (some false)) else (some false)) else (some false)))))
def gradinelaw08_PowerAdds.f (k : Nat) (a0_0 : Bool) (l0_1 : List Int) (l0_2 : List Int) (a1 : Int) (a2 : Int) : Option (Bool) := (gradinelaw08_right.f k a0_0 l0_1 l0_2 2).bind fun t1997 => (if t1997 = true then (if a1 < (-20) then (gradinelaw08_PowerAdds.j0 k a1 a2 true a0_0 l0_1 l0_2) else (if a1 > 20 then (gradinelaw08_PowerAdds.j0 k a1 a2 true a0_0 l0_1 l0_2) else (if a2 < (-20) then (gradinelaw08_PowerAdds.j0 k a1 a2 true a0_0 l0_1 l0_2) else (if a2 > 20 then (gradinelaw08_PowerAdds.j0 k a1 a2 true a0_0 l0_1 l0_2) else ((gradineref07_Zero.f a0_0 l0_1 l0_2).bind fun t1998 => (if t1998 = true then (if a1 < 0 then (gradinelaw08_PowerAdds.j0 k a1 a2 true a0_0 l0_1 l0_2) else (gradinelaw08_PowerAdds.j0 k a1 a2 (decide (a2 < 0)) a0_0 l0_1 l0_2)) else (gradinelaw08_PowerAdds.j0 k a1 a2 false a0_0 l0_1 l0_2))))))) else (gradinelaw08_PowerAdds.j0 k a1 a2 true a0_0 l0_1 l0_2))
end Go.Proofs.Ytldcgclbgbhffaa.P
