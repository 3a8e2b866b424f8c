/- Functions of the seat as Lean functions, and walks: written by a program for this claim. -/
import Derived.Test.YtldcgclbgbhffaaFbase
import Derived.Test.YtldcgclbgbhffaaBgradineref07
import Derived.Test.YtldcgclbgbhffaaFgradinelaw08right
import Derived.Test.YtldcgclbgbhffaaBpower
import Derived.Test.YtldcgclbgbhffaaFgradinelaw08same
import Derived.Test.YtldcgclbgbhffaaBgradineref08
namespace Go.Proofs.Ytldcgclbgbhffaa.P
open Go.RowKit Go.Proofs.YtldcgclbgbhffaaW.PrintWords Go.Proofs.YtldcgclbgbhffaaW.PrintLast Go.Proofs.YtldcgclbgbhffaaW.PrintMore
attribute [local go_sem] max2_int min2_int max_two min_two max_three min_three max_four min_four   -- for this text's walks alone
set_option linter.unusedVariables false
set_option linter.unusedSimpArgs false

def gradinelaw08_PowerTexts.j0 (k : Nat) (x1 : ByteArray) (x16 : Bool) (x1766000 : Bool) (x1766001 : List Int) (x1766002 : List Int) : Option (Bool) := if x16 = true then ((gradinelaw08_same.f k).bind fun t1767 => (some t1767)) else ((power_Read.f k x1).bind fun bt1768 => ((gradineref08_Read.f k x1).bind fun bt1777 => ((power_Show.f k x1766000 x1766001 x1766002).bind fun t1786 => ((gradineref08_Show.f k x1766000 x1766001 x1766002).bind fun t1787 => (if t1786.toList = t1787.toList then (if bt1768.2.2.2 = bt1777.2.2.2 then ((gradineref07_Same.f k bt1768.1 bt1768.2.1 bt1768.2.2.1 bt1777.1 bt1777.2.1 bt1777.2.2.1).bind fun t1788 => (if t1788 = true then ((gradinelaw08_same.f k).bind fun t1789 => (some t1789)) else (some false))) else (some false)) else (some false))))))
def gradinelaw08_PowerTexts.f (k : Nat) (a0_0 : Bool) (l0_1 : List Int) (l0_2 : List Int) (a1 : ByteArray) : Option (Bool) := (gradinelaw08_right.f k a0_0 l0_1 l0_2 8).bind fun t1766 => (if t1766 = true then (gradinelaw08_PowerTexts.j0 k a1 (decide ((a1.size : Int) > 1000)) a0_0 l0_1 l0_2) else (gradinelaw08_PowerTexts.j0 k a1 true a0_0 l0_1 l0_2))
end Go.Proofs.Ytldcgclbgbhffaa.P
