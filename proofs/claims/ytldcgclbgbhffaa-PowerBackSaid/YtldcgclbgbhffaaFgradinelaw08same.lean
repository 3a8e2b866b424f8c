/- Functions of the seat as Lean functions, and walks: written by a program for this claim. -/
import Derived.Test.YtldcgclbgbhffaaFbase
import Derived.Test.YtldcgclbgbhffaaBpower
namespace Go.Proofs.Ytldcgclbgbhffaa.P
open Go.RowKit Go.Proofs.YtldcgclbgbhffaaW.PrintWords Go.Proofs.YtldcgclbgbhffaaW.PrintLast Go.Proofs.YtldcgclbgbhffaaW.PrintMore
attribute [local go_sem] max2_int min2_int max_two min_two max_three min_three max_four min_four   -- for this text's walks alone
set_option linter.unusedVariables false
set_option linter.unusedSimpArgs false

def gradinelaw08_same.f (k : Nat)  : Option (Bool) := (power_Read.f k (⟨#[45, 50, 47, 51]⟩ : ByteArray)).bind fun bt1680 => ((power_Pow.f k bt1680.1 bt1680.2.1 bt1680.2.2.1 (-3)).bind fun bt1689 => (if bt1680.2.2.2 = 0 then (if bt1689.2.2.2 = 0 then ((power_Show.f k bt1680.1 bt1680.2.1 bt1680.2.2.1).bind fun t1698 => (if t1698.toList = ([45, 50, 47, 51] : List UInt8) then ((power_Show.f k bt1689.1 bt1689.2.1 bt1689.2.2.1).bind fun t1699 => (if t1699.toList = ([45, 50, 55, 47, 56] : List UInt8) then ((power_Bits.f k bt1689.1 bt1689.2.1 bt1689.2.2.1).bind fun t1700 => (some (t1700 == 5))) else (some false))) else (some false))) else (some false)) else (some false)))
end Go.Proofs.Ytldcgclbgbhffaa.P
