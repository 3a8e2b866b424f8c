/- Functions of one package as Lean functions, and walks: written by a program for this claim. -/
import Derived.Test.YtjocbnjpjihpnaaFbase
import Derived.Test.YtjocbnjpjihpnaaBgradineref02
import Derived.Test.YtjocbnjpjihpnaaBgradineref05
namespace Go.Proofs.Ytjocbnjpjihpnaa.P
open Go.RowKit Go.Proofs.YtjocbnjpjihpnaaW.PrintWords Go.Proofs.YtjocbnjpjihpnaaW.PrintLast Go.Proofs.YtjocbnjpjihpnaaW.PrintMore
attribute [local go_sem] max2_int min2_int max_two min_two max_three min_three max_four min_four   -- for this text's walks alone
set_option linter.unusedVariables false
set_option linter.unusedSimpArgs false

def gradineref07_Make.f (k : Nat) (a0 : Bool) (l1 : List Int) (l2 : List Int) : Option (Bool × List Int × List Int) := (gradineref02_Size.f k l1).bind fun t517 => (if t517 = 0 then (some (false, ([] : List Int), (([1] : List Int)))) else ((gradineref05_Gcd.f k l1 l2).bind fun t521 => ((gradineref05_Part.f k l1 t521).bind fun t524 => ((gradineref05_Part.f k l2 t521).bind fun t527 => (some (a0, t524, t527))))))

def gradineref07_Of.f (k : Nat) (a0 : Int) : Option (Bool × List Int × List Int) := if a0 < 0 then ((gradineref07_Make.f k true (([IntKind.u64.wrap (-(IntKind.u64.wrap (a0)))] : List Int)) (([1] : List Int))).bind fun bt537 => (some (bt537.1, bt537.2.1, bt537.2.2))) else ((gradineref07_Make.f k false (([IntKind.u64.wrap (a0)] : List Int)) (([1] : List Int))).bind fun bt550 => (some (bt550.1, bt550.2.1, bt550.2.2)))

end Go.Proofs.Ytjocbnjpjihpnaa.P
