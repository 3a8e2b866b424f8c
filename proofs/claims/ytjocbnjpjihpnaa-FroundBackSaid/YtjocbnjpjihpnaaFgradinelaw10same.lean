/- Functions of the seat as Lean functions, and walks: written by a program for this claim. -/
import Derived.Test.YtjocbnjpjihpnaaFbase
import Derived.Test.YtjocbnjpjihpnaaBfround
namespace Go.Proofs.Ytjocbnjpjihpnaa.P
open Go.RowKit Go.Proofs.YtjocbnjpjihpnaaW.PrintWords Go.Proofs.YtjocbnjpjihpnaaW.PrintLast Go.Proofs.YtjocbnjpjihpnaaW.PrintMore
attribute [local go_sem] max2_int min2_int max_two min_two max_three min_three max_four min_four   -- for this text's walks alone
set_option linter.unusedVariables false
set_option linter.unusedSimpArgs false

def gradinelaw10_same.f (k : Nat)  : Option (Bool) := (fround_Word.f k false 9007199254740993 0).bind fun t282 => (if t282 = 4845873199050653696 then ((fround_Word.f k false 9007199254740995 0).bind fun t283 => (if t283 = 4845873199050653698 then ((fround_FromInt.f k (-1)).bind fun t284 => (some (t284 == 13830554455654793216))) else (some false))) else (some false))
end Go.Proofs.Ytjocbnjpjihpnaa.P
