/- Functions of one package as Lean functions, and walks: written by a program for this claim. -/
import Derived.Test.YtjocbnjpjihpnaaFbase
import Derived.Test.YtjocbnjpjihpnaaBgradineref02
import Derived.Test.YtjocbnjpjihpnaaBgradineref07
import Derived.Test.YtjocbnjpjihpnaaBgradineref09
namespace Go.Proofs.Ytjocbnjpjihpnaa.P
open Go.RowKit Go.Proofs.YtjocbnjpjihpnaaW.PrintWords Go.Proofs.YtjocbnjpjihpnaaW.PrintLast Go.Proofs.YtjocbnjpjihpnaaW.PrintMore
attribute [local go_sem] max2_int min2_int max_two min_two max_three min_three max_four min_four   -- for this text's walks alone
set_option linter.unusedVariables false
set_option linter.unusedSimpArgs false

def gradineref10_ToRat.f (k : Nat) (a0 : Int) : Option (Bool × List Int × List Int) := (gradineref09_Parts.f a0).bind fun bt676 => ((gradineref09_Neg.f a0).bind fun t678 => ((gradineref02_Shl.f k (([bt676.1] : List Int)) bt676.2).bind fun t682 => ((gradineref02_Shl.f k (([1] : List Int)) (wrap64 (-bt676.2))).bind fun t688 => ((gradineref07_Make.f k t678 t682 t688).bind fun bt691 => (some (bt691.1, bt691.2.1, bt691.2.2))))))

end Go.Proofs.Ytjocbnjpjihpnaa.P
