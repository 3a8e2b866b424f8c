/- Functions of one package as Lean functions, and walks: written by a program for this claim. -/
import Derived.Test.YtjocbnjpjihpnaaFbase
namespace Go.Proofs.Ytjocbnjpjihpnaa.P
open Go.RowKit Go.Proofs.YtjocbnjpjihpnaaW.PrintWords Go.Proofs.YtjocbnjpjihpnaaW.PrintLast Go.Proofs.YtjocbnjpjihpnaaW.PrintMore
attribute [local go_sem] max2_int min2_int max_two min_two max_three min_three max_four min_four   -- for this text's walks alone
set_option linter.unusedVariables false
set_option linter.unusedSimpArgs false

def gradineref09_Neg.f (a0 : Int) : Option (Bool) := some ((a0 / 9223372036854775808) == 1)

def gradineref09_Field.f (a0 : Int) : Option (Int) := some (wrap64 (Go.bits .and .u64 (a0 / 4503599627370496) 2047))

def gradineref09_Finite.f (a0 : Int) : Option (Bool) := (gradineref09_Field.f a0).bind fun t573 => (some (decide (t573 < 2047)))

def gradineref09_Rest.f (a0 : Int) : Option (Int) := some (Go.bits .and .u64 a0 4503599627370495)

def gradineref09_Parts.f (a0 : Int) : Option (Int × Int) := (gradineref09_Field.f a0).bind fun t671 => (if t671 = 0 then ((gradineref09_Rest.f a0).bind fun t672 => (some (t672, (-1074)))) else ((gradineref09_Rest.f a0).bind fun t673 => ((gradineref09_Field.f a0).bind fun t674 => (some (IntKind.u64.wrap (t673 + 4503599627370496), wrap64 (t674 - 1075))))))

def gradineref09_Kind.f (a0 : Int) : Option (Int) := (gradineref09_Field.f a0).bind fun t698 => (if t698 = 2047 then ((gradineref09_Rest.f a0).bind fun t699 => (if t699 = 0 then (some 3) else (some 4))) else ((gradineref09_Field.f a0).bind fun t700 => (if t700 > 0 then (some 2) else ((gradineref09_Rest.f a0).bind fun t701 => (if t701 > 0 then (some 1) else (some 0))))))

end Go.Proofs.Ytjocbnjpjihpnaa.P
