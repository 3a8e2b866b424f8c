/- Functions of one package as Lean functions, and walks: written by a program for this claim. -/
import Derived.Test.YtjocbnjpjihpnaaFbase
namespace Go.Proofs.Ytjocbnjpjihpnaa.P
open Go.RowKit Go.Proofs.YtjocbnjpjihpnaaW.PrintWords Go.Proofs.YtjocbnjpjihpnaaW.PrintLast Go.Proofs.YtjocbnjpjihpnaaW.PrintMore
attribute [local go_sem] max2_int min2_int max_two min_two max_three min_three max_four min_four   -- for this text's walks alone
set_option linter.unusedVariables false
set_option linter.unusedSimpArgs false

def gradineref01_Len.l0 : Nat → Int → Int → Option (Int)
 | 0, _, _ => none
 | k + 1, x0, x3 => if x0 > 0 then (gradineref01_Len.l0 k (x0 / 2) (wrap64 (x3 + 1))) else (some x3)
def gradineref01_Len.f (k : Nat) (a0 : Int) : Option (Int) := gradineref01_Len.l0 k a0 0

def gradineref01_Div.l0 : Nat → Int → Int → Int → Int → Int → Option (Int × Int × Bool)
 | 0, _, _, _, _, _ => none
 | k + 1, x1, x2, x9, x10, x11 => if x11 ≥ 0 then (if 0 ≤ (IntKind.u64.wrap (x11)) then (if (x10 / 9223372036854775808) = 1 then (gradineref01_Div.l0 k x1 x2 (Go.bits .or .u64 (IntKind.u64.wrap (x9 * 2)) 1) (IntKind.u64.wrap ((Go.bits .or .u64 (IntKind.u64.wrap (x10 * 2)) (Go.bits .and .u64 (shr .u64 x1 (IntKind.u64.wrap (x11))) 1)) - x2)) (wrap64 (x11 - 1))) else (if (Go.bits .or .u64 (IntKind.u64.wrap (x10 * 2)) (Go.bits .and .u64 (shr .u64 x1 (IntKind.u64.wrap (x11))) 1)) ≥ x2 then (gradineref01_Div.l0 k x1 x2 (Go.bits .or .u64 (IntKind.u64.wrap (x9 * 2)) 1) (IntKind.u64.wrap ((Go.bits .or .u64 (IntKind.u64.wrap (x10 * 2)) (Go.bits .and .u64 (shr .u64 x1 (IntKind.u64.wrap (x11))) 1)) - x2)) (wrap64 (x11 - 1))) else (gradineref01_Div.l0 k x1 x2 (IntKind.u64.wrap (x9 * 2)) (Go.bits .or .u64 (IntKind.u64.wrap (x10 * 2)) (Go.bits .and .u64 (shr .u64 x1 (IntKind.u64.wrap (x11))) 1)) (wrap64 (x11 - 1))))) else (none)) else (some (x9, x10, true))
def gradineref01_Div.f (k : Nat) (a0 : Int) (a1 : Int) (a2 : Int) : Option (Int × Int × Bool) := if a0 ≥ a2 then (some (0, 0, false)) else (gradineref01_Div.l0 k a1 a2 0 a0 63)

end Go.Proofs.Ytjocbnjpjihpnaa.P
