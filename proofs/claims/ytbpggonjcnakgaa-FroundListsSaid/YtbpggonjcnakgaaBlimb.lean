/- Functions of one package as Lean functions, and walks: written by a program for this claim. -/
import Derived.Test.YtbpggonjcnakgaaFbase
namespace Go.Proofs.Ytbpggonjcnakgaa.P
open Go.RowKit Go.Proofs.YtbpggonjcnakgaaW.PrintWords Go.Proofs.YtbpggonjcnakgaaW.PrintLast Go.Proofs.YtbpggonjcnakgaaW.PrintMore
attribute [local go_sem] max2_int min2_int max_two min_two max_three min_three max_four min_four   -- for this text's walks alone
set_option linter.unusedVariables false
set_option linter.unusedSimpArgs false

def limb_Len.l0 : Nat → Int → Int → Int → Option (Int)
 | 0, _, _, _ => none
 | k + 1, x0, x3, x4 => if x4 > 0 then (if 0 ≤ x4 then (if (shr .u64 x0 x4) > 0 then (limb_Len.l0 k (shr .u64 x0 x4) (wrap64 (x3 + x4)) (x4 / 2)) else (limb_Len.l0 k x0 x3 (x4 / 2))) else (none)) else (some (wrap64 (x3 + (wrap64 (x0)))))
def limb_Len.f (k : Nat) (a0 : Int) : Option (Int) := limb_Len.l0 k a0 0 32

def limb_Add.f (a0 : Int) (a1 : Int) (a2 : Int) : Option (Int × Int) := if (IntKind.u64.wrap (a0 + a1)) < a0 then (if (IntKind.u64.wrap ((IntKind.u64.wrap (a0 + a1)) + a2)) < (IntKind.u64.wrap (a0 + a1)) then (some (IntKind.u64.wrap ((IntKind.u64.wrap (a0 + a1)) + a2), (0 + 1) + 1)) else (some (IntKind.u64.wrap ((IntKind.u64.wrap (a0 + a1)) + a2), 0 + 1))) else (if (IntKind.u64.wrap ((IntKind.u64.wrap (a0 + a1)) + a2)) < (IntKind.u64.wrap (a0 + a1)) then (some (IntKind.u64.wrap ((IntKind.u64.wrap (a0 + a1)) + a2), 0 + 1)) else (some (IntKind.u64.wrap ((IntKind.u64.wrap (a0 + a1)) + a2), 0)))

end Go.Proofs.Ytbpggonjcnakgaa.P
