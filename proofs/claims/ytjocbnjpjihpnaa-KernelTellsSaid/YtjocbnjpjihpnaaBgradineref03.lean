/- Functions of one package as Lean functions, and walks: written by a program for this claim. -/
import Derived.Test.YtjocbnjpjihpnaaFbase
import Derived.Test.YtjocbnjpjihpnaaBgradineref02
namespace Go.Proofs.Ytjocbnjpjihpnaa.P
open Go.RowKit Go.Proofs.YtjocbnjpjihpnaaW.PrintWords Go.Proofs.YtjocbnjpjihpnaaW.PrintLast Go.Proofs.YtjocbnjpjihpnaaW.PrintMore
attribute [local go_sem] max2_int min2_int max_two min_two max_three min_three max_four min_four   -- for this text's walks alone
set_option linter.unusedVariables false
set_option linter.unusedSimpArgs false

mutual
def gradineref03_Mul.l0 : Nat → List Int → List Int → List Int → Int → Int → Option (List Int)
 | 0, _, _, _, _, _ => none
 | k + 1, x5, x6, x7, x23, x24 => if x24 < x23 then (gradineref03_Mul.l1 k x5 x6 x7 x24 0 x23 x24 (x6.length : Int) 0) else ((gradineref02_Whole.f k x7).bind fun t583 => (some t583))
def gradineref03_Mul.l1 : Nat → List Int → List Int → List Int → Int → Int → Int → Int → Int → Int → Option (List Int)
 | 0, _, _, _, _, _, _, _, _, _ => none
 | k + 1, x5, x6, x7, x8, x9, x23, x24, x28, x29 => if x29 < x28 then (if 0 ≤ x8 then (if x8 < (x5.length : Int) then (if 0 ≤ x29 then (if x29 < (x6.length : Int) then (if 0 ≤ (wrap64 (x8 + x29)) then (if (wrap64 (x8 + x29)) < (x7.length : Int) then (gradineref03_Mul.l1 k x5 x6 (x7.set ((wrap64 (x8 + x29)) : Int).toNat (Go.bits .and .u64 (IntKind.u64.wrap ((IntKind.u64.wrap (x9 + (IntKind.u64.wrap ((rd x5 x8) * (rd x6 x29))))) + (rd x7 (wrap64 (x8 + x29))))) 4294967295)) x8 ((IntKind.u64.wrap ((IntKind.u64.wrap (x9 + (IntKind.u64.wrap ((rd x5 x8) * (rd x6 x29))))) + (rd x7 (wrap64 (x8 + x29))))) / 4294967296) x23 x24 x28 (wrap64 (x29 + 1))) else (none)) else (none)) else (none)) else (none)) else (none)) else (none)) else (if 0 ≤ (wrap64 (x8 + (x6.length : Int))) then (if (wrap64 (x8 + (x6.length : Int))) < (x7.length : Int) then (gradineref03_Mul.l0 k x5 x6 (x7.set ((wrap64 (x8 + (x6.length : Int))) : Int).toNat x9) x23 (wrap64 (x24 + 1))) else (none)) else (none))
end
def gradineref03_Mul.f (k : Nat) (l0 : List Int) (l1 : List Int) : Option (List Int) := (gradineref02_Halves.f k l0).bind fun t574 => ((gradineref02_Halves.f k l1).bind fun t577 => (if 0 ≤ (wrap64 ((wrap64 ((t574.length : Int) + (t577.length : Int))) + 1)) then (if (wrap64 ((wrap64 ((t574.length : Int) + (t577.length : Int))) + 1) : Int).toNat ≤ 35184372088832 then (gradineref03_Mul.l0 k t574 t577 (List.replicate (wrap64 ((wrap64 ((t574.length : Int) + (t577.length : Int))) + 1) : Int).toNat 0) (t574.length : Int) 0) else (none)) else (none)))

end Go.Proofs.Ytjocbnjpjihpnaa.P
