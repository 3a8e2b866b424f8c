/- Functions of one package as Lean functions, and walks: written by a program for this claim. -/
import Derived.Test.YtjocbnjpjihpnaaFbase
import Derived.Test.YtjocbnjpjihpnaaBgradineref02
namespace Go.Proofs.Ytjocbnjpjihpnaa.P
open Go.RowKit Go.Proofs.YtjocbnjpjihpnaaW.PrintWords Go.Proofs.YtjocbnjpjihpnaaW.PrintLast Go.Proofs.YtjocbnjpjihpnaaW.PrintMore
attribute [local go_sem] max2_int min2_int max_two min_two max_three min_three max_four min_four   -- for this text's walks alone
set_option linter.unusedVariables false
set_option linter.unusedSimpArgs false

def gradineref04_set.l0 : Nat → List Int → Int → List Int → Int → Int → Option (List Int)
 | 0, _, _, _, _, _ => none
 | k + 1, x0, x1, x5, x13, x14 => if x14 < x13 then (if x14 < (x0.length : Int) then (if 0 ≤ x14 then (if x14 = (wrap64 (Int.tdiv x1 64)) then (if 0 ≤ (IntKind.u64.wrap (Int.tmod x1 64)) then (if x5.length < 17592186044416 then (gradineref04_set.l0 k x0 x1 (x5 ++ [Go.bits .or .u64 (rd x0 x14) (shl .u64 1 (IntKind.u64.wrap (Int.tmod x1 64)))]) x13 (wrap64 (x14 + 1))) else (none)) else (none)) else (if x5.length < 17592186044416 then (gradineref04_set.l0 k x0 x1 (x5 ++ [rd x0 x14]) x13 (wrap64 (x14 + 1))) else (none))) else (none)) else (if x14 = (wrap64 (Int.tdiv x1 64)) then (if 0 ≤ (IntKind.u64.wrap (Int.tmod x1 64)) then (if x5.length < 17592186044416 then (gradineref04_set.l0 k x0 x1 (x5 ++ [Go.bits .or .u64 0 (shl .u64 1 (IntKind.u64.wrap (Int.tmod x1 64)))]) x13 (wrap64 (x14 + 1))) else (none)) else (none)) else (if x5.length < 17592186044416 then (gradineref04_set.l0 k x0 x1 (x5 ++ [0]) x13 (wrap64 (x14 + 1))) else (none)))) else (some x5)
def gradineref04_set.f (k : Nat) (l0 : List Int) (a1 : Int) : Option (List Int) := gradineref04_set.l0 k l0 a1 ([] : List Int) (mx (l0.length : Int) (wrap64 ((wrap64 (Int.tdiv a1 64)) + 1))) 0

mutual
def gradineref04_Div.j0 : Nat → List Int → List Int → List Int → Bool → Option (List Int × List Int)
 | 0, _, _, _, _ => none
 | k + 1, x0, x1, x6, x18 => if x18 = true then (if 0 < (x0.length : Int) then (if 0 < (x1.length : Int) then (if (rd x1 0) = 0 then (none) else ((gradineref02_Trim.f k (([IntKind.u64.wrap (Int.tdiv (rd x0 0) (rd x1 0))] : List Int))).bind fun t466 => ((gradineref02_Trim.f k (([Int.tmod (rd x0 0) (rd x1 0)] : List Int))).bind fun t474 => (some (t466, t474))))) else (none)) else (none)) else ((gradineref02_Bits.f k x0).bind fun t477 => ((gradineref02_Bits.f k x1).bind fun t478 => ((gradineref02_Shr.f k x0 (mx 0 (wrap64 ((wrap64 (t477 - t478)) + 1)))).bind fun t479 => (gradineref04_Div.l0 k x0 x1 x6 t479 (wrap64 ((mx 0 (wrap64 ((wrap64 (t477 - t478)) + 1))) - 1))))))
def gradineref04_Div.l0 : Nat → List Int → List Int → List Int → List Int → Int → Option (List Int × List Int)
 | 0, _, _, _, _, _ => none
 | k + 1, x0, x1, x6, x7, x10 => if x10 ≥ 0 then ((gradineref02_Shl.f k x7 1).bind fun t488 => ((gradineref02_Bit.f x0 x10).bind fun t491 => (if t491 = true then ((gradineref04_set.f k t488 0).bind fun t492 => (gradineref04_Div.j2 k x0 x1 x6 t492 x10)) else (gradineref04_Div.j2 k x0 x1 x6 t488 x10)))) else ((gradineref02_Trim.f k x6).bind fun t482 => ((gradineref02_Trim.f k x7).bind fun t485 => (some (t482, t485))))
def gradineref04_Div.j2 : Nat → List Int → List Int → List Int → List Int → Int → Option (List Int × List Int)
 | 0, _, _, _, _, _ => none
 | k + 1, x0, x1, x6, x7, x10 => (gradineref02_Cmp.f k x7 x1).bind fun t495 => (if t495 ≥ 0 then ((gradineref02_Sub.f k x7 x1).bind fun t496 => ((gradineref04_set.f k x6 x10).bind fun t499 => (gradineref04_Div.l0 k x0 x1 t499 t496 (wrap64 (x10 - 1))))) else (gradineref04_Div.l0 k x0 x1 x6 x7 (wrap64 (x10 - 1))))
end
def gradineref04_Div.f (k : Nat) (l0 : List Int) (l1 : List Int) : Option (List Int × List Int) := (gradineref02_Size.f k l0).bind fun t459 => (if t459 = 1 then ((gradineref02_Size.f k l1).bind fun t460 => (gradineref04_Div.j0 k l0 l1 ([] : List Int) (t460 == 1))) else (gradineref04_Div.j0 k l0 l1 ([] : List Int) false))

end Go.Proofs.Ytjocbnjpjihpnaa.P
