/- Functions of one package as Lean functions, and walks: written by a program for this claim. -/
import Derived.Test.YtldcgclbgbhffaaFbase
import Derived.Test.YtldcgclbgbhffaaBgradineref02
namespace Go.Proofs.Ytldcgclbgbhffaa.P
open Go.RowKit Go.Proofs.YtldcgclbgbhffaaW.PrintWords Go.Proofs.YtldcgclbgbhffaaW.PrintLast Go.Proofs.YtldcgclbgbhffaaW.PrintMore
attribute [local go_sem] max2_int min2_int max_two min_two max_three min_three max_four min_four   -- for this text's walks alone
set_option linter.unusedVariables false
set_option linter.unusedSimpArgs false

def gradineref04_set.l0 : Nat → List Int → Int → List Int → Int → Int → Option (List Int)
 | 0, _, _, _, _, _ => none
 | k + 1, x0, x1, x5, x13, x14 => if x14 < x13 then (if x14 < (x0.length : Int) then (if 0 ≤ x14 then (if x14 = (wrap64 (Int.tdiv x1 64)) then (if 0 ≤ (IntKind.u64.wrap (Int.tmod x1 64)) then (if x5.length < 17592186044416 then (gradineref04_set.l0 k x0 x1 (x5 ++ [Go.bits .or .u64 (rd x0 x14) (shl .u64 1 (IntKind.u64.wrap (Int.tmod x1 64)))]) x13 (wrap64 (x14 + 1))) else (none)) else (none)) else (if x5.length < 17592186044416 then (gradineref04_set.l0 k x0 x1 (x5 ++ [rd x0 x14]) x13 (wrap64 (x14 + 1))) else (none))) else (none)) else (if x14 = (wrap64 (Int.tdiv x1 64)) then (if 0 ≤ (IntKind.u64.wrap (Int.tmod x1 64)) then (if x5.length < 17592186044416 then (gradineref04_set.l0 k x0 x1 (x5 ++ [Go.bits .or .u64 0 (shl .u64 1 (IntKind.u64.wrap (Int.tmod x1 64)))]) x13 (wrap64 (x14 + 1))) else (none)) else (none)) else (if x5.length < 17592186044416 then (gradineref04_set.l0 k x0 x1 (x5 ++ [0]) x13 (wrap64 (x14 + 1))) else (none)))) else (some x5)
def gradineref04_set.f (k : Nat) (l0 : List Int) (a1 : Int) : Option (List Int) := gradineref04_set.l0 k l0 a1 ([] : List Int) (mx (l0.length : Int) (wrap64 ((wrap64 (Int.tdiv a1 64)) + 1))) 0

mutual
def gradineref04_Div.j0 : Nat → List Int → List Int → List Int → Bool → Option (List Int × List Int)
 | 0, _, _, _, _ => none
 | k + 1, x0, x1, x6, x18 => if x18 = true then (if 0 < (x0.length : Int) then (if 0 < (x1.length : Int) then (if (rd x1 0) = 0 then (none) else ((gradineref02_Trim.f k (([IntKind.u64.wrap (Int.tdiv (rd x0 0) (rd x1 0))] : List Int))).bind fun t751 => ((gradineref02_Trim.f k (([Int.tmod (rd x0 0) (rd x1 0)] : List Int))).bind fun t759 => (some (t751, t759))))) else (none)) else (none)) else ((gradineref02_Bits.f k x0).bind fun t762 => ((gradineref02_Bits.f k x1).bind fun t763 => ((gradineref02_Shr.f k x0 (mx 0 (wrap64 ((wrap64 (t762 - t763)) + 1)))).bind fun t764 => (gradineref04_Div.l0 k x0 x1 x6 t764 (wrap64 ((mx 0 (wrap64 ((wrap64 (t762 - t763)) + 1))) - 1))))))
def gradineref04_Div.l0 : Nat → List Int → List Int → List Int → List Int → Int → Option (List Int × List Int)
 | 0, _, _, _, _, _ => none
 | k + 1, x0, x1, x6, x7, x10 => if x10 ≥ 0 then ((gradineref02_Shl.f k x7 1).bind fun t773 => ((gradineref02_Bit.f x0 x10).bind fun t776 => (if t776 = true then ((gradineref04_set.f k t773 0).bind fun t777 => (gradineref04_Div.j2 k x0 x1 x6 t777 x10)) else (gradineref04_Div.j2 k x0 x1 x6 t773 x10)))) else ((gradineref02_Trim.f k x6).bind fun t767 => ((gradineref02_Trim.f k x7).bind fun t770 => (some (t767, t770))))
def gradineref04_Div.j2 : Nat → List Int → List Int → List Int → List Int → Int → Option (List Int × List Int)
 | 0, _, _, _, _, _ => none
 | k + 1, x0, x1, x6, x7, x10 => (gradineref02_Cmp.f k x7 x1).bind fun t780 => (if t780 ≥ 0 then ((gradineref02_Sub.f k x7 x1).bind fun t781 => ((gradineref04_set.f k x6 x10).bind fun t784 => (gradineref04_Div.l0 k x0 x1 t784 t781 (wrap64 (x10 - 1))))) else (gradineref04_Div.l0 k x0 x1 x6 x7 (wrap64 (x10 - 1))))
end
def gradineref04_Div.f (k : Nat) (l0 : List Int) (l1 : List Int) : Option (List Int × List Int) := (gradineref02_Size.f k l0).bind fun t744 => (if t744 = 1 then ((gradineref02_Size.f k l1).bind fun t745 => (gradineref04_Div.j0 k l0 l1 ([] : List Int) (t745 == 1))) else (gradineref04_Div.j0 k l0 l1 ([] : List Int) false))

end Go.Proofs.Ytldcgclbgbhffaa.P
