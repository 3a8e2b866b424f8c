/- Functions of one package as Lean functions, and walks: written by a program for this claim. -/
import Derived.Test.YtldcgclbgbhffaaFbase
import Derived.Test.YtldcgclbgbhffaaBgradineref07
import Derived.Test.YtldcgclbgbhffaaBgradineref06
import Derived.Test.YtldcgclbgbhffaaBgradineref02
namespace Go.Proofs.Ytldcgclbgbhffaa.P
open Go.RowKit Go.Proofs.YtldcgclbgbhffaaW.PrintWords Go.Proofs.YtldcgclbgbhffaaW.PrintLast Go.Proofs.YtldcgclbgbhffaaW.PrintMore
attribute [local go_sem] max2_int min2_int max_two min_two max_three min_three max_four min_four   -- for this text's walks alone
set_option linter.unusedVariables false
set_option linter.unusedSimpArgs false

mutual
def gradineref08_Read.j0 (k : Nat) (x0 : ByteArray) (x4 : Bool) : Option (Bool × List Int × List Int × Int) := if x4 = true then (if 1 ≤ (x0.size : Int) then (gradineref08_Read.j1 k (x0.extract 1 x0.size) x4) else (none)) else (gradineref08_Read.j1 k x0 x4)
def gradineref08_Read.j1 (k : Nat) (x0 : ByteArray) (x4 : Bool) : Option (Bool × List Int × List Int × Int) := gradineref08_Read.l0 k x0 x4 (x0.size : Int) (wrap64 ((x0.size : Int) - 1))
def gradineref08_Read.l0 : Nat → ByteArray → Bool → Int → Int → Option (Bool × List Int × List Int × Int)
 | 0, _, _, _, _ => none
 | k + 1, x0, x4, x5, x6 => if x6 ≥ 0 then (if 0 ≤ x6 then (if x6 < (x0.size : Int) then (if (bt x0 x6) = 47 then (gradineref08_Read.l0 k x0 x4 x6 (wrap64 (x6 - 1))) else (gradineref08_Read.l0 k x0 x4 x5 (wrap64 (x6 - 1)))) else (none)) else (none)) else (if 0 ≤ x5 then (if x5 ≤ (x0.size : Int) then ((gradineref06_Read.f k (x0.extract 0 (x5 : Int).toNat)).bind fun bt1718 => (if bt1718.2 = 0 then ((some (([1] : List Int) : List Int)).bind fun y1722 => (if x5 < (x0.size : Int) then (if 0 ≤ (wrap64 (x5 + 1)) then (if (wrap64 (x5 + 1)) ≤ (x0.size : Int) then ((gradineref06_Read.f k (x0.extract ((wrap64 (x5 + 1)) : Int).toNat x0.size)).bind fun bt1725 => (if bt1725.2 = 0 then (if (bt1725.1.length : Int) = 0 then (some (false, ([] : List Int), ([] : List Int), 4)) else ((gradineref07_Make.f k x4 bt1718.1 bt1725.1).bind fun bt1729 => (some (bt1729.1, bt1729.2.1, bt1729.2.2, 0)))) else (some (false, ([] : List Int), ([] : List Int), bt1725.2)))) else (none)) else (none)) else (if (y1722.length : Int) = 0 then (some (false, ([] : List Int), ([] : List Int), 4)) else ((gradineref07_Make.f k x4 bt1718.1 y1722).bind fun bt1736 => (some (bt1736.1, bt1736.2.1, bt1736.2.2, 0)))))) else (some (false, ([] : List Int), ([] : List Int), bt1718.2)))) else (none)) else (none))
end
def gradineref08_Read.f (k : Nat) (a0 : ByteArray) : Option (Bool × List Int × List Int × Int) := if (a0.size : Int) > 0 then (if 0 < (a0.size : Int) then (gradineref08_Read.j0 k a0 ((bt a0 0) == 45)) else (none)) else (gradineref08_Read.j0 k a0 false)

def gradineref08_Show.j0 (k : Nat) (x3 : ByteArray) (x1759000 : Bool) (x1759001 : List Int) (x1759002 : List Int) : Option (ByteArray) := (gradineref02_Cmp.f k x1759002 (([1] : List Int))).bind fun t1763 => (if t1763 = 0 then (some x3) else (if x3.size + 1 ≤ 9223372036854775807 then ((gradineref06_Show.f k x1759002).bind fun t1764 => (if (x3 ++ (⟨#[47]⟩ : ByteArray)).size + t1764.size ≤ 9223372036854775807 then (some ((x3 ++ (⟨#[47]⟩ : ByteArray)) ++ t1764)) else (none))) else (none)))
def gradineref08_Show.f (k : Nat) (a0_0 : Bool) (l0_1 : List Int) (l0_2 : List Int) : Option (ByteArray) := (gradineref06_Show.f k l0_1).bind fun t1759 => (if a0_0 = true then (if 1 + t1759.size ≤ 9223372036854775807 then (gradineref08_Show.j0 k ((⟨#[45]⟩ : ByteArray) ++ t1759) a0_0 l0_1 l0_2) else (none)) else (gradineref08_Show.j0 k t1759 a0_0 l0_1 l0_2))

end Go.Proofs.Ytldcgclbgbhffaa.P
