/- Functions of one package as Lean functions, and walks: written by a program for this claim. -/
import Derived.Test.YtldcgclbgbhffaaFbase
import Derived.Test.YtldcgclbgbhffaaBrat
import Derived.Test.YtldcgclbgbhffaaBdigit
import Derived.Test.YtldcgclbgbhffaaBnat
import Derived.Test.YtldcgclbgbhffaaBprod
import Derived.Test.YtldcgclbgbhffaaBquot
namespace Go.Proofs.Ytldcgclbgbhffaa.P
open Go.RowKit Go.Proofs.YtldcgclbgbhffaaW.PrintWords Go.Proofs.YtldcgclbgbhffaaW.PrintLast Go.Proofs.YtldcgclbgbhffaaW.PrintMore
attribute [local go_sem] max2_int min2_int max_two min_two max_three min_three max_four min_four   -- for this text's walks alone
set_option linter.unusedVariables false
set_option linter.unusedSimpArgs false

def power_cut.l0 : Nat → ByteArray → Int → Int → Option (ByteArray × ByteArray)
 | 0, _, _, _ => none
 | k + 1, x0, x6, x7 => if x7 < x6 then (if 0 ≤ x7 then (if x7 < (x0.size : Int) then (if (bt x0 x7) = 47 then (if x7 ≤ (x0.size : Int) then (if 0 ≤ (wrap64 (x7 + 1)) then (if (wrap64 (x7 + 1)) ≤ (x0.size : Int) then (some (x0.extract 0 (x7 : Int).toNat, x0.extract ((wrap64 (x7 + 1)) : Int).toNat x0.size)) else (none)) else (none)) else (none)) else (power_cut.l0 k x0 x6 (wrap64 (x7 + 1)))) else (none)) else (none)) else (some (x0, (⟨#[49]⟩ : ByteArray)))
def power_cut.f (k : Nat) (a0 : ByteArray) : Option (ByteArray × ByteArray) := power_cut.l0 k a0 (a0.size : Int) 0

mutual
def power_Read.j0 (k : Nat) (x0 : ByteArray) (x4 : Bool) : Option (Bool × List Int × List Int × Int) := if x4 = true then (if 1 ≤ (x0.size : Int) then (power_Read.j1 k (x0.extract 1 x0.size) x4) else (none)) else (power_Read.j1 k x0 x4)
def power_Read.j1 (k : Nat) (x0 : ByteArray) (x4 : Bool) : Option (Bool × List Int × List Int × Int) := (power_cut.f k x0).bind fun bt1588 => ((digit_Read.f k bt1588.1).bind fun bt1590 => (if bt1590.2 = 0 then ((digit_Read.f k bt1588.2).bind fun bt1594 => (if bt1594.2 = 0 then ((rat_Make.f k x4 bt1590.1 bt1594.1).bind fun bt1598 => (some (bt1598.1, bt1598.2.1, bt1598.2.2.1, bt1598.2.2.2))) else (some (false, ([] : List Int), ([] : List Int), bt1594.2)))) else (some (false, ([] : List Int), ([] : List Int), bt1590.2))))
end
def power_Read.f (k : Nat) (a0 : ByteArray) : Option (Bool × List Int × List Int × Int) := if (a0.size : Int) > 0 then (if 0 < (a0.size : Int) then (power_Read.j0 k a0 ((bt a0 0) == 45)) else (none)) else (power_Read.j0 k a0 false)

def power_Show.j0 (k : Nat) (x3 : ByteArray) (x1631000 : Bool) (x1631001 : List Int) (x1631002 : List Int) : Option (ByteArray) := (nat_Word.f k x1631002).bind fun bt1633 => (if bt1633.2 = true then (if bt1633.1 = 1 then (some x3) else (if x3.size + 1 ≤ 9223372036854775807 then ((digit_Show.f k x1631002).bind fun t1635 => (if (x3 ++ (⟨#[47]⟩ : ByteArray)).size + t1635.size ≤ 9223372036854775807 then (some ((x3 ++ (⟨#[47]⟩ : ByteArray)) ++ t1635)) else (none))) else (none))) else (if x3.size + 1 ≤ 9223372036854775807 then ((digit_Show.f k x1631002).bind fun t1636 => (if (x3 ++ (⟨#[47]⟩ : ByteArray)).size + t1636.size ≤ 9223372036854775807 then (some ((x3 ++ (⟨#[47]⟩ : ByteArray)) ++ t1636)) else (none))) else (none)))
def power_Show.f (k : Nat) (a0_0 : Bool) (l0_1 : List Int) (l0_2 : List Int) : Option (ByteArray) := (digit_Show.f k l0_1).bind fun t1631 => ((rat_Sign.f k a0_0 l0_1 l0_2).bind fun t1632 => (if t1632 < 0 then (if 1 + t1631.size ≤ 9223372036854775807 then (power_Show.j0 k ((⟨#[45]⟩ : ByteArray) ++ t1631) a0_0 l0_1 l0_2) else (none)) else (power_Show.j0 k t1631 a0_0 l0_1 l0_2)))

def power_Pow.j0 (G : Bool → List Int → List Int → Int → Option (Bool × List Int × List Int × Int)) (k : Nat) (x1 : Int) (x14 : Bool) (x1647000 : Bool) (x1647001 : List Int) (x1647002 : List Int) : Option (Bool × List Int × List Int × Int) := if x14 = true then (some (false, ([] : List Int), ([] : List Int), 1)) else (if x1 < 0 then ((rat_Inv.f k x1647000 x1647001 x1647002).bind fun bt1648 => (if bt1648.2.2.2 = 0 then ((G bt1648.1 bt1648.2.1 bt1648.2.2.1 (wrap64 (-x1))).bind fun bt1657 => (some (bt1657.1, bt1657.2.1, bt1657.2.2.1, bt1657.2.2.2))) else (some (false, ([] : List Int), ([] : List Int), bt1648.2.2.2)))) else ((prod_Pow.f k x1647001 x1).bind fun t1665 => (if x1647000 = true then (if (Int.tmod x1 2) = 1 then ((prod_Pow.f k x1647002 x1).bind fun t1668 => (some (decide ((t1665.length : Int) > 0), t1665, t1668, 0))) else ((prod_Pow.f k x1647002 x1).bind fun t1671 => (some (false, t1665, t1671, 0)))) else ((prod_Pow.f k x1647002 x1).bind fun t1674 => (some (false, t1665, t1674, 0))))))
def power_Pow.f : Nat → Bool → List Int → List Int → Int → Option (Bool × List Int × List Int × Int)
 | 0, _, _, _, _ => none
 | k + 1, a0_0, l0_1, l0_2, a1 => if a1 > 64 then (power_Pow.j0 (power_Pow.f k) k a1 true a0_0 l0_1 l0_2) else (power_Pow.j0 (power_Pow.f k) k a1 (decide (a1 < (-64))) a0_0 l0_1 l0_2)

def power_Bits.f (k : Nat) (a0_0 : Bool) (l0_1 : List Int) (l0_2 : List Int) : Option (Int) := (nat_Bits.f k l0_1).bind fun t1678 => ((nat_Bits.f k l0_2).bind fun t1679 => (some (mx t1678 t1679)))

def power_Abs.f (k : Nat) (a0_0 : Bool) (l0_1 : List Int) (l0_2 : List Int) : Option (Bool × List Int × List Int) := (rat_Sign.f k a0_0 l0_1 l0_2).bind fun t1842 => (if t1842 < 0 then ((rat_Neg.f k a0_0 l0_1 l0_2).bind fun bt1843 => (some (bt1843.1, bt1843.2.1, bt1843.2.2))) else ((rat_Neg.f k a0_0 l0_1 l0_2).bind fun bt1850 => ((rat_Neg.f k bt1850.1 bt1850.2.1 bt1850.2.2).bind fun bt1857 => (some (bt1857.1, bt1857.2.1, bt1857.2.2)))))

def power_Floor.j0 (k : Nat) (x3 : List Int) (x24 : Bool) (x1874000 : Bool) (x1874001 : List Int) (x1874002 : List Int) : Option (Bool × List Int × List Int) := if x24 = true then ((nat_Of.f k 1).bind fun t1889 => ((nat_Add.f k x3 t1889).bind fun t1892 => (if x1874000 = true then ((nat_Of.f k 1).bind fun t1895 => (some (decide ((t1892.length : Int) > 0), t1892, t1895))) else ((nat_Of.f k 1).bind fun t1898 => (some (false, t1892, t1898)))))) else (if x1874000 = true then ((nat_Of.f k 1).bind fun t1901 => (some (decide ((x3.length : Int) > 0), x3, t1901))) else ((nat_Of.f k 1).bind fun t1904 => (some (false, x3, t1904))))
def power_Floor.f (k : Nat) (a0_0 : Bool) (l0_1 : List Int) (l0_2 : List Int) : Option (Bool × List Int × List Int) := (quot_Div.f k l0_1 l0_2).bind fun bt1875 => (if bt1875.2.2 = true then (if a0_0 = true then (power_Floor.j0 k bt1875.1 (decide ((bt1875.2.1.length : Int) > 0)) a0_0 l0_1 l0_2) else (power_Floor.j0 k bt1875.1 false a0_0 l0_1 l0_2)) else ((rat_Of.f k 0).bind fun bt1882 => (some (bt1882.1, bt1882.2.1, bt1882.2.2))))

end Go.Proofs.Ytldcgclbgbhffaa.P
