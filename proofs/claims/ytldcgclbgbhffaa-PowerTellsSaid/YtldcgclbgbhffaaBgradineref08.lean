/- Functions of one package as Lean functions, and walks: written by a program for this claim. -/
import Derived.Test.YtldcgclbgbhffaaFbase
import Derived.Test.YtldcgclbgbhffaaBgradineref07
import Derived.Test.YtldcgclbgbhffaaBgradineref03
import Derived.Test.YtldcgclbgbhffaaBgradineref02
import Derived.Test.YtldcgclbgbhffaaBgradineref04
namespace Go.Proofs.Ytldcgclbgbhffaa.P
open Go.RowKit Go.Proofs.YtldcgclbgbhffaaW.PrintWords Go.Proofs.YtldcgclbgbhffaaW.PrintLast Go.Proofs.YtldcgclbgbhffaaW.PrintMore
attribute [local go_sem] max2_int min2_int max_two min_two max_three min_three max_four min_four   -- for this text's walks alone
set_option linter.unusedVariables false
set_option linter.unusedSimpArgs false

mutual
def gradineref08_Pow.j0 (k : Nat) (x1 : Int) (x11 : Bool) (x1797000 : Bool) (x1797001 : List Int) (x1797002 : List Int) : Option (Bool × List Int × List Int × Int) := if x11 = true then (some (false, ([] : List Int), ([] : List Int), 1)) else (if x1 < 0 then ((gradineref07_Zero.f x1797000 x1797001 x1797002).bind fun t1798 => (gradineref08_Pow.j1 k x1 t1798 x1797000 x1797001 x1797002)) else (gradineref08_Pow.j1 k x1 false x1797000 x1797001 x1797002))
def gradineref08_Pow.j1 (k : Nat) (x1 : Int) (x18 : Bool) (x1797000 : Bool) (x1797001 : List Int) (x1797002 : List Int) : Option (Bool × List Int × List Int × Int) := if x18 = true then (some (false, ([] : List Int), ([] : List Int), 4)) else (if x1 < 0 then ((gradineref07_Of.f k 1).bind fun bt1799 => ((gradineref07_Div.f k bt1799.1 bt1799.2.1 bt1799.2.2 x1797000 x1797001 x1797002).bind fun bt1806 => (if bt1806.1 = true then ((gradineref03_Pow.f k bt1806.2.1 (wrap64 (-x1))).bind fun t1813 => ((gradineref03_Pow.f k bt1806.2.2 (wrap64 (-x1))).bind fun t1816 => (some (((Int.tmod (wrap64 (-x1)) 2) == 1), t1813, t1816, 0)))) else ((gradineref03_Pow.f k bt1806.2.1 (wrap64 (-x1))).bind fun t1819 => ((gradineref03_Pow.f k bt1806.2.2 (wrap64 (-x1))).bind fun t1822 => (some (false, t1819, t1822, 0))))))) else (if x1797000 = true then ((gradineref03_Pow.f k x1797001 x1).bind fun t1825 => ((gradineref03_Pow.f k x1797002 x1).bind fun t1828 => (some (((Int.tmod x1 2) == 1), t1825, t1828, 0)))) else ((gradineref03_Pow.f k x1797001 x1).bind fun t1831 => ((gradineref03_Pow.f k x1797002 x1).bind fun t1834 => (some (false, t1831, t1834, 0))))))
end
def gradineref08_Pow.f (k : Nat) (a0_0 : Bool) (l0_1 : List Int) (l0_2 : List Int) (a1 : Int) : Option (Bool × List Int × List Int × Int) := if a1 < (-64) then (gradineref08_Pow.j0 k a1 true a0_0 l0_1 l0_2) else (gradineref08_Pow.j0 k a1 (decide (a1 > 64)) a0_0 l0_1 l0_2)

def gradineref08_Bits.f (k : Nat) (a0_0 : Bool) (l0_1 : List Int) (l0_2 : List Int) : Option (Int) := (gradineref02_Bits.f k l0_1).bind fun t1838 => ((gradineref02_Bits.f k l0_2).bind fun t1839 => (some (mx t1838 t1839)))

def gradineref08_Abs.f (k : Nat) (a0_0 : Bool) (l0_1 : List Int) (l0_2 : List Int) : Option (Bool × List Int × List Int) := (gradineref07_Make.f k false l0_1 l0_2).bind fun bt1866 => (some (bt1866.1, bt1866.2.1, bt1866.2.2))

def gradineref08_Floor.j0 (k : Nat) (x3 : List Int) (x19 : Bool) (x1908000 : Bool) (x1908001 : List Int) (x1908002 : List Int) : Option (Bool × List Int × List Int) := if x19 = true then ((gradineref02_Add.f k x3 (([1] : List Int))).bind fun t1918 => ((gradineref07_Make.f k x1908000 t1918 (([1] : List Int))).bind fun bt1924 => (some (bt1924.1, bt1924.2.1, bt1924.2.2)))) else ((gradineref07_Make.f k x1908000 x3 (([1] : List Int))).bind fun bt1934 => (some (bt1934.1, bt1934.2.1, bt1934.2.2)))
def gradineref08_Floor.f (k : Nat) (a0_0 : Bool) (l0_1 : List Int) (l0_2 : List Int) : Option (Bool × List Int × List Int) := (gradineref04_Div.f k l0_1 l0_2).bind fun bt1909 => (if a0_0 = true then (gradineref08_Floor.j0 k bt1909.1 (decide ((bt1909.2.length : Int) > 0)) a0_0 l0_1 l0_2) else (gradineref08_Floor.j0 k bt1909.1 false a0_0 l0_1 l0_2))

end Go.Proofs.Ytldcgclbgbhffaa.P
