/- Functions of one package as Lean functions, and walks: written by a program for this claim. -/
import Derived.Test.YtldcgclbgbhffaaFbase
import Derived.Test.YtldcgclbgbhffaaBgradineref02
import Derived.Test.YtldcgclbgbhffaaBgradineref05
import Derived.Test.YtldcgclbgbhffaaBgradineref03
namespace Go.Proofs.Ytldcgclbgbhffaa.P
open Go.RowKit Go.Proofs.YtldcgclbgbhffaaW.PrintWords Go.Proofs.YtldcgclbgbhffaaW.PrintLast Go.Proofs.YtldcgclbgbhffaaW.PrintMore
attribute [local go_sem] max2_int min2_int max_two min_two max_three min_three max_four min_four   -- for this text's walks alone
set_option linter.unusedVariables false
set_option linter.unusedSimpArgs false

def gradineref07_Words.l0 : Nat → List Int → List Int → Int → Int → Option (Bool)
 | 0, _, _, _, _ => none
 | k + 1, x0, x1, x12, x13 => if x13 < x12 then (if 0 ≤ x13 then (if x13 < (x0.length : Int) then (if x13 < (x1.length : Int) then (if (rd x0 x13) = (rd x1 x13) then (gradineref07_Words.l0 k x0 x1 x12 (wrap64 (x13 + 1))) else (some false)) else (none)) else (none)) else (none)) else (some true)
def gradineref07_Words.f (k : Nat) (l0 : List Int) (l1 : List Int) : Option (Bool) := if (l0.length : Int) = (l1.length : Int) then (gradineref07_Words.l0 k l0 l1 (l0.length : Int) 0) else (some false)

def gradineref07_Same.f (k : Nat) (a0_0 : Bool) (l0_1 : List Int) (l0_2 : List Int) (a1_0 : Bool) (l1_1 : List Int) (l1_2 : List Int) : Option (Bool) := if (a0_0 == a1_0) = true then ((gradineref07_Words.f k l0_1 l1_1).bind fun t589 => (if t589 = true then ((gradineref07_Words.f k l0_2 l1_2).bind fun t590 => (some t590)) else (some false))) else (some false)

def gradineref07_Right.j0 (k : Nat) (x28 : Bool) (x844000 : Bool) (x844001 : List Int) (x844002 : List Int) : Option (Bool) := if x28 = true then (some false) else ((gradineref05_Gcd.f k x844001 x844002).bind fun t846 => ((gradineref02_Cmp.f k t846 (([1] : List Int))).bind fun t852 => (some (t852 == 0))))
def gradineref07_Right.f (k : Nat) (a0_0 : Bool) (l0_1 : List Int) (l0_2 : List Int) : Option (Bool) := (gradineref02_Right.f k l0_1).bind fun t844 => (if t844 = true then ((gradineref02_Right.f k l0_2).bind fun t845 => (if t845 = true then (if (l0_2.length : Int) = 0 then (gradineref07_Right.j0 k true a0_0 l0_1 l0_2) else (if a0_0 = true then (gradineref07_Right.j0 k ((l0_1.length : Int) == 0) a0_0 l0_1 l0_2) else (gradineref07_Right.j0 k false a0_0 l0_1 l0_2))) else (gradineref07_Right.j0 k true a0_0 l0_1 l0_2))) else (gradineref07_Right.j0 k true a0_0 l0_1 l0_2))

def gradineref07_Make.f (k : Nat) (a0 : Bool) (l1 : List Int) (l2 : List Int) : Option (Bool × List Int × List Int) := (gradineref02_Size.f k l1).bind fun t802 => (if t802 = 0 then (some (false, ([] : List Int), (([1] : List Int)))) else ((gradineref05_Gcd.f k l1 l2).bind fun t806 => ((gradineref05_Part.f k l1 t806).bind fun t809 => ((gradineref05_Part.f k l2 t806).bind fun t812 => (some (a0, t809, t812))))))

def gradineref07_Of.f (k : Nat) (a0 : Int) : Option (Bool × List Int × List Int) := if a0 < 0 then ((gradineref07_Make.f k true (([IntKind.u64.wrap (-(IntKind.u64.wrap (a0)))] : List Int)) (([1] : List Int))).bind fun bt822 => (some (bt822.1, bt822.2.1, bt822.2.2))) else ((gradineref07_Make.f k false (([IntKind.u64.wrap (a0)] : List Int)) (([1] : List Int))).bind fun bt835 => (some (bt835.1, bt835.2.1, bt835.2.2)))

def gradineref07_Zero.f (a0_0 : Bool) (l0_1 : List Int) (l0_2 : List Int) : Option (Bool) := some ((l0_1.length : Int) == 0)

def gradineref07_Div.f (k : Nat) (a0_0 : Bool) (l0_1 : List Int) (l0_2 : List Int) (a1_0 : Bool) (l1_1 : List Int) (l1_2 : List Int) : Option (Bool × List Int × List Int) := (gradineref03_Mul.f k l0_1 l1_2).bind fun t989 => ((gradineref03_Mul.f k l0_2 l1_1).bind fun t992 => ((gradineref07_Make.f k (a0_0 != a1_0) t989 t992).bind fun bt995 => (some (bt995.1, bt995.2.1, bt995.2.2))))

end Go.Proofs.Ytldcgclbgbhffaa.P
