/- Functions of one package as Lean functions, and walks: written by a program for this claim. -/
import Derived.Test.YtjocbnjpjihpnaaFbase
import Derived.Test.YtjocbnjpjihpnaaBgradineref02
import Derived.Test.YtjocbnjpjihpnaaBgradineref05
import Derived.Test.YtjocbnjpjihpnaaBgradineref03
namespace Go.Proofs.Ytjocbnjpjihpnaa.P
open Go.RowKit Go.Proofs.YtjocbnjpjihpnaaW.PrintWords Go.Proofs.YtjocbnjpjihpnaaW.PrintLast Go.Proofs.YtjocbnjpjihpnaaW.PrintMore
attribute [local go_sem] max2_int min2_int max_two min_two max_three min_three max_four min_four   -- for this text's walks alone
set_option linter.unusedVariables false
set_option linter.unusedSimpArgs false

def gradineref07_Right.j0 (k : Nat) (x28 : Bool) (x711000 : Bool) (x711001 : List Int) (x711002 : List Int) : Option (Bool) := if x28 = true then (some false) else ((gradineref05_Gcd.f k x711001 x711002).bind fun t713 => ((gradineref02_Cmp.f k t713 (([1] : List Int))).bind fun t719 => (some (t719 == 0))))
def gradineref07_Right.f (k : Nat) (a0_0 : Bool) (l0_1 : List Int) (l0_2 : List Int) : Option (Bool) := (gradineref02_Right.f k l0_1).bind fun t711 => (if t711 = true then ((gradineref02_Right.f k l0_2).bind fun t712 => (if t712 = true then (if (l0_2.length : Int) = 0 then (gradineref07_Right.j0 k true a0_0 l0_1 l0_2) else (if a0_0 = true then (gradineref07_Right.j0 k ((l0_1.length : Int) == 0) a0_0 l0_1 l0_2) else (gradineref07_Right.j0 k false a0_0 l0_1 l0_2))) else (gradineref07_Right.j0 k true a0_0 l0_1 l0_2))) else (gradineref07_Right.j0 k true a0_0 l0_1 l0_2))

def gradineref07_Make.f (k : Nat) (a0 : Bool) (l1 : List Int) (l2 : List Int) : Option (Bool × List Int × List Int) := (gradineref02_Size.f k l1).bind fun t517 => (if t517 = 0 then (some (false, ([] : List Int), (([1] : List Int)))) else ((gradineref05_Gcd.f k l1 l2).bind fun t521 => ((gradineref05_Part.f k l1 t521).bind fun t524 => ((gradineref05_Part.f k l2 t521).bind fun t527 => (some (a0, t524, t527))))))

def gradineref07_Add.f (k : Nat) (a0_0 : Bool) (l0_1 : List Int) (l0_2 : List Int) (a1_0 : Bool) (l1_1 : List Int) (l1_2 : List Int) : Option (Bool × List Int × List Int) := (gradineref03_Mul.f k l0_1 l1_2).bind fun t594 => ((gradineref03_Mul.f k l1_1 l0_2).bind fun t597 => ((gradineref03_Mul.f k l0_2 l1_2).bind fun t600 => (if (a0_0 == a1_0) = true then ((gradineref02_Add.f k t594 t597).bind fun t603 => ((gradineref07_Make.f k a0_0 t603 t600).bind fun bt606 => (some (bt606.1, bt606.2.1, bt606.2.2)))) else ((gradineref02_Cmp.f k t594 t597).bind fun t613 => (if t613 ≥ 0 then ((gradineref02_Sub.f k t594 t597).bind fun t614 => ((gradineref07_Make.f k a0_0 t614 t600).bind fun bt617 => (some (bt617.1, bt617.2.1, bt617.2.2)))) else ((gradineref02_Sub.f k t597 t594).bind fun t624 => ((gradineref07_Make.f k a1_0 t624 t600).bind fun bt627 => (some (bt627.1, bt627.2.1, bt627.2.2)))))))))

def gradineref07_Neg.f (k : Nat) (a0_0 : Bool) (l0_1 : List Int) (l0_2 : List Int) : Option (Bool × List Int × List Int) := (gradineref07_Make.f k (!a0_0) l0_1 l0_2).bind fun bt636 => (some (bt636.1, bt636.2.1, bt636.2.2))

def gradineref07_Sub.f (k : Nat) (a0_0 : Bool) (l0_1 : List Int) (l0_2 : List Int) (a1_0 : Bool) (l1_1 : List Int) (l1_2 : List Int) : Option (Bool × List Int × List Int) := (gradineref07_Neg.f k a1_0 l1_1 l1_2).bind fun bt646 => ((gradineref07_Add.f k a0_0 l0_1 l0_2 bt646.1 bt646.2.1 bt646.2.2).bind fun bt653 => (some (bt653.1, bt653.2.1, bt653.2.2)))

def gradineref07_Sign.f (a0_0 : Bool) (l0_1 : List Int) (l0_2 : List Int) : Option (Int) := if (l0_1.length : Int) = 0 then (some 0) else (if a0_0 = true then (some (-1)) else (some 1))

def gradineref07_Cmp.f (k : Nat) (a0_0 : Bool) (l0_1 : List Int) (l0_2 : List Int) (a1_0 : Bool) (l1_1 : List Int) (l1_2 : List Int) : Option (Int) := (gradineref07_Sub.f k a0_0 l0_1 l0_2 a1_0 l1_1 l1_2).bind fun bt663 => ((gradineref07_Sign.f bt663.1 bt663.2.1 bt663.2.2).bind fun t670 => (some t670))

def gradineref07_Words.l0 : Nat → List Int → List Int → Int → Int → Option (Bool)
 | 0, _, _, _, _ => none
 | k + 1, x0, x1, x12, x13 => if x13 < x12 then (if 0 ≤ x13 then (if x13 < (x0.length : Int) then (if x13 < (x1.length : Int) then (if (rd x0 x13) = (rd x1 x13) then (gradineref07_Words.l0 k x0 x1 x12 (wrap64 (x13 + 1))) else (some false)) else (none)) else (none)) else (none)) else (some true)
def gradineref07_Words.f (k : Nat) (l0 : List Int) (l1 : List Int) : Option (Bool) := if (l0.length : Int) = (l1.length : Int) then (gradineref07_Words.l0 k l0 l1 (l0.length : Int) 0) else (some false)

def gradineref07_Same.f (k : Nat) (a0_0 : Bool) (l0_1 : List Int) (l0_2 : List Int) (a1_0 : Bool) (l1_1 : List Int) (l1_2 : List Int) : Option (Bool) := if (a0_0 == a1_0) = true then ((gradineref07_Words.f k l0_1 l1_1).bind fun t706 => (if t706 = true then ((gradineref07_Words.f k l0_2 l1_2).bind fun t707 => (some t707)) else (some false))) else (some false)

end Go.Proofs.Ytjocbnjpjihpnaa.P
