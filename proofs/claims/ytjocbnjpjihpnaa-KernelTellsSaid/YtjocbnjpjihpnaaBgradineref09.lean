/- Functions of one package as Lean functions, and walks: written by a program for this claim. -/
import Derived.Test.YtjocbnjpjihpnaaFbase
namespace Go.Proofs.Ytjocbnjpjihpnaa.P
open Go.RowKit Go.Proofs.YtjocbnjpjihpnaaW.PrintWords Go.Proofs.YtjocbnjpjihpnaaW.PrintLast Go.Proofs.YtjocbnjpjihpnaaW.PrintMore
attribute [local go_sem] max2_int min2_int max_two min_two max_three min_three max_four min_four   -- for this text's walks alone
set_option linter.unusedVariables false
set_option linter.unusedSimpArgs false

def gradineref09_Signed.f (a0 : Bool) (a1 : Int) : Option (Int) := if a0 = true then (some (IntKind.u64.wrap (a1 + 9223372036854775808))) else (some a1)

def gradineref09_Inf.f (a0 : Bool) : Option (Int) := (gradineref09_Signed.f a0 9218868437227405312).bind fun t104 => (some t104)

mutual
def gradineref09_Make.j0 : Nat → Bool → Int → Int → Bool → Option (Int × Bool)
 | 0, _, _, _, _ => none
 | k + 1, x0, x1, x2, x17 => if x17 = true then (some (0, false)) else (gradineref09_Make.l0 k x0 x1 x2)
def gradineref09_Make.l0 : Nat → Bool → Int → Int → Option (Int × Bool)
 | 0, _, _, _ => none
 | k + 1, x0, x1, x2 => if (Int.tmod x1 2) = 0 then (gradineref09_Make.l0 k x0 (IntKind.u64.wrap (Int.tdiv x1 2)) (wrap64 (x2 + 1))) else (if x1 ≥ 9007199254740992 then (gradineref09_Make.j2 k x0 x1 x2 true) else (gradineref09_Make.j2 k x0 x1 x2 (decide (x2 < (-1074)))))
def gradineref09_Make.j2 : Nat → Bool → Int → Int → Bool → Option (Int × Bool)
 | 0, _, _, _, _ => none
 | k + 1, x0, x1, x2, x30 => if x30 = true then (some (0, false)) else (gradineref09_Make.l1 k x0 x1 x2)
def gradineref09_Make.j4 : Nat → Bool → Int → Int → Option (Int × Bool)
 | 0, _, _, _ => none
 | k + 1, x0, x1, x2 => if x1 < 4503599627370496 then ((gradineref09_Signed.f x0 x1).bind fun t102 => (some (t102, true))) else (if x2 > 971 then (some (0, false)) else ((gradineref09_Signed.f x0 (IntKind.u64.wrap ((IntKind.u64.wrap ((IntKind.u64.wrap ((IntKind.u64.wrap (wrap64 (x2 + 1075))) * 4503599627370496)) + x1)) - 4503599627370496))).bind fun t103 => (some (t103, true))))
def gradineref09_Make.l1 : Nat → Bool → Int → Int → Option (Int × Bool)
 | 0, _, _, _ => none
 | k + 1, x0, x1, x2 => if x1 < 4503599627370496 then (if x2 > (-1074) then (gradineref09_Make.l1 k x0 (IntKind.u64.wrap (x1 * 2)) (wrap64 (x2 - 1))) else (gradineref09_Make.j4 k x0 x1 x2)) else (gradineref09_Make.j4 k x0 x1 x2)
end
def gradineref09_Make.f (k : Nat) (a0 : Bool) (a1 : Int) (a2 : Int) : Option (Int × Bool) := if a1 = 0 then ((gradineref09_Signed.f a0 0).bind fun t101 => (some (t101, true))) else (if a2 < (-1200) then (gradineref09_Make.j0 k a0 a1 a2 true) else (gradineref09_Make.j0 k a0 a1 a2 (decide (a2 > 1200))))

def gradineref09_Field.f (a0 : Int) : Option (Int) := some (wrap64 (Go.bits .and .u64 (a0 / 4503599627370496) 2047))

def gradineref09_Rest.f (a0 : Int) : Option (Int) := some (Go.bits .and .u64 a0 4503599627370495)

def gradineref09_Kind.f (a0 : Int) : Option (Int) := (gradineref09_Field.f a0).bind fun t698 => (if t698 = 2047 then ((gradineref09_Rest.f a0).bind fun t699 => (if t699 = 0 then (some 3) else (some 4))) else ((gradineref09_Field.f a0).bind fun t700 => (if t700 > 0 then (some 2) else ((gradineref09_Rest.f a0).bind fun t701 => (if t701 > 0 then (some 1) else (some 0))))))

def gradineref09_Nan.f  : Option (Int) := some 9221120237041090560

def gradineref09_Finite.f (a0 : Int) : Option (Bool) := (gradineref09_Field.f a0).bind fun t573 => (some (decide (t573 < 2047)))

def gradineref09_Neg.f (a0 : Int) : Option (Bool) := some ((a0 / 9223372036854775808) == 1)

def gradineref09_Parts.f (a0 : Int) : Option (Int × Int) := (gradineref09_Field.f a0).bind fun t671 => (if t671 = 0 then ((gradineref09_Rest.f a0).bind fun t672 => (some (t672, (-1074)))) else ((gradineref09_Rest.f a0).bind fun t673 => ((gradineref09_Field.f a0).bind fun t674 => (some (IntKind.u64.wrap (t673 + 4503599627370496), wrap64 (t674 - 1075))))))

def gradineref09_Clean.f (a0 : Int) : Option (Int) := (gradineref09_Kind.f a0).bind fun t1205 => (if t1205 = 4 then ((gradineref09_Nan.f).bind fun t1206 => (some t1206)) else (some a0))

def gradineref09_Flip.f (a0 : Int) : Option (Int) := (gradineref09_Kind.f a0).bind fun t1251 => (if t1251 = 4 then ((gradineref09_Nan.f).bind fun t1252 => (some t1252)) else (some (IntKind.u64.wrap (a0 + 9223372036854775808))))

end Go.Proofs.Ytjocbnjpjihpnaa.P
