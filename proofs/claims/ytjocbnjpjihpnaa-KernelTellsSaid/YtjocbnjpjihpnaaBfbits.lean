/- Functions of one package as Lean functions, and walks: written by a program for this claim. -/
import Derived.Test.YtjocbnjpjihpnaaFbase
import Derived.Test.YtjocbnjpjihpnaaBlimb
namespace Go.Proofs.Ytjocbnjpjihpnaa.P
open Go.RowKit Go.Proofs.YtjocbnjpjihpnaaW.PrintWords Go.Proofs.YtjocbnjpjihpnaaW.PrintLast Go.Proofs.YtjocbnjpjihpnaaW.PrintMore
attribute [local go_sem] max2_int min2_int max_two min_two max_three min_three max_four min_four   -- for this text's walks alone
set_option linter.unusedVariables false
set_option linter.unusedSimpArgs false

def fbits_exponent.f (a0 : Int) : Option (Int) := some (wrap64 (Go.bits .and .u64 (a0 / 4503599627370496) 2047))

def fbits_Kind.f (a0 : Int) : Option (Int) := (fbits_exponent.f a0).bind fun t945 => (if t945 = 2047 then (if (Go.bits .and .u64 a0 4503599627370495) = 0 then (some 3) else (some 4)) else (if t945 = 0 then (if (Go.bits .and .u64 a0 4503599627370495) = 0 then (some 0) else (some 1)) else (some 2)))

def fbits_Nan.f  : Option (Int) := some 9221120237041090560

def fbits_Clean.f (a0 : Int) : Option (Int) := (fbits_Kind.f a0).bind fun t1073 => (if t1073 = 4 then ((fbits_Nan.f).bind fun t1074 => (some t1074)) else (some a0))

def fbits_Flip.f (a0 : Int) : Option (Int) := (fbits_Kind.f a0).bind fun t1103 => (if t1103 = 4 then ((fbits_Nan.f).bind fun t1104 => (some t1104)) else (some (Go.bits .xor .u64 a0 9223372036854775808)))

def fbits_signed.f (a0 : Bool) (a1 : Int) : Option (Int) := if a0 = true then (some (Go.bits .or .u64 a1 9223372036854775808)) else (some a1)

def fbits_Inf.f (a0 : Bool) : Option (Int) := (fbits_signed.f a0 9218868437227405312).bind fun t265 => (some t265)

mutual
def fbits_Make.j0 (k : Nat) (x0 : Bool) (x1 : Int) (x2 : Int) (x19 : Bool) : Option (Int × Bool) := if x19 = true then (some (0, false)) else ((limb_Len.f k x1).bind fun t267 => (if (mx (wrap64 ((wrap64 (x2 + t267)) - 53)) (-1074)) > 971 then (fbits_Make.j1 k x0 x1 (mx (wrap64 ((wrap64 (x2 + t267)) - 53)) (-1074)) (wrap64 ((mx (wrap64 ((wrap64 (x2 + t267)) - 53)) (-1074)) - x2)) true) else (fbits_Make.j1 k x0 x1 (mx (wrap64 ((wrap64 (x2 + t267)) - 53)) (-1074)) (wrap64 ((mx (wrap64 ((wrap64 (x2 + t267)) - 53)) (-1074)) - x2)) (decide ((wrap64 ((mx (wrap64 ((wrap64 (x2 + t267)) - 53)) (-1074)) - x2)) ≥ 64)))))
def fbits_Make.j2 (k : Nat) (x0 : Bool) (x1 : Int) (x8 : Int) : Option (Int × Bool) := if x1 < 4503599627370496 then ((fbits_signed.f x0 x1).bind fun t268 => (some (t268, true))) else ((fbits_signed.f x0 (Go.bits .or .u64 (IntKind.u64.wrap ((IntKind.u64.wrap (wrap64 (x8 + 1075))) * 4503599627370496)) (Go.bits .and .u64 x1 4503599627370495))).bind fun t269 => (some (t269, true)))
def fbits_Make.j1 (k : Nat) (x0 : Bool) (x1 : Int) (x8 : Int) (x9 : Int) (x33 : Bool) : Option (Int × Bool) := if x33 = true then (some (0, false)) else (if x9 > 0 then (if 0 ≤ x9 then (if (shl .u64 (shr .u64 x1 x9) x9) = x1 then (fbits_Make.j2 k x0 (shr .u64 x1 x9) x8) else (some (0, false))) else (none)) else (if 0 ≤ (wrap64 (-x9)) then (fbits_Make.j2 k x0 (shl .u64 x1 (wrap64 (-x9))) x8) else (none)))
end
def fbits_Make.f (k : Nat) (a0 : Bool) (a1 : Int) (a2 : Int) : Option (Int × Bool) := if a1 = 0 then ((fbits_signed.f a0 0).bind fun t266 => (some (t266, true))) else (if a2 > 2000 then (fbits_Make.j0 k a0 a1 a2 true) else (fbits_Make.j0 k a0 a1 a2 (decide (a2 < (-2000)))))

def fbits_Neg.f (a0 : Int) : Option (Bool) := some ((Go.bits .and .u64 a0 9223372036854775808) != 0)

def fbits_Parts.j0 (k : Nat) (x0 : Int) (x6 : Int) (x10 : Int) (x11 : Bool) : Option (Bool × Int × Int × Bool) := if x11 = true then (some (false, 0, 0, false)) else (if x10 = 2 then ((fbits_Neg.f x0).bind fun t947 => ((fbits_exponent.f x0).bind fun t948 => (some (t947, Go.bits .or .u64 x6 4503599627370496, wrap64 (t948 - 1075), true)))) else ((fbits_Neg.f x0).bind fun t949 => (some (t949, x6, (-1074), true))))
def fbits_Parts.f (k : Nat) (a0 : Int) : Option (Bool × Int × Int × Bool) := (fbits_Kind.f a0).bind fun t946 => (if t946 = 3 then (fbits_Parts.j0 k a0 (Go.bits .and .u64 a0 4503599627370495) t946 (t946 == 3)) else (fbits_Parts.j0 k a0 (Go.bits .and .u64 a0 4503599627370495) t946 (t946 == 4)))

end Go.Proofs.Ytjocbnjpjihpnaa.P
