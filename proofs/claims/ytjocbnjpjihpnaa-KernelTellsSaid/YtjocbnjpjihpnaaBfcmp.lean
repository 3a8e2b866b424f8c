/- Functions of one package as Lean functions, and walks: written by a program for this claim. -/
import Derived.Test.YtjocbnjpjihpnaaFbase
import Derived.Test.YtjocbnjpjihpnaaBfbits
import Derived.Test.YtjocbnjpjihpnaaBlimb
import Derived.Test.YtjocbnjpjihpnaaBfround
namespace Go.Proofs.Ytjocbnjpjihpnaa.P
open Go.RowKit Go.Proofs.YtjocbnjpjihpnaaW.PrintWords Go.Proofs.YtjocbnjpjihpnaaW.PrintLast Go.Proofs.YtjocbnjpjihpnaaW.PrintMore
attribute [local go_sem] max2_int min2_int max_two min_two max_three min_three max_four min_four   -- for this text's walks alone
set_option linter.unusedVariables false
set_option linter.unusedSimpArgs false

def fcmp_known.f (a0 : Int) (a1 : Int) : Option (Bool) := (fbits_Kind.f a0).bind fun t1062 => (if t1062 = 4 then (some false) else ((fbits_Kind.f a1).bind fun t1063 => (some (t1063 != 4))))

def fcmp_key.f (a0 : Int) : Option (Int) := (fbits_Neg.f a0).bind fun t1064 => (if t1064 = true then (some (wrap64 (-(wrap64 ((IntKind.u64.wrap (a0 * 2)) / 2))))) else (some (wrap64 ((IntKind.u64.wrap (a0 * 2)) / 2))))

def fcmp_Less.f (a0 : Int) (a1 : Int) : Option (Bool) := (fcmp_known.f a0 a1).bind fun t1065 => (if t1065 = true then ((fcmp_key.f a0).bind fun t1066 => ((fcmp_key.f a1).bind fun t1067 => (some (decide (t1066 < t1067))))) else (some false))

mutual
def fcmp_Near.j0 : Nat → Bool → Int → Int → Bool → Option (Int × Bool)
 | 0, _, _, _, _ => none
 | k + 1, x4, x5, x6, x25 => if x25 = true then (some (0, false)) else (if x6 ≥ 0 then (if 0 ≤ x6 then (if x4 = true then (some (wrap64 (-(wrap64 (shl .u64 x5 x6))), true)) else (some (wrap64 (shl .u64 x5 x6), true))) else (none)) else (if x6 > (-64) then (if 0 ≤ (wrap64 (-x6)) then (if 0 ≤ (wrap64 (64 + x6)) then (if (shl .u64 x5 (wrap64 (64 + x6))) > 9223372036854775808 then (fcmp_Near.j1 k x4 (wrap64 (shr .u64 x5 (wrap64 (-x6)))) true) else (if (shl .u64 x5 (wrap64 (64 + x6))) = 9223372036854775808 then (fcmp_Near.j1 k x4 (wrap64 (shr .u64 x5 (wrap64 (-x6)))) ((Go.bits .and .i64 (wrap64 (shr .u64 x5 (wrap64 (-x6)))) 1) == 1)) else (fcmp_Near.j1 k x4 (wrap64 (shr .u64 x5 (wrap64 (-x6)))) false))) else (none)) else (none)) else (if x4 = true then (some (-0, true)) else (some (0, true)))))
def fcmp_Near.j1 : Nat → Bool → Int → Bool → Option (Int × Bool)
 | 0, _, _, _ => none
 | k + 1, x4, x8, x55 => if x55 = true then (if x4 = true then (some (wrap64 (-(wrap64 (x8 + 1))), true)) else (some (wrap64 (x8 + 1), true))) else (if x4 = true then (some (wrap64 (-x8), true)) else (some (x8, true)))
end
def fcmp_Near.f (k : Nat) (a0 : Int) : Option (Int × Bool) := (fbits_Parts.f k a0).bind fun bt1068 => (if bt1068.2.2.2 = true then ((limb_Len.f k bt1068.2.1).bind fun t1072 => (fcmp_Near.j0 k bt1068.1 bt1068.2.1 bt1068.2.2.1 (decide ((wrap64 (t1072 + bt1068.2.2.1)) > 62)))) else (fcmp_Near.j0 k bt1068.1 bt1068.2.1 bt1068.2.2.1 true))

def fcmp_Scale.f (k : Nat) (a0 : Int) (a1 : Int) : Option (Int) := (fbits_Parts.f k a0).bind fun bt1075 => (if bt1075.2.2.2 = true then ((fround_Word.f k bt1075.1 bt1075.2.1 (wrap64 (bt1075.2.2.1 + (mn (mx a1 (-5000)) 5000)))).bind fun t1079 => (some t1079)) else ((fbits_Clean.f a0).bind fun t1080 => (some t1080)))

end Go.Proofs.Ytjocbnjpjihpnaa.P
