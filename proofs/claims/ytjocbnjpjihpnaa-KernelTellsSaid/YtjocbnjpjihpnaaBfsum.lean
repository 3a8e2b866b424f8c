/- Functions of one package as Lean functions, and walks: written by a program for this claim. -/
import Derived.Test.YtjocbnjpjihpnaaFbase
import Derived.Test.YtjocbnjpjihpnaaBfround
import Derived.Test.YtjocbnjpjihpnaaBfbits
namespace Go.Proofs.Ytjocbnjpjihpnaa.P
open Go.RowKit Go.Proofs.YtjocbnjpjihpnaaW.PrintWords Go.Proofs.YtjocbnjpjihpnaaW.PrintLast Go.Proofs.YtjocbnjpjihpnaaW.PrintMore
attribute [local go_sem] max2_int min2_int max_two min_two max_three min_three max_four min_four   -- for this text's walks alone
set_option linter.unusedVariables false
set_option linter.unusedSimpArgs false

def fsum_odd.f (a0 : Int) (a1 : Int) : Option (Int) := if a1 > 63 then (some (mn a0 1)) else (if 0 ≤ a1 then (if (shl .u64 (shr .u64 a0 a1) a1) = a0 then (some (shr .u64 a0 a1)) else (some (Go.bits .or .u64 (shr .u64 a0 a1) 1))) else (none))

def fsum_finite.j0 (k : Nat) (x1082000 : Bool) (x1082001 : Int) (x1082002 : Int) (x1083000 : Bool) (x1083001 : Int) (x1083002 : Int) : Option (Int) := if 0 ≤ (mn (wrap64 (x1082002 - x1083002)) 10) then ((fsum_odd.f x1083001 (wrap64 ((wrap64 (x1082002 - (mn (wrap64 (x1082002 - x1083002)) 10))) - x1083002))).bind fun t1083 => (if (x1082000 == x1083000) = true then ((fround_Word.f k x1082000 (IntKind.u64.wrap ((IntKind.u64.wrap (x1082001 * 2 ^ (mn (wrap64 (x1082002 - x1083002)) 10).toNat)) + t1083)) (wrap64 (x1082002 - (mn (wrap64 (x1082002 - x1083002)) 10)))).bind fun t1084 => (some t1084)) else (if (IntKind.u64.wrap (x1082001 * 2 ^ (mn (wrap64 (x1082002 - x1083002)) 10).toNat)) > t1083 then ((fround_Word.f k x1082000 (IntKind.u64.wrap ((IntKind.u64.wrap (x1082001 * 2 ^ (mn (wrap64 (x1082002 - x1083002)) 10).toNat)) - t1083)) (wrap64 (x1082002 - (mn (wrap64 (x1082002 - x1083002)) 10)))).bind fun t1085 => (some t1085)) else (if (IntKind.u64.wrap (x1082001 * 2 ^ (mn (wrap64 (x1082002 - x1083002)) 10).toNat)) < t1083 then ((fround_Word.f k x1083000 (IntKind.u64.wrap (t1083 - (IntKind.u64.wrap (x1082001 * 2 ^ (mn (wrap64 (x1082002 - x1083002)) 10).toNat)))) (wrap64 (x1082002 - (mn (wrap64 (x1082002 - x1083002)) 10)))).bind fun t1086 => (some t1086)) else (some 0))))) else (none)
def fsum_finite.f (k : Nat) (a0_0 : Bool) (a0_1 : Int) (a0_2 : Int) (a1_0 : Bool) (a1_1 : Int) (a1_2 : Int) : Option (Int) := if a0_2 < a1_2 then (fsum_finite.j0 k a1_0 a1_1 a1_2 a0_0 a0_1 a0_2) else (fsum_finite.j0 k a0_0 a0_1 a0_2 a1_0 a1_1 a1_2)

def fsum_of.f (k : Nat) (a0 : Int) : Option (Bool × Int × Int) := (fbits_Parts.f k a0).bind fun bt1088 => (some (bt1088.1, bt1088.2.1, bt1088.2.2.1))

mutual
def fsum_Add.j0 : Nat → Int → Int → Int → Int → Bool → Option (Int)
 | 0, _, _, _, _, _ => none
 | k + 1, x0, x1, x5, x6, x11 => if x11 = true then ((fbits_Nan.f).bind fun t1094 => (some t1094)) else (if x5 = 3 then (if x6 = 3 then (fsum_Add.j1 k x0 x1 x5 x6 (x0 != x1)) else (fsum_Add.j1 k x0 x1 x5 x6 false)) else (fsum_Add.j1 k x0 x1 x5 x6 false))
def fsum_Add.j1 : Nat → Int → Int → Int → Int → Bool → Option (Int)
 | 0, _, _, _, _, _ => none
 | k + 1, x0, x1, x5, x6, x19 => if x19 = true then ((fbits_Nan.f).bind fun t1095 => (some t1095)) else (if x5 = 3 then (some x0) else (if x6 = 3 then (some x1) else ((fsum_of.f k x0).bind fun bt1096 => ((fsum_of.f k x1).bind fun bt1099 => ((fsum_finite.f k bt1096.1 bt1096.2.1 bt1096.2.2 bt1099.1 bt1099.2.1 bt1099.2.2).bind fun t1102 => (some t1102))))))
end
def fsum_Add.f (k : Nat) (a0 : Int) (a1 : Int) : Option (Int) := (fbits_Kind.f a0).bind fun t1092 => ((fbits_Kind.f a1).bind fun t1093 => (if t1092 = 4 then (fsum_Add.j0 k a0 a1 t1092 t1093 true) else (fsum_Add.j0 k a0 a1 t1092 t1093 (t1093 == 4))))

def fsum_Sub.f (k : Nat) (a0 : Int) (a1 : Int) : Option (Int) := (fbits_Flip.f a1).bind fun t1105 => ((fsum_Add.f k a0 t1105).bind fun t1106 => (some t1106))

end Go.Proofs.Ytjocbnjpjihpnaa.P
