/- Functions of one package as Lean functions, and walks: written by a program for this claim. -/
import Derived.Test.YtjocbnjpjihpnaaFbase
import Derived.Test.YtjocbnjpjihpnaaBgradineref01
namespace Go.Proofs.Ytjocbnjpjihpnaa.P
open Go.RowKit Go.Proofs.YtjocbnjpjihpnaaW.PrintWords Go.Proofs.YtjocbnjpjihpnaaW.PrintLast Go.Proofs.YtjocbnjpjihpnaaW.PrintMore
attribute [local go_sem] max2_int min2_int max_two min_two max_three min_three max_four min_four   -- for this text's walks alone
set_option linter.unusedVariables false
set_option linter.unusedSimpArgs false

def gradineref02_Size.l0 : Nat → List Int → Int → Option (Int)
 | 0, _, _ => none
 | k + 1, x0, x3 => if x3 > 0 then (if 0 ≤ (wrap64 (x3 - 1)) then (if (wrap64 (x3 - 1)) < (x0.length : Int) then (if (rd x0 (wrap64 (x3 - 1))) = 0 then (gradineref02_Size.l0 k x0 (wrap64 (x3 - 1))) else (some x3)) else (none)) else (none)) else (some x3)
def gradineref02_Size.f (k : Nat) (l0 : List Int) : Option (Int) := gradineref02_Size.l0 k l0 (l0.length : Int)

def gradineref02_Trim.l0 : Nat → List Int → List Int → Int → Int → Option (List Int)
 | 0, _, _, _, _ => none
 | k + 1, x0, x3, x6, x7 => if x7 < x6 then (if 0 ≤ x7 then (if x7 < (x0.length : Int) then (if x3.length < 17592186044416 then (gradineref02_Trim.l0 k x0 (x3 ++ [rd x0 x7]) x6 (wrap64 (x7 + 1))) else (none)) else (none)) else (none)) else (some x3)
def gradineref02_Trim.f (k : Nat) (l0 : List Int) : Option (List Int) := (gradineref02_Size.f k l0).bind fun t106 => (gradineref02_Trim.l0 k l0 ([] : List Int) t106 0)

mutual
def gradineref02_Shl.l0 : Nat → List Int → Int → List Int → Int → Int → Option (List Int)
 | 0, _, _, _, _, _ => none
 | k + 1, x0, x1, x5, x13, x14 => if x14 < x13 then (if x5.length < 17592186044416 then (gradineref02_Shl.l0 k x0 x1 (x5 ++ [0]) x13 (wrap64 (x14 + 1))) else (none)) else (gradineref02_Shl.l1 k x0 x1 x5 (x0.length : Int) 0)
def gradineref02_Shl.l1 : Nat → List Int → Int → List Int → Int → Int → Option (List Int)
 | 0, _, _, _, _, _ => none
 | k + 1, x0, x1, x5, x21, x22 => if x22 < x21 then (if 0 ≤ x22 then (if x22 < (x0.length : Int) then (if x5.length < 17592186044416 then (gradineref02_Shl.l1 k x0 x1 (x5 ++ [rd x0 x22]) x21 (wrap64 (x22 + 1))) else (none)) else (none)) else (none)) else (if (x1 % 64) = 0 then ((gradineref02_Trim.f k x5).bind fun t118 => (some t118)) else (if x5.length < 17592186044416 then ((some (x5 ++ [0] : List Int)).bind fun y121 => (gradineref02_Shl.l2 k y121 (x1 % 64) (wrap64 ((y121.length : Int) - 1)))) else (none)))
def gradineref02_Shl.l2 : Nat → List Int → Int → Int → Option (List Int)
 | 0, _, _, _ => none
 | k + 1, x5, x7, x8 => if x8 > 0 then (if 0 ≤ x8 then (if x8 < (x5.length : Int) then (if 0 ≤ (wrap64 (x8 - 1)) then (if (wrap64 (x8 - 1)) < (x5.length : Int) then (gradineref02_Shl.l2 k (x5.set (x8 : Int).toNat (Go.bits .or .u64 (IntKind.u64.wrap ((rd x5 x8) * 2 ^ x7.toNat)) ((rd x5 (wrap64 (x8 - 1))) / 2 ^ (64 - x7).toNat))) x7 (wrap64 (x8 - 1))) else (none)) else (none)) else (none)) else (none)) else (if 0 < (x5.length : Int) then ((gradineref02_Trim.f k (x5.set (0 : Int).toNat (IntKind.u64.wrap ((rd x5 0) * 2 ^ x7.toNat)))).bind fun t129 => (some t129)) else (none))
end
def gradineref02_Shl.f (k : Nat) (l0 : List Int) (a1 : Int) : Option (List Int) := gradineref02_Shl.l0 k l0 (mn (mx a1 0) 65536) ([] : List Int) ((mn (mx a1 0) 65536) / 64) 0

mutual
def gradineref02_Shr.l0 : Nat → List Int → Int → List Int → Int → Option (List Int)
 | 0, _, _, _, _ => none
 | k + 1, x0, x1, x5, x6 => if x6 < (x0.length : Int) then (if 0 ≤ x6 then (if x5.length < 17592186044416 then (gradineref02_Shr.l0 k x0 x1 (x5 ++ [rd x0 x6]) (wrap64 (x6 + 1))) else (none)) else (none)) else (if (x1 % 64) = 0 then ((gradineref02_Trim.f k x5).bind fun t136 => (some t136)) else (gradineref02_Shr.l1 k x5 (x1 % 64) (x5.length : Int) 0))
def gradineref02_Shr.l1 : Nat → List Int → Int → Int → Int → Option (List Int)
 | 0, _, _, _, _ => none
 | k + 1, x5, x7, x35, x36 => if x36 < x35 then (if 0 ≤ x36 then (if x36 < (x5.length : Int) then ((some (x5.set (x36 : Int).toNat ((rd x5 x36) / 2 ^ x7.toNat) : List Int)).bind fun y140 => (if (wrap64 (x36 + 1)) < (x5.length : Int) then (if 0 ≤ (wrap64 (x36 + 1)) then (gradineref02_Shr.l1 k (y140.set (x36 : Int).toNat (Go.bits .or .u64 (rd y140 x36) (IntKind.u64.wrap ((rd y140 (wrap64 (x36 + 1))) * 2 ^ (64 - x7).toNat)))) x7 x35 (wrap64 (x36 + 1))) else (none)) else (gradineref02_Shr.l1 k y140 x7 x35 (wrap64 (x36 + 1))))) else (none)) else (none)) else ((gradineref02_Trim.f k x5).bind fun t144 => (some t144))
end
def gradineref02_Shr.f (k : Nat) (l0 : List Int) (a1 : Int) : Option (List Int) := gradineref02_Shr.l0 k l0 (mx a1 0) ([] : List Int) (wrap64 ((mx a1 0) / 64))

def gradineref02_Bits.f (k : Nat) (l0 : List Int) : Option (Int) := (gradineref02_Size.f k l0).bind fun t147 => (if t147 = 0 then (some 0) else (if 0 ≤ (wrap64 (t147 - 1)) then (if (wrap64 (t147 - 1)) < (l0.length : Int) then ((gradineref01_Len.f k (rd l0 (wrap64 (t147 - 1)))).bind fun t149 => (some (wrap64 ((wrap64 ((wrap64 (64 * t147)) - 64)) + t149)))) else (none)) else (none)))

def gradineref02_Halves.l0 : Nat → List Int → List Int → Int → Int → Option (List Int)
 | 0, _, _, _, _ => none
 | k + 1, x0, x3, x6, x7 => if x7 < x6 then (if 0 ≤ x7 then (if x7 < (x0.length : Int) then (if x3.length < 17592186044416 then ((some (x3 ++ [Go.bits .and .u64 (rd x0 x7) 4294967295] : List Int)).bind fun y151 => (if y151.length < 17592186044416 then (gradineref02_Halves.l0 k x0 (y151 ++ [(rd x0 x7) / 4294967296]) x6 (wrap64 (x7 + 1))) else (none))) else (none)) else (none)) else (none)) else ((gradineref02_Trim.f k x3).bind fun t158 => (some t158))
def gradineref02_Halves.f (k : Nat) (l0 : List Int) : Option (List Int) := gradineref02_Halves.l0 k l0 ([] : List Int) (l0.length : Int) 0

def gradineref02_at.f (l0 : List Int) (a1 : Int) : Option (Int) := if a1 < 0 then (some 0) else (if a1 ≥ (l0.length : Int) then (some 0) else (if 0 ≤ a1 then (if a1 < (l0.length : Int) then (some (rd l0 a1)) else (none)) else (none)))

def gradineref02_Whole.l0 : Nat → List Int → List Int → Int → Option (List Int)
 | 0, _, _, _ => none
 | k + 1, x0, x3, x4 => if x4 < (x0.length : Int) then (if 0 ≤ x4 then (if (wrap64 (x4 + 1)) < (x0.length : Int) then (if 0 ≤ (wrap64 (x4 + 1)) then (if x3.length < 17592186044416 then (gradineref02_Whole.l0 k x0 (x3 ++ [Go.bits .or .u64 (rd x0 x4) (IntKind.u64.wrap ((rd x0 (wrap64 (x4 + 1))) * 4294967296))]) (wrap64 (x4 + 2))) else (none)) else (none)) else (if x3.length < 17592186044416 then (gradineref02_Whole.l0 k x0 (x3 ++ [rd x0 x4]) (wrap64 (x4 + 2))) else (none))) else (none)) else ((gradineref02_Trim.f k x3).bind fun t170 => (some t170))
def gradineref02_Whole.f (k : Nat) (l0 : List Int) : Option (List Int) := gradineref02_Whole.l0 k l0 ([] : List Int) 0

def gradineref02_Sub.l0 : Nat → List Int → List Int → List Int → Int → Int → Int → Option (List Int)
 | 0, _, _, _, _, _, _ => none
 | k + 1, x5, x6, x7, x8, x16, x17 => if x17 < x16 then (if 0 ≤ x17 then (if x17 < (x5.length : Int) then ((gradineref02_at.f x6 x17).bind fun t180 => (if x7.length < 17592186044416 then (gradineref02_Sub.l0 k x5 x6 (x7 ++ [Go.bits .and .u64 (IntKind.u64.wrap ((IntKind.u64.wrap ((IntKind.u64.wrap (4294967296 + (rd x5 x17))) - t180)) - x8)) 4294967295]) (IntKind.u64.wrap (1 - ((IntKind.u64.wrap ((IntKind.u64.wrap ((IntKind.u64.wrap (4294967296 + (rd x5 x17))) - t180)) - x8)) / 4294967296))) x16 (wrap64 (x17 + 1))) else (none))) else (none)) else (none)) else ((gradineref02_Whole.f k x7).bind fun t184 => (some t184))
def gradineref02_Sub.f (k : Nat) (l0 : List Int) (l1 : List Int) : Option (List Int) := (gradineref02_Halves.f k l0).bind fun t173 => ((gradineref02_Halves.f k l1).bind fun t176 => (gradineref02_Sub.l0 k t173 t176 ([] : List Int) 0 (t173.length : Int) 0))

def gradineref02_Cmp.l0 : Nat → List Int → List Int → Int → Option (Int)
 | 0, _, _, _ => none
 | k + 1, x0, x1, x6 => if x6 ≥ 0 then ((gradineref02_at.f x0 x6).bind fun t187 => ((gradineref02_at.f x1 x6).bind fun t188 => (if t187 < t188 then (some (-1)) else (if t187 > t188 then (some 1) else (gradineref02_Cmp.l0 k x0 x1 (wrap64 (x6 - 1))))))) else (some 0)
def gradineref02_Cmp.f (k : Nat) (l0 : List Int) (l1 : List Int) : Option (Int) := gradineref02_Cmp.l0 k l0 l1 (wrap64 ((mx (l0.length : Int) (l1.length : Int)) - 1))

def gradineref02_Add.l0 : Nat → List Int → List Int → List Int → Int → Int → Int → Option (List Int)
 | 0, _, _, _, _, _, _ => none
 | k + 1, x5, x6, x7, x8, x19, x20 => if x20 < x19 then ((gradineref02_at.f x5 x20).bind fun t195 => ((gradineref02_at.f x6 x20).bind fun t196 => (if x7.length < 17592186044416 then (gradineref02_Add.l0 k x5 x6 (x7 ++ [Go.bits .and .u64 (IntKind.u64.wrap ((IntKind.u64.wrap (x8 + t195)) + t196)) 4294967295]) ((IntKind.u64.wrap ((IntKind.u64.wrap (x8 + t195)) + t196)) / 4294967296) x19 (wrap64 (x20 + 1))) else (none)))) else ((gradineref02_Whole.f k x7).bind fun t200 => (some t200))
def gradineref02_Add.f (k : Nat) (l0 : List Int) (l1 : List Int) : Option (List Int) := (gradineref02_Halves.f k l0).bind fun t189 => ((gradineref02_Halves.f k l1).bind fun t192 => (gradineref02_Add.l0 k t189 t192 ([] : List Int) 0 (wrap64 ((mx (t189.length : Int) (t192.length : Int)) + 1)) 0))

def gradineref02_Bit.f (l0 : List Int) (a1 : Int) : Option (Bool) := if a1 ≥ 0 then (if (wrap64 (Int.tdiv a1 64)) < (l0.length : Int) then (if 0 ≤ (wrap64 (Int.tdiv a1 64)) then (if 0 ≤ (IntKind.u64.wrap (Int.tmod a1 64)) then (some ((Go.bits .and .u64 (shr .u64 (rd l0 (wrap64 (Int.tdiv a1 64))) (IntKind.u64.wrap (Int.tmod a1 64))) 1) == 1)) else (none)) else (none)) else (some false)) else (some false)

def gradineref02_Even.l0 : Nat → List Int → Int → Option (Int)
 | 0, _, _ => none
 | k + 1, x0, x3 => (gradineref02_Bit.f x0 x3).bind fun t402 => (if t402 = true then (some x3) else (gradineref02_Even.l0 k x0 (wrap64 (x3 + 1))))
def gradineref02_Even.f (k : Nat) (l0 : List Int) : Option (Int) := (gradineref02_Size.f k l0).bind fun t401 => (if t401 = 0 then (some 0) else (gradineref02_Even.l0 k l0 0))

end Go.Proofs.Ytjocbnjpjihpnaa.P
