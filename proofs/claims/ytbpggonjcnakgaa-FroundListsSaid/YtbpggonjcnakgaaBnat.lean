/- Functions of one package as Lean functions, and walks: written by a program for this claim. -/
import Derived.Test.YtbpggonjcnakgaaFbase
import Derived.Test.YtbpggonjcnakgaaBlimb
namespace Go.Proofs.Ytbpggonjcnakgaa.P
open Go.RowKit Go.Proofs.YtbpggonjcnakgaaW.PrintWords Go.Proofs.YtbpggonjcnakgaaW.PrintLast Go.Proofs.YtbpggonjcnakgaaW.PrintMore
attribute [local go_sem] max2_int min2_int max_two min_two max_three min_three max_four min_four   -- for this text's walks alone
set_option linter.unusedVariables false
set_option linter.unusedSimpArgs false

def nat_size.l0 : Nat → List Int → Int → Option (Int)
 | 0, _, _ => none
 | k + 1, x0, x3 => if x3 > 0 then (if 0 ≤ (wrap64 (x3 - 1)) then (if (wrap64 (x3 - 1)) < (x0.length : Int) then (if (rd x0 (wrap64 (x3 - 1))) = 0 then (nat_size.l0 k x0 (wrap64 (x3 - 1))) else (some x3)) else (none)) else (none)) else (some x3)
def nat_size.f (k : Nat) (l0 : List Int) : Option (Int) := nat_size.l0 k l0 (l0.length : Int)

def nat_Trim.f (k : Nat) (l0 : List Int) : Option (List Int) := (some (([] : List Int) : List Int)).bind fun y286 => ((nat_size.f k l0).bind fun t289 => (if 0 ≤ t289 then (if t289 ≤ (l0.length : Int) then (if y286.length + (l0.take (t289 : Int).toNat).length < 17592186044416 then (some (y286 ++ (l0.take (t289 : Int).toNat))) else (none)) else (none)) else (none)))

mutual
def nat_Add.l0 : Nat → List Int → List Int → Int → List Int → Int → Int → Option (List Int)
 | 0, _, _, _, _, _, _ => none
 | k + 1, x1, x5, x6, x21, x22, x23 => if x23 < x22 then (if 0 ≤ x23 then (if x23 < (x21.length : Int) then (if x23 < (x1.length : Int) then ((limb_Add.f (rd x21 x23) (rd x1 x23) x6).bind fun bt299 => (if x5.length < 17592186044416 then (nat_Add.l0 k x1 (x5 ++ [bt299.1]) bt299.2 x21 x22 (wrap64 (x23 + 1))) else (none))) else ((limb_Add.f (rd x21 x23) 0 x6).bind fun bt304 => (if x5.length < 17592186044416 then (nat_Add.l0 k x1 (x5 ++ [bt304.1]) bt304.2 x21 x22 (wrap64 (x23 + 1))) else (none)))) else (none)) else (none)) else (if x5.length < 17592186044416 then ((nat_Trim.f k (x5 ++ [x6])).bind fun t312 => (some t312)) else (none))
def nat_Add.l1 : Nat → List Int → List Int → Int → List Int → Int → Int → Option (List Int)
 | 0, _, _, _, _, _, _ => none
 | k + 1, x1, x5, x6, x21, x22, x23 => if x23 < x22 then (if 0 ≤ x23 then (if x23 < (x21.length : Int) then (if x23 < (x1.length : Int) then ((limb_Add.f (rd x21 x23) (rd x1 x23) x6).bind fun bt320 => (if x5.length < 17592186044416 then (nat_Add.l1 k x1 (x5 ++ [bt320.1]) bt320.2 x21 x22 (wrap64 (x23 + 1))) else (none))) else ((limb_Add.f (rd x21 x23) 0 x6).bind fun bt325 => (if x5.length < 17592186044416 then (nat_Add.l1 k x1 (x5 ++ [bt325.1]) bt325.2 x21 x22 (wrap64 (x23 + 1))) else (none)))) else (none)) else (none)) else (if x5.length < 17592186044416 then ((nat_Trim.f k (x5 ++ [x6])).bind fun t333 => (some t333)) else (none))
end
def nat_Add.f (k : Nat) (l0 : List Int) (l1 : List Int) : Option (List Int) := if (l0.length : Int) < (l1.length : Int) then (if 0 ≤ (wrap64 ((l1.length : Int) + 1)) then (if (wrap64 ((l1.length : Int) + 1) : Int).toNat ≤ 35184372088832 then (nat_Add.l0 k l0 (List.replicate 0 0) 0 l1 (l1.length : Int) 0) else (none)) else (none)) else (if 0 ≤ (wrap64 ((l0.length : Int) + 1)) then (if (wrap64 ((l0.length : Int) + 1) : Int).toNat ≤ 35184372088832 then (nat_Add.l1 k l1 (List.replicate 0 0) 0 l0 (l0.length : Int) 0) else (none)) else (none))

def nat_Shl.l0 : Nat → Int → List Int → Int → List Int → Int → Int → Option (List Int)
 | 0, _, _, _, _, _, _ => none
 | k + 1, x6, x7, x8, x25, x26, x27 => if x27 < x26 then (if 0 ≤ x27 then (if x27 < (x25.length : Int) then (if x7.length < 17592186044416 then (nat_Shl.l0 k x6 (x7 ++ [Go.bits .or .u64 (IntKind.u64.wrap ((rd x25 x27) * 2 ^ x6.toNat)) x8]) (((rd x25 x27) / 2) / 2 ^ (63 - x6).toNat) x25 x26 (wrap64 (x27 + 1))) else (none)) else (none)) else (none)) else (if x7.length < 17592186044416 then ((nat_Trim.f k (x7 ++ [x8])).bind fun t346 => (some t346)) else (none))
def nat_Shl.f (k : Nat) (l0 : List Int) (a1 : Int) : Option (List Int) := if ((mn (mx a1 0) 65536) / 64) ≥ 0 then (if ((mn (mx a1 0) 65536) / 64) ≤ (wrap64 ((wrap64 (((mn (mx a1 0) 65536) / 64) + (l0.length : Int))) + 1)) then (if (wrap64 ((wrap64 (((mn (mx a1 0) 65536) / 64) + (l0.length : Int))) + 1) : Int).toNat ≤ 35184372088832 then (nat_Shl.l0 k ((mn (mx a1 0) 65536) % 64) (List.replicate ((mn (mx a1 0) 65536) / 64 : Int).toNat 0) 0 l0 (l0.length : Int) 0) else (none)) else (none)) else (none)

def nat_Of.f (k : Nat) (a0 : Int) : Option (List Int) := (nat_Trim.f k (([a0] : List Int))).bind fun t352 => (some t352)

def nat_Bits.f (k : Nat) (l0 : List Int) : Option (Int) := (nat_size.f k l0).bind fun t355 => (if t355 = 0 then (some 0) else (if 0 ≤ (wrap64 (t355 - 1)) then (if (wrap64 (t355 - 1)) < (l0.length : Int) then ((limb_Len.f k (rd l0 (wrap64 (t355 - 1)))).bind fun t357 => (some (wrap64 ((wrap64 (64 * (wrap64 (t355 - 1)))) + t357)))) else (none)) else (none)))

def nat_Word.f (k : Nat) (l0 : List Int) : Option (Int × Bool) := (nat_size.f k l0).bind fun t358 => (if t358 = 0 then (some (0, true)) else (if t358 = 1 then (if 0 < (l0.length : Int) then (some (rd l0 0, true)) else (none)) else (some (0, false))))

def nat_Shr.l0 : Nat → List Int → Int → List Int → Int → Option (List Int)
 | 0, _, _, _, _ => none
 | k + 1, x0, x6, x7, x8 => if x8 < (x0.length : Int) then (if (wrap64 (x8 + 1)) < (x0.length : Int) then (if 0 ≤ (wrap64 (x8 + 1)) then (if 0 ≤ x8 then (if x7.length < 17592186044416 then (nat_Shr.l0 k x0 x6 (x7 ++ [Go.bits .or .u64 ((rd x0 x8) / 2 ^ x6.toNat) (IntKind.u64.wrap ((IntKind.u64.wrap ((rd x0 (wrap64 (x8 + 1))) * 2)) * 2 ^ (63 - x6).toNat))]) (wrap64 (x8 + 1))) else (none)) else (none)) else (none)) else (if 0 ≤ x8 then (if x7.length < 17592186044416 then (nat_Shr.l0 k x0 x6 (x7 ++ [Go.bits .or .u64 ((rd x0 x8) / 2 ^ x6.toNat) 0]) (wrap64 (x8 + 1))) else (none)) else (none))) else ((nat_Trim.f k x7).bind fun t372 => (some t372))
def nat_Shr.f (k : Nat) (l0 : List Int) (a1 : Int) : Option (List Int) := if (wrap64 ((mx a1 0) / 64)) ≥ (l0.length : Int) then (some ([] : List Int)) else (if 0 ≤ (wrap64 ((l0.length : Int) - (wrap64 ((mx a1 0) / 64)))) then (if (wrap64 ((l0.length : Int) - (wrap64 ((mx a1 0) / 64))) : Int).toNat ≤ 35184372088832 then (nat_Shr.l0 k l0 ((mx a1 0) % 64) (List.replicate 0 0) (wrap64 ((mx a1 0) / 64))) else (none)) else (none))

def nat_Bit.f (l0 : List Int) (a1 : Int) : Option (Bool) := if a1 ≥ 0 then (if (wrap64 (Int.tdiv a1 64)) < (l0.length : Int) then (if 0 ≤ (wrap64 (Int.tdiv a1 64)) then (if 0 ≤ (Int.tmod a1 64) then (some ((Go.bits .and .u64 (shr .u64 (rd l0 (wrap64 (Int.tdiv a1 64))) (Int.tmod a1 64)) 1) == 1)) else (none)) else (none)) else (some false)) else (some false)

def nat_Even.l0 : Nat → List Int → Int → Int → Option (Int)
 | 0, _, _, _ => none
 | k + 1, x0, x7, x8 => if x8 < x7 then ((nat_Bit.f x0 x8).bind fun t377 => (if t377 = true then (some x8) else (nat_Even.l0 k x0 x7 (wrap64 (x8 + 1))))) else (some 0)
def nat_Even.f (k : Nat) (l0 : List Int) : Option (Int) := (nat_Bits.f k l0).bind fun t376 => (nat_Even.l0 k l0 t376 0)

end Go.Proofs.Ytbpggonjcnakgaa.P
