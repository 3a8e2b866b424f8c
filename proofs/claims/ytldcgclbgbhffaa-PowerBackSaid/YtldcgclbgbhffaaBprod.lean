/- Functions of one package as Lean functions, and walks: written by a program for this claim. -/
import Derived.Test.YtldcgclbgbhffaaFbase
import Derived.Test.YtldcgclbgbhffaaBnat
import Derived.Test.YtldcgclbgbhffaaBlimb
namespace Go.Proofs.Ytldcgclbgbhffaa.P
open Go.RowKit Go.Proofs.YtldcgclbgbhffaaW.PrintWords Go.Proofs.YtldcgclbgbhffaaW.PrintLast Go.Proofs.YtldcgclbgbhffaaW.PrintMore
attribute [local go_sem] max2_int min2_int max_two min_two max_three min_three max_four min_four   -- for this text's walks alone
set_option linter.unusedVariables false
set_option linter.unusedSimpArgs false

def prod_Word.l0 : Nat → Int → Int → List Int → List Int → Int → Int → Option (List Int)
 | 0, _, _, _, _, _, _ => none
 | k + 1, x1, x2, x7, x17, x18, x19 => if x19 < x18 then (if 0 ≤ x19 then (if x19 < (x17.length : Int) then ((limb_Mul.f (rd x17 x19) x1).bind fun bt1566 => ((limb_Add.f bt1566.2 x2 0).bind fun bt1568 => (if x7.length < 17592186044416 then (prod_Word.l0 k x1 (IntKind.u64.wrap (bt1566.1 + bt1568.2)) (x7 ++ [bt1568.1]) x17 x18 (wrap64 (x19 + 1))) else (none)))) else (none)) else (none)) else (if x7.length < 17592186044416 then ((nat_Trim.f k (x7 ++ [x2])).bind fun t1576 => (some t1576)) else (none))
def prod_Word.f (k : Nat) (l0 : List Int) (a1 : Int) (a2 : Int) : Option (List Int) := if 0 ≤ (wrap64 ((l0.length : Int) + 1)) then (if (wrap64 ((l0.length : Int) + 1) : Int).toNat ≤ 35184372088832 then (prod_Word.l0 k a1 a2 (List.replicate 0 0) l0 (l0.length : Int) 0) else (none)) else (none)

mutual
def prod_rows.l0 : Nat → List Int → List Int → List Int → Int → Int → Option (List Int)
 | 0, _, _, _, _, _ => none
 | k + 1, x1, x5, x21, x22, x23 => if x23 < x22 then (if 0 ≤ x23 then (if x23 < (x21.length : Int) then (prod_rows.l1 k x1 x5 x23 (rd x21 x23) 0 x21 x22 x23 x1 (x1.length : Int) 0) else (none)) else (none)) else ((nat_Trim.f k x5).bind fun t334 => (some t334))
def prod_rows.l1 : Nat → List Int → List Int → Int → Int → Int → List Int → Int → Int → List Int → Int → Int → Option (List Int)
 | 0, _, _, _, _, _, _, _, _, _, _, _ => none
 | k + 1, x1, x5, x6, x7, x8, x21, x22, x23, x28, x29, x30 => if x30 < x29 then (if 0 ≤ x30 then (if x30 < (x28.length : Int) then ((limb_Mul.f x7 (rd x28 x30)).bind fun bt339 => (if 0 ≤ (wrap64 (x6 + x30)) then (if (wrap64 (x6 + x30)) < (x5.length : Int) then ((limb_Add.f (rd x5 (wrap64 (x6 + x30))) bt339.2 x8).bind fun bt342 => (prod_rows.l1 k x1 (x5.set ((wrap64 (x6 + x30)) : Int).toNat bt342.1) x6 x7 (IntKind.u64.wrap (bt339.1 + bt342.2)) x21 x22 x23 x28 x29 (wrap64 (x30 + 1)))) else (none)) else (none))) else (none)) else (none)) else (if 0 ≤ (wrap64 (x6 + (x1.length : Int))) then (if (wrap64 (x6 + (x1.length : Int))) < (x5.length : Int) then (prod_rows.l0 k x1 (x5.set ((wrap64 (x6 + (x1.length : Int))) : Int).toNat x8) x21 x22 (wrap64 (x23 + 1))) else (none)) else (none))
end
def prod_rows.f (k : Nat) (l0 : List Int) (l1 : List Int) : Option (List Int) := if 0 ≤ (wrap64 ((l0.length : Int) + (l1.length : Int))) then (if (wrap64 ((l0.length : Int) + (l1.length : Int)) : Int).toNat ≤ 35184372088832 then (prod_rows.l0 k l1 (List.replicate (wrap64 ((l0.length : Int) + (l1.length : Int)) : Int).toNat 0) l0 (l0.length : Int) 0) else (none)) else (none)

def prod_part.f (k : Nat) (l0 : List Int) (a1 : Int) (a2 : Int) : Option (List Int) := if 0 ≤ (mn a1 (l0.length : Int)) then (if (mn a1 (l0.length : Int)) ≤ (mn a2 (l0.length : Int)) then (if (mn a2 (l0.length : Int)) ≤ (l0.length : Int) then ((nat_Trim.f k ((l0.take ((mn a2 (l0.length : Int)) : Int).toNat).drop ((mn a1 (l0.length : Int)) : Int).toNat)).bind fun t408 => (some t408)) else (none)) else (none)) else (none)

def prod_above.f (k : Nat) (l0 : List Int) (a1 : Int) : Option (List Int) := if 0 ≤ a1 then (if (a1 : Int).toNat ≤ 35184372088832 then ((some (List.replicate (a1 : Int).toNat 0 : List Int)).bind fun y411 => (if y411.length + l0.length < 17592186044416 then ((nat_Trim.f k (y411 ++ l0)).bind fun t417 => (some t417)) else (none))) else (none)) else (none)

def prod_halves.f (M : List Int → List Int → Option (List Int)) (k : Nat) (l0 : List Int) (l1 : List Int) : Option (List Int) := (prod_part.f k l0 0 (wrap64 (Int.tdiv (wrap64 ((mx (l0.length : Int) (l1.length : Int)) + 1)) 2))).bind fun t420 => ((prod_part.f k l0 (wrap64 (Int.tdiv (wrap64 ((mx (l0.length : Int) (l1.length : Int)) + 1)) 2)) (l0.length : Int)).bind fun t423 => ((prod_part.f k l1 0 (wrap64 (Int.tdiv (wrap64 ((mx (l0.length : Int) (l1.length : Int)) + 1)) 2))).bind fun t426 => ((prod_part.f k l1 (wrap64 (Int.tdiv (wrap64 ((mx (l0.length : Int) (l1.length : Int)) + 1)) 2)) (l1.length : Int)).bind fun t429 => ((M t420 t426).bind fun t432 => ((M t423 t429).bind fun t435 => ((nat_Add.f k t420 t423).bind fun t438 => ((nat_Add.f k t426 t429).bind fun t441 => ((M t438 t441).bind fun t444 => ((nat_Add.f k t432 t435).bind fun t447 => ((nat_Sub.f k t444 t447).bind fun bt450 => ((prod_above.f k bt450.1 (wrap64 (Int.tdiv (wrap64 ((mx (l0.length : Int) (l1.length : Int)) + 1)) 2))).bind fun t454 => ((prod_above.f k t435 (wrap64 (2 * (wrap64 (Int.tdiv (wrap64 ((mx (l0.length : Int) (l1.length : Int)) + 1)) 2))))).bind fun t457 => ((nat_Add.f k t454 t457).bind fun t460 => ((nat_Add.f k t432 t460).bind fun t463 => (some t463)))))))))))))))

def prod_Mul.f : Nat → List Int → List Int → Option (List Int)
 | 0, _, _ => none
 | k + 1, l0, l1 => if (l0.length : Int) < 8 then ((prod_rows.f k l0 l1).bind fun t466 => (some t466)) else (if (l1.length : Int) < 8 then ((prod_rows.f k l0 l1).bind fun t469 => (some t469)) else ((prod_halves.f (prod_Mul.f k) k l0 l1).bind fun t472 => (some t472)))

def prod_Pow.l0 : Nat → List Int → Int → List Int → Int → Option (List Int)
 | 0, _, _, _, _ => none
 | k + 1, x0, x1, x5, x6 => if x6 > 0 then ((prod_Mul.f k x5 x5).bind fun t1640 => (if (Go.bits .and .i64 x1 x6) = 0 then (prod_Pow.l0 k x0 x1 t1640 (x6 / 2)) else ((prod_Mul.f k t1640 x0).bind fun t1643 => (prod_Pow.l0 k x0 x1 t1643 (x6 / 2))))) else (some x5)
def prod_Pow.f (k : Nat) (l0 : List Int) (a1 : Int) : Option (List Int) := (nat_Of.f k 1).bind fun t1637 => (prod_Pow.l0 k l0 (mn (mx a1 0) 64) t1637 64)

end Go.Proofs.Ytldcgclbgbhffaa.P
