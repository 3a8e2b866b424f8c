/- Functions of one package as Lean functions, and walks: written by a program for this claim. -/
import Derived.Test.YtldcgclbgbhffaaFbase
import Derived.Test.YtldcgclbgbhffaaBnat
import Derived.Test.YtldcgclbgbhffaaBgcd
namespace Go.Proofs.Ytldcgclbgbhffaa.P
open Go.RowKit Go.Proofs.YtldcgclbgbhffaaW.PrintWords Go.Proofs.YtldcgclbgbhffaaW.PrintLast Go.Proofs.YtldcgclbgbhffaaW.PrintMore
attribute [local go_sem] max2_int min2_int max_two min_two max_three min_three max_four min_four   -- for this text's walks alone
set_option linter.unusedVariables false
set_option linter.unusedSimpArgs false

def rat_Inv.f (k : Nat) (a0_0 : Bool) (l0_1 : List Int) (l0_2 : List Int) : Option (Bool × List Int × List Int × Int) := (nat_Bits.f k l0_1).bind fun t908 => (if t908 = 0 then (some (false, ([] : List Int), ([] : List Int), 4)) else ((nat_Trim.f k l0_2).bind fun t909 => ((nat_Trim.f k l0_1).bind fun t912 => (some (a0_0, t909, t912, 0)))))

def rat_lowest.f (k : Nat) (a0 : Bool) (l1 : List Int) (l2 : List Int) : Option (Bool × List Int × List Int) := (gcd_Reduce.f k l1 l2).bind fun bt300 => (if a0 = true then (some (decide ((bt300.1.length : Int) > 0), bt300.1, bt300.2)) else (some (false, bt300.1, bt300.2)))

def rat_Make.f (k : Nat) (a0 : Bool) (l1 : List Int) (l2 : List Int) : Option (Bool × List Int × List Int × Int) := (nat_Bits.f k l2).bind fun t307 => (if t307 = 0 then (some (false, ([] : List Int), ([] : List Int), 4)) else ((rat_lowest.f k a0 l1 l2).bind fun bt308 => (some (bt308.1, bt308.2.1, bt308.2.2, 0))))

def rat_Sign.f (k : Nat) (a0_0 : Bool) (l0_1 : List Int) (l0_2 : List Int) : Option (Int) := (nat_Bits.f k l0_1).bind fun t536 => (if t536 = 0 then (some 0) else (if a0_0 = true then (some (-1)) else (some 1)))

def rat_Neg.f (k : Nat) (a0_0 : Bool) (l0_1 : List Int) (l0_2 : List Int) : Option (Bool × List Int × List Int) := if a0_0 = true then ((nat_Trim.f k l0_1).bind fun t1061 => ((nat_Trim.f k l0_2).bind fun t1064 => (some (false, t1061, t1064)))) else ((nat_Bits.f k l0_1).bind fun t1067 => ((nat_Trim.f k l0_1).bind fun t1068 => ((nat_Trim.f k l0_2).bind fun t1071 => (some (decide (t1067 > 0), t1068, t1071)))))

def rat_one.f  : Option (List Int) := some (([1] : List Int))

def rat_Of.f (k : Nat) (a0 : Int) : Option (Bool × List Int × List Int) := if a0 < 0 then ((nat_Of.f k (IntKind.u64.wrap (-(IntKind.u64.wrap (a0))))).bind fun t319 => ((rat_one.f).bind fun t322 => (some (true, t319, t322)))) else ((nat_Of.f k (IntKind.u64.wrap (a0))).bind fun t325 => ((rat_one.f).bind fun t328 => (some (false, t325, t328))))

end Go.Proofs.Ytldcgclbgbhffaa.P
