/- Functions of one package as Lean functions, and walks: written by a program for this claim. -/
import Derived.Test.YtldcgclbgbhffaaFbase
import Derived.Test.YtldcgclbgbhffaaBgcd
import Derived.Test.YtldcgclbgbhffaaBnat
import Derived.Test.YtldcgclbgbhffaaBprod
namespace Go.Proofs.Ytldcgclbgbhffaa.P
open Go.RowKit Go.Proofs.YtldcgclbgbhffaaW.PrintWords Go.Proofs.YtldcgclbgbhffaaW.PrintLast Go.Proofs.YtldcgclbgbhffaaW.PrintMore
attribute [local go_sem] max2_int min2_int max_two min_two max_three min_three max_four min_four   -- for this text's walks alone
set_option linter.unusedVariables false
set_option linter.unusedSimpArgs false

def rat_lowest.f (k : Nat) (a0 : Bool) (l1 : List Int) (l2 : List Int) : Option (Bool × List Int × List Int) := (gcd_Reduce.f k l1 l2).bind fun bt300 => (if a0 = true then (some (decide ((bt300.1.length : Int) > 0), bt300.1, bt300.2)) else (some (false, bt300.1, bt300.2)))

def rat_same.f (k : Nat) (l0 : List Int) (l1 : List Int) : Option (Bool) := (nat_Right.f l0).bind fun t476 => (if t476 = true then ((nat_Right.f l1).bind fun t477 => (if t477 = true then ((nat_Cmp.f k l0 l1).bind fun t478 => (some (t478 == 0))) else (some false))) else (some false))

def rat_sum.f (k : Nat) (a0 : Bool) (l1 : List Int) (a2 : Bool) (l3 : List Int) : Option (Bool × List Int) := if (a0 == a2) = true then ((nat_Add.f k l1 l3).bind fun t479 => (some (a0, t479))) else ((nat_Sub.f k l1 l3).bind fun bt482 => (if bt482.2 = true then (some (a0, bt482.1)) else ((nat_Sub.f k l3 l1).bind fun bt486 => (some (a2, bt486.1)))))

def rat_one.f  : Option (List Int) := some (([1] : List Int))

def rat_safe.f (k : Nat) (l0 : List Int) : Option (List Int) := (nat_Bits.f k l0).bind fun t490 => (if t490 = 0 then ((rat_one.f).bind fun t491 => (some t491)) else (some l0))

def rat_Add.f (k : Nat) (a0_0 : Bool) (l0_1 : List Int) (l0_2 : List Int) (a1_0 : Bool) (l1_1 : List Int) (l1_2 : List Int) : Option (Bool × List Int × List Int) := (rat_same.f k l0_2 l1_2).bind fun t497 => (if t497 = true then ((rat_sum.f k a0_0 l0_1 a1_0 l1_1).bind fun bt498 => ((rat_safe.f k l0_2).bind fun t502 => ((rat_lowest.f k bt498.1 bt498.2 t502).bind fun bt505 => (some (bt505.1, bt505.2.1, bt505.2.2))))) else ((prod_Mul.f k l0_1 l1_2).bind fun t512 => ((prod_Mul.f k l1_1 l0_2).bind fun t515 => ((rat_sum.f k a0_0 t512 a1_0 t515).bind fun bt518 => ((prod_Mul.f k l0_2 l1_2).bind fun t522 => ((rat_safe.f k t522).bind fun t525 => ((rat_lowest.f k bt518.1 bt518.2 t525).bind fun bt528 => (some (bt528.1, bt528.2.1, bt528.2.2)))))))))

def rat_Sign.f (k : Nat) (a0_0 : Bool) (l0_1 : List Int) (l0_2 : List Int) : Option (Int) := (nat_Bits.f k l0_1).bind fun t536 => (if t536 = 0 then (some 0) else (if a0_0 = true then (some (-1)) else (some 1)))

def rat_Make.f (k : Nat) (a0 : Bool) (l1 : List Int) (l2 : List Int) : Option (Bool × List Int × List Int × Int) := (nat_Bits.f k l2).bind fun t307 => (if t307 = 0 then (some (false, ([] : List Int), ([] : List Int), 4)) else ((rat_lowest.f k a0 l1 l2).bind fun bt308 => (some (bt308.1, bt308.2.1, bt308.2.2, 0))))

def rat_Of.f (k : Nat) (a0 : Int) : Option (Bool × List Int × List Int) := if a0 < 0 then ((nat_Of.f k (IntKind.u64.wrap (-(IntKind.u64.wrap (a0))))).bind fun t319 => ((rat_one.f).bind fun t322 => (some (true, t319, t322)))) else ((nat_Of.f k (IntKind.u64.wrap (a0))).bind fun t325 => ((rat_one.f).bind fun t328 => (some (false, t325, t328))))

def rat_Inv.f (k : Nat) (a0_0 : Bool) (l0_1 : List Int) (l0_2 : List Int) : Option (Bool × List Int × List Int × Int) := (nat_Bits.f k l0_1).bind fun t908 => (if t908 = 0 then (some (false, ([] : List Int), ([] : List Int), 4)) else ((nat_Trim.f k l0_2).bind fun t909 => ((nat_Trim.f k l0_1).bind fun t912 => (some (a0_0, t909, t912, 0)))))

def rat_Mul.f (k : Nat) (a0_0 : Bool) (l0_1 : List Int) (l0_2 : List Int) (a1_0 : Bool) (l1_1 : List Int) (l1_2 : List Int) : Option (Bool × List Int × List Int) := (rat_safe.f k l1_2).bind fun t918 => ((gcd_Reduce.f k l0_1 t918).bind fun bt921 => ((rat_safe.f k l0_2).bind fun t927 => ((gcd_Reduce.f k l1_1 t927).bind fun bt930 => ((prod_Mul.f k bt921.1 bt930.1).bind fun t936 => ((prod_Mul.f k bt930.2 bt921.2).bind fun t939 => ((rat_lowest.f k (a0_0 != a1_0) t936 t939).bind fun bt942 => (some (bt942.1, bt942.2.1, bt942.2.2))))))))

def rat_Div.f (k : Nat) (a0_0 : Bool) (l0_1 : List Int) (l0_2 : List Int) (a1_0 : Bool) (l1_1 : List Int) (l1_2 : List Int) : Option (Bool × List Int × List Int × Int) := (rat_Inv.f k a1_0 l1_1 l1_2).bind fun bt952 => (if bt952.2.2.2 = 0 then ((rat_Mul.f k a0_0 l0_1 l0_2 bt952.1 bt952.2.1 bt952.2.2.1).bind fun bt961 => (some (bt961.1, bt961.2.1, bt961.2.2, 0))) else (some (false, ([] : List Int), ([] : List Int), bt952.2.2.2)))

def rat_Neg.f (k : Nat) (a0_0 : Bool) (l0_1 : List Int) (l0_2 : List Int) : Option (Bool × List Int × List Int) := if a0_0 = true then ((nat_Trim.f k l0_1).bind fun t1061 => ((nat_Trim.f k l0_2).bind fun t1064 => (some (false, t1061, t1064)))) else ((nat_Bits.f k l0_1).bind fun t1067 => ((nat_Trim.f k l0_1).bind fun t1068 => ((nat_Trim.f k l0_2).bind fun t1071 => (some (decide (t1067 > 0), t1068, t1071)))))

def rat_Sub.f (k : Nat) (a0_0 : Bool) (l0_1 : List Int) (l0_2 : List Int) (a1_0 : Bool) (l1_1 : List Int) (l1_2 : List Int) : Option (Bool × List Int × List Int) := (rat_Neg.f k a1_0 l1_1 l1_2).bind fun bt1077 => ((rat_Add.f k a0_0 l0_1 l0_2 bt1077.1 bt1077.2.1 bt1077.2.2).bind fun bt1084 => (some (bt1084.1, bt1084.2.1, bt1084.2.2)))

def rat_Cmp.f (k : Nat) (a0_0 : Bool) (l0_1 : List Int) (l0_2 : List Int) (a1_0 : Bool) (l1_1 : List Int) (l1_2 : List Int) : Option (Int) := (rat_Sub.f k a0_0 l0_1 l0_2 a1_0 l1_1 l1_2).bind fun bt1135 => ((rat_Sign.f k bt1135.1 bt1135.2.1 bt1135.2.2).bind fun t1142 => (some t1142))

end Go.Proofs.Ytldcgclbgbhffaa.P
