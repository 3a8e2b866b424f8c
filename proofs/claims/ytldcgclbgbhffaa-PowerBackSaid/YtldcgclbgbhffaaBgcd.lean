/- Functions of one package as Lean functions, and walks: written by a program for this claim. -/
import Derived.Test.YtldcgclbgbhffaaFbase
import Derived.Test.YtldcgclbgbhffaaBnat
import Derived.Test.YtldcgclbgbhffaaBquot
namespace Go.Proofs.Ytldcgclbgbhffaa.P
open Go.RowKit Go.Proofs.YtldcgclbgbhffaaW.PrintWords Go.Proofs.YtldcgclbgbhffaaW.PrintLast Go.Proofs.YtldcgclbgbhffaaW.PrintMore
attribute [local go_sem] max2_int min2_int max_two min_two max_three min_three max_four min_four   -- for this text's walks alone
set_option linter.unusedVariables false
set_option linter.unusedSimpArgs false

def gcd_words.l0 : Nat → Int → Int → Option (Int)
 | 0, _, _ => none
 | k + 1, x0, x1 => if x1 = 0 then (some x0) else (gcd_words.l0 k x1 (Int.tmod x0 x1))
def gcd_words.f (k : Nat) (a0 : Int) (a1 : Int) : Option (Int) := gcd_words.l0 k a0 a1

def gcd_Gcd.l0 : Nat → List Int → List Int → Option (List Int)
 | 0, _, _ => none
 | k + 1, x0, x1 => if (x1.length : Int) > 1 then ((quot_Div.f k x0 x1).bind fun bt264 => (gcd_Gcd.l0 k x1 bt264.2.1)) else ((nat_Word.f k x1).bind fun bt271 => (if bt271.1 = 0 then (some x0) else ((quot_Word.f k x0 bt271.1).bind fun bt273 => ((gcd_words.f k bt271.1 bt273.2.1).bind fun t278 => ((nat_Of.f k t278).bind fun t279 => (some t279))))))
def gcd_Gcd.f (k : Nat) (l0 : List Int) (l1 : List Int) : Option (List Int) := (nat_Trim.f k l0).bind fun t258 => ((nat_Trim.f k l1).bind fun t261 => (gcd_Gcd.l0 k t258 t261))

def gcd_Reduce.f (k : Nat) (l0 : List Int) (l1 : List Int) : Option (List Int × List Int) := (gcd_Gcd.f k l0 l1).bind fun t282 => (if (t282.length : Int) = 0 then (some (([] : List Int), ([] : List Int))) else ((quot_Div.f k l0 t282).bind fun bt285 => ((quot_Div.f k l1 t282).bind fun bt292 => (some (bt285.1, bt292.1)))))

end Go.Proofs.Ytldcgclbgbhffaa.P
