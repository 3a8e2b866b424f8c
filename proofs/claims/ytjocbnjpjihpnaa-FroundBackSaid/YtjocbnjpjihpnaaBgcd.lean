/- Functions of one package as Lean functions, and walks: written by a program for this claim. -/
import Derived.Test.YtjocbnjpjihpnaaFbase
import Derived.Test.YtjocbnjpjihpnaaBnat
import Derived.Test.YtjocbnjpjihpnaaBquot
namespace Go.Proofs.Ytjocbnjpjihpnaa.P
open Go.RowKit Go.Proofs.YtjocbnjpjihpnaaW.PrintWords Go.Proofs.YtjocbnjpjihpnaaW.PrintLast Go.Proofs.YtjocbnjpjihpnaaW.PrintMore
attribute [local go_sem] max2_int min2_int max_two min_two max_three min_three max_four min_four   -- for this text's walks alone
set_option linter.unusedVariables false
set_option linter.unusedSimpArgs false

def gcd_words.l0 : Nat → Int → Int → Option (Int)
 | 0, _, _ => none
 | k + 1, x0, x1 => if x1 = 0 then (some x0) else (gcd_words.l0 k x1 (Int.tmod x0 x1))
def gcd_words.f (k : Nat) (a0 : Int) (a1 : Int) : Option (Int) := gcd_words.l0 k a0 a1

def gcd_Gcd.l0 : Nat → List Int → List Int → Option (List Int)
 | 0, _, _ => none
 | k + 1, x0, x1 => if (x1.length : Int) > 1 then ((quot_Div.f k x0 x1).bind fun bt956 => (gcd_Gcd.l0 k x1 bt956.2.1)) else ((nat_Word.f k x1).bind fun bt963 => (if bt963.1 = 0 then (some x0) else ((quot_Word.f k x0 bt963.1).bind fun bt965 => ((gcd_words.f k bt963.1 bt965.2.1).bind fun t970 => ((nat_Of.f k t970).bind fun t971 => (some t971))))))
def gcd_Gcd.f (k : Nat) (l0 : List Int) (l1 : List Int) : Option (List Int) := (nat_Trim.f k l0).bind fun t950 => ((nat_Trim.f k l1).bind fun t953 => (gcd_Gcd.l0 k t950 t953))

def gcd_Reduce.f (k : Nat) (l0 : List Int) (l1 : List Int) : Option (List Int × List Int) := (gcd_Gcd.f k l0 l1).bind fun t974 => (if (t974.length : Int) = 0 then (some (([] : List Int), ([] : List Int))) else ((quot_Div.f k l0 t974).bind fun bt977 => ((quot_Div.f k l1 t974).bind fun bt984 => (some (bt977.1, bt984.1)))))

end Go.Proofs.Ytjocbnjpjihpnaa.P
