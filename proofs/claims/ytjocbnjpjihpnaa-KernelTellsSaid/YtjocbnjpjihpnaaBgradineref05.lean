/- Functions of one package as Lean functions, and walks: written by a program for this claim. -/
import Derived.Test.YtjocbnjpjihpnaaFbase
import Derived.Test.YtjocbnjpjihpnaaBgradineref02
import Derived.Test.YtjocbnjpjihpnaaBgradineref04
namespace Go.Proofs.Ytjocbnjpjihpnaa.P
open Go.RowKit Go.Proofs.YtjocbnjpjihpnaaW.PrintWords Go.Proofs.YtjocbnjpjihpnaaW.PrintLast Go.Proofs.YtjocbnjpjihpnaaW.PrintMore
attribute [local go_sem] max2_int min2_int max_two min_two max_three min_three max_four min_four   -- for this text's walks alone
set_option linter.unusedVariables false
set_option linter.unusedSimpArgs false

mutual
def gradineref05_Gcd.j0 : Nat → List Int → List Int → Bool → Option (List Int)
 | 0, _, _, _ => none
 | k + 1, x0, x1, x28 => if x28 = true then (if 0 < (x0.length : Int) then (if 0 < (x1.length : Int) then (gradineref05_Gcd.l0 k (rd x0 0) (rd x1 0)) else (none)) else (none)) else ((gradineref02_Even.f k x0).bind fun t418 => ((gradineref02_Even.f k x1).bind fun t419 => ((gradineref02_Even.f k x0).bind fun t420 => ((gradineref02_Shr.f k x0 t420).bind fun t421 => ((gradineref02_Even.f k x1).bind fun t424 => ((gradineref02_Shr.f k x1 t424).bind fun t425 => (gradineref05_Gcd.l1 k (mn t418 t419) t421 t425)))))))
def gradineref05_Gcd.l0 : Nat → Int → Int → Option (List Int)
 | 0, _, _ => none
 | k + 1, x5, x6 => if x6 > 0 then (if x6 = 0 then (none) else (gradineref05_Gcd.l0 k x6 (Int.tmod x5 x6))) else (some (([x5] : List Int)))
def gradineref05_Gcd.l1 : Nat → Int → List Int → List Int → Option (List Int)
 | 0, _, _, _ => none
 | k + 1, x7, x8, x9 => (gradineref02_Cmp.f k x8 x9).bind fun t428 => (if t428 = 0 then ((gradineref02_Shl.f k x8 x7).bind fun t429 => (some t429)) else (if t428 < 0 then ((gradineref02_Sub.f k x9 x8).bind fun t432 => ((gradineref02_Even.f k t432).bind fun t435 => ((gradineref02_Shr.f k t432 t435).bind fun t436 => (gradineref05_Gcd.l1 k x7 t436 x8)))) else ((gradineref02_Sub.f k x8 x9).bind fun t439 => ((gradineref02_Even.f k t439).bind fun t442 => ((gradineref02_Shr.f k t439 t442).bind fun t443 => (gradineref05_Gcd.l1 k x7 t443 x9))))))
end
def gradineref05_Gcd.f (k : Nat) (l0 : List Int) (l1 : List Int) : Option (List Int) := (gradineref02_Size.f k l0).bind fun t403 => (if t403 = 0 then ((gradineref02_Trim.f k l1).bind fun t404 => (some t404)) else ((gradineref02_Size.f k l1).bind fun t407 => (if t407 = 0 then ((gradineref02_Trim.f k l0).bind fun t408 => (some t408)) else ((gradineref02_Size.f k l0).bind fun t411 => (if t411 = 1 then ((gradineref02_Size.f k l1).bind fun t412 => (gradineref05_Gcd.j0 k l0 l1 (t412 == 1))) else (gradineref05_Gcd.j0 k l0 l1 false))))))

def gradineref05_Part.f (k : Nat) (l0 : List Int) (l1 : List Int) : Option (List Int) := (gradineref02_Size.f k l1).bind fun t502 => (if t502 = 0 then (some ([] : List Int)) else ((gradineref02_Cmp.f k l1 (([1] : List Int))).bind fun t506 => (if t506 = 0 then ((gradineref02_Trim.f k l0).bind fun t507 => (some t507)) else ((gradineref04_Div.f k l0 l1).bind fun bt510 => (some bt510.1)))))

end Go.Proofs.Ytjocbnjpjihpnaa.P
