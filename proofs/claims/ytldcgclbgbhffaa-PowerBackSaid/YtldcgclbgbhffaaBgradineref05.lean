/- Functions of one package as Lean functions, and walks: written by a program for this claim. -/
import Derived.Test.YtldcgclbgbhffaaFbase
import Derived.Test.YtldcgclbgbhffaaBgradineref02
namespace Go.Proofs.Ytldcgclbgbhffaa.P
open Go.RowKit Go.Proofs.YtldcgclbgbhffaaW.PrintWords Go.Proofs.YtldcgclbgbhffaaW.PrintLast Go.Proofs.YtldcgclbgbhffaaW.PrintMore
attribute [local go_sem] max2_int min2_int max_two min_two max_three min_three max_four min_four   -- for this text's walks alone
set_option linter.unusedVariables false
set_option linter.unusedSimpArgs false

mutual
def gradineref05_Gcd.j0 : Nat → List Int → List Int → Bool → Option (List Int)
 | 0, _, _, _ => none
 | k + 1, x0, x1, x28 => if x28 = true then (if 0 < (x0.length : Int) then (if 0 < (x1.length : Int) then (gradineref05_Gcd.l0 k (rd x0 0) (rd x1 0)) else (none)) else (none)) else ((gradineref02_Even.f k x0).bind fun t700 => ((gradineref02_Even.f k x1).bind fun t701 => ((gradineref02_Even.f k x0).bind fun t702 => ((gradineref02_Shr.f k x0 t702).bind fun t703 => ((gradineref02_Even.f k x1).bind fun t706 => ((gradineref02_Shr.f k x1 t706).bind fun t707 => (gradineref05_Gcd.l1 k (mn t700 t701) t703 t707)))))))
def gradineref05_Gcd.l0 : Nat → Int → Int → Option (List Int)
 | 0, _, _ => none
 | k + 1, x5, x6 => if x6 > 0 then (if x6 = 0 then (none) else (gradineref05_Gcd.l0 k x6 (Int.tmod x5 x6))) else (some (([x5] : List Int)))
def gradineref05_Gcd.l1 : Nat → Int → List Int → List Int → Option (List Int)
 | 0, _, _, _ => none
 | k + 1, x7, x8, x9 => (gradineref02_Cmp.f k x8 x9).bind fun t710 => (if t710 = 0 then ((gradineref02_Shl.f k x8 x7).bind fun t711 => (some t711)) else (if t710 < 0 then ((gradineref02_Sub.f k x9 x8).bind fun t714 => ((gradineref02_Even.f k t714).bind fun t717 => ((gradineref02_Shr.f k t714 t717).bind fun t718 => (gradineref05_Gcd.l1 k x7 t718 x8)))) else ((gradineref02_Sub.f k x8 x9).bind fun t721 => ((gradineref02_Even.f k t721).bind fun t724 => ((gradineref02_Shr.f k t721 t724).bind fun t725 => (gradineref05_Gcd.l1 k x7 t725 x9))))))
end
def gradineref05_Gcd.f (k : Nat) (l0 : List Int) (l1 : List Int) : Option (List Int) := (gradineref02_Size.f k l0).bind fun t685 => (if t685 = 0 then ((gradineref02_Trim.f k l1).bind fun t686 => (some t686)) else ((gradineref02_Size.f k l1).bind fun t689 => (if t689 = 0 then ((gradineref02_Trim.f k l0).bind fun t690 => (some t690)) else ((gradineref02_Size.f k l0).bind fun t693 => (if t693 = 1 then ((gradineref02_Size.f k l1).bind fun t694 => (gradineref05_Gcd.j0 k l0 l1 (t694 == 1))) else (gradineref05_Gcd.j0 k l0 l1 false))))))

end Go.Proofs.Ytldcgclbgbhffaa.P
