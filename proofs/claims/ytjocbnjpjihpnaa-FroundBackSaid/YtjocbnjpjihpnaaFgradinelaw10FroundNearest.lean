/- Functions of the seat as Lean functions, and walks: written by a program for this claim. -/
import Derived.Test.YtjocbnjpjihpnaaFbase
import Derived.Test.YtjocbnjpjihpnaaFgradinelaw10same
import Derived.Test.YtjocbnjpjihpnaaBgradineref07
import Derived.Test.YtjocbnjpjihpnaaBgradineref09
import Derived.Test.YtjocbnjpjihpnaaBgradineref10
import Derived.Test.YtjocbnjpjihpnaaFgradinelaw10right
import Derived.Test.YtjocbnjpjihpnaaBfround
import Derived.Test.YtjocbnjpjihpnaaFgradinelaw10apart
namespace Go.Proofs.Ytjocbnjpjihpnaa.P
open Go.RowKit Go.Proofs.YtjocbnjpjihpnaaW.PrintWords Go.Proofs.YtjocbnjpjihpnaaW.PrintLast Go.Proofs.YtjocbnjpjihpnaaW.PrintMore
attribute [local go_sem] max2_int min2_int max_two min_two max_three min_three max_four min_four   -- for this text's walks alone
set_option linter.unusedVariables false
set_option linter.unusedSimpArgs false

def gradinelaw10_FroundNearest.j0 (k : Nat) (x1 : Int) (x5 : Int) (x26 : Bool) (x870000 : Bool) (x870001 : List Int) (x870002 : List Int) : Option (Bool) := if x26 = true then (some false) else ((gradineref09_Finite.f x5).bind fun t875 => (if t875 = true then ((gradineref09_Finite.f x1).bind fun t908 => (if t908 = true then ((gradineref10_ToRat.f k x5).bind fun bt910 => ((gradineref10_ToRat.f k x1).bind fun bt917 => ((gradinelaw10_apart.f k x870000 x870001 x870002 bt910.1 bt910.2.1 bt910.2.2).bind fun bt926 => ((gradinelaw10_apart.f k x870000 x870001 x870002 bt917.1 bt917.2.1 bt917.2.2).bind fun bt933 => ((gradineref07_Cmp.f k bt926.1 bt926.2.1 bt926.2.2 bt933.1 bt933.2.1 bt933.2.2).bind fun t940 => (if t940 ≤ 0 then (if t940 < 0 then ((gradinelaw10_same.f k).bind fun t941 => (some t941)) else ((gradineref07_Same.f k bt910.1 bt910.2.1 bt910.2.2 bt917.1 bt917.2.1 bt917.2.2).bind fun t942 => (if t942 = true then ((gradinelaw10_same.f k).bind fun t943 => (some t943)) else (if (Int.tmod x5 2) = 0 then ((gradinelaw10_same.f k).bind fun t944 => (some t944)) else (some false))))) else (some false))))))) else ((gradinelaw10_same.f k).bind fun t909 => (some t909)))) else ((gradineref10_ToRat.f k 9218868437227405311).bind fun bt876 => ((gradineref10_ToRat.f k 8975674057349398528).bind fun bt884 => ((gradineref07_Make.f k false x870001 x870002).bind fun bt892 => ((gradineref07_Add.f k bt876.1 bt876.2.1 bt876.2.2 bt884.1 bt884.2.1 bt884.2.2).bind fun bt899 => ((gradineref07_Cmp.f k bt892.1 bt892.2.1 bt892.2.2 bt899.1 bt899.2.1 bt899.2.2).bind fun t906 => (if t906 ≥ 0 then ((gradinelaw10_same.f k).bind fun t907 => (some t907)) else (some false)))))))))
def gradinelaw10_FroundNearest.f (k : Nat) (a0_0 : Bool) (l0_1 : List Int) (l0_2 : List Int) (a1 : Int) : Option (Bool) := (gradinelaw10_right.f k a0_0 l0_1 l0_2).bind fun t870 => (if t870 = true then ((fround_FromRat.f k a0_0 l0_1 l0_2).bind fun t872 => ((gradineref09_Kind.f t872).bind fun t873 => (if t873 = 4 then (gradinelaw10_FroundNearest.j0 k a1 t872 true a0_0 l0_1 l0_2) else ((gradineref09_Neg.f t872).bind fun t874 => (gradinelaw10_FroundNearest.j0 k a1 t872 (t874 != a0_0) a0_0 l0_1 l0_2))))) else ((gradinelaw10_same.f k).bind fun t871 => (some t871)))
end Go.Proofs.Ytjocbnjpjihpnaa.P
