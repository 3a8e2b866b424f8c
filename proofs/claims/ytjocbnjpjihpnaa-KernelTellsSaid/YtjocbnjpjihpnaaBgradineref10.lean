/- Functions of one package as Lean functions, and walks: written by a program for this claim. -/
import Derived.Test.YtjocbnjpjihpnaaFbase
import Derived.Test.YtjocbnjpjihpnaaBgradineref09
import Derived.Test.YtjocbnjpjihpnaaBgradineref02
import Derived.Test.YtjocbnjpjihpnaaBgradineref07
namespace Go.Proofs.Ytjocbnjpjihpnaa.P
open Go.RowKit Go.Proofs.YtjocbnjpjihpnaaW.PrintWords Go.Proofs.YtjocbnjpjihpnaaW.PrintLast Go.Proofs.YtjocbnjpjihpnaaW.PrintMore
attribute [local go_sem] max2_int min2_int max_two min_two max_three min_three max_four min_four   -- for this text's walks alone
set_option linter.unusedVariables false
set_option linter.unusedSimpArgs false

mutual
def gradineref10_Of.j0 : Nat → Bool → Int → List Int → Option (Int)
 | 0, _, _, _ => none
 | k + 1, x0, x8, x9 => if (x9.length : Int) > 0 then (if 0 < (x9.length : Int) then (gradineref10_Of.j1 k x0 x8 (rd x9 0)) else (none)) else (gradineref10_Of.j1 k x0 x8 0)
def gradineref10_Of.j1 : Nat → Bool → Int → Int → Option (Int)
 | 0, _, _, _ => none
 | k + 1, x0, x8, x12 => (gradineref09_Make.f k x0 x12 x8).bind fun bt248 => (if bt248.2 = true then (some bt248.1) else ((gradineref09_Inf.f x0).bind fun t250 => (some t250)))
end
def gradineref10_Of.f (k : Nat) (a0 : Bool) (l1 : List Int) (a2 : Int) : Option (Int) := (gradineref02_Trim.f k l1).bind fun t204 => (if (t204.length : Int) = 0 then ((gradineref09_Signed.f a0 0).bind fun t207 => (some t207)) else ((gradineref02_Bits.f k t204).bind fun t208 => (if a2 > 2000 then ((gradineref09_Inf.f a0).bind fun t209 => (some t209)) else (if a2 < (wrap64 ((-1200) - t208)) then ((gradineref09_Signed.f a0 0).bind fun t210 => (some t210)) else (if (mx (wrap64 ((wrap64 (t208 + a2)) - 53)) (-1074)) > 971 then ((gradineref09_Inf.f a0).bind fun t211 => (some t211)) else ((gradineref02_Shl.f k t204 (wrap64 (a2 - (mx (wrap64 ((wrap64 (t208 + a2)) - 53)) (-1074))))).bind fun t212 => (if a2 < (mx (wrap64 ((wrap64 (t208 + a2)) - 53)) (-1074)) then ((gradineref02_Shr.f k t204 (wrap64 ((mx (wrap64 ((wrap64 (t208 + a2)) - 53)) (-1074)) - a2))).bind fun t215 => ((gradineref02_Shl.f k t215 (wrap64 ((mx (wrap64 ((wrap64 (t208 + a2)) - 53)) (-1074)) - a2))).bind fun t218 => ((gradineref02_Sub.f k t204 t218).bind fun t221 => ((gradineref02_Shl.f k t221 1).bind fun t224 => ((gradineref02_Shl.f k (([1] : List Int)) (wrap64 ((mx (wrap64 ((wrap64 (t208 + a2)) - 53)) (-1074)) - a2))).bind fun t230 => ((gradineref02_Cmp.f k t224 t230).bind fun t233 => (if t233 > 0 then ((gradineref02_Add.f k t215 (([1] : List Int))).bind fun t237 => (gradineref10_Of.j0 k a0 (mx (wrap64 ((wrap64 (t208 + a2)) - 53)) (-1074)) t237)) else (if t233 = 0 then ((gradineref02_Bit.f t215 0).bind fun t240 => (if t240 = true then ((gradineref02_Add.f k t215 (([1] : List Int))).bind fun t244 => (gradineref10_Of.j0 k a0 (mx (wrap64 ((wrap64 (t208 + a2)) - 53)) (-1074)) t244)) else (gradineref10_Of.j0 k a0 (mx (wrap64 ((wrap64 (t208 + a2)) - 53)) (-1074)) t215))) else (gradineref10_Of.j0 k a0 (mx (wrap64 ((wrap64 (t208 + a2)) - 53)) (-1074)) t215))))))))) else (gradineref10_Of.j0 k a0 (mx (wrap64 ((wrap64 (t208 + a2)) - 53)) (-1074)) t212))))))))

def gradineref10_FromInt.f (k : Nat) (a0 : Int) : Option (Int) := (gradineref07_Of.f k a0).bind fun bt557 => ((gradineref10_Of.f k bt557.1 bt557.2.1 0).bind fun t565 => (some t565))

def gradineref10_Half.f (k : Nat) (l0 : List Int) : Option (List Int) := (gradineref02_Shl.f k l0 1).bind fun t251 => ((gradineref02_Add.f k t251 (([1] : List Int))).bind fun t257 => (some t257))

def gradineref10_More.f (k : Nat) (a0 : Bool) (l1 : List Int) (a2 : Int) (a3 : Bool) : Option (Int) := if a3 = true then ((gradineref10_Half.f k l1).bind fun t260 => ((gradineref10_Of.f k a0 t260 ((mn (mx a2 (-1099511627776)) 1099511627776) - 1)).bind fun t263 => (some t263))) else ((gradineref10_Of.f k a0 l1 (mn (mx a2 (-1099511627776)) 1099511627776)).bind fun t264 => (some t264))

end Go.Proofs.Ytjocbnjpjihpnaa.P
