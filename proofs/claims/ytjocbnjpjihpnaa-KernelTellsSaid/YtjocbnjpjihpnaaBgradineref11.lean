/- Functions of one package as Lean functions, and walks: written by a program for this claim. -/
import Derived.Test.YtjocbnjpjihpnaaFbase
import Derived.Test.YtjocbnjpjihpnaaBgradineref02
import Derived.Test.YtjocbnjpjihpnaaBgradineref10
import Derived.Test.YtjocbnjpjihpnaaBgradineref09
namespace Go.Proofs.Ytjocbnjpjihpnaa.P
open Go.RowKit Go.Proofs.YtjocbnjpjihpnaaW.PrintWords Go.Proofs.YtjocbnjpjihpnaaW.PrintLast Go.Proofs.YtjocbnjpjihpnaaW.PrintMore
attribute [local go_sem] max2_int min2_int max_two min_two max_three min_three max_four min_four   -- for this text's walks alone
set_option linter.unusedVariables false
set_option linter.unusedSimpArgs false

def gradineref11_numbers.f (k : Nat) (a0 : Int) (a1 : Int) : Option (Int) := (gradineref09_Parts.f a0).bind fun bt1216 => ((gradineref09_Parts.f a1).bind fun bt1218 => ((gradineref02_Shl.f k (([bt1216.1] : List Int)) (wrap64 (bt1216.2 - (mn bt1216.2 bt1218.2)))).bind fun t1223 => ((gradineref02_Shl.f k (([bt1218.1] : List Int)) (wrap64 (bt1218.2 - (mn bt1216.2 bt1218.2)))).bind fun t1229 => ((gradineref09_Neg.f a0).bind fun t1232 => ((gradineref09_Neg.f a1).bind fun t1233 => (if (t1232 == t1233) = true then ((gradineref02_Add.f k t1223 t1229).bind fun t1234 => ((gradineref10_Of.f k t1232 t1234 (mn bt1216.2 bt1218.2)).bind fun t1237 => (some t1237))) else ((gradineref02_Cmp.f k t1223 t1229).bind fun t1238 => (if t1238 = 0 then (some 0) else (if t1238 > 0 then ((gradineref02_Sub.f k t1223 t1229).bind fun t1239 => ((gradineref10_Of.f k t1232 t1239 (mn bt1216.2 bt1218.2)).bind fun t1242 => (some t1242))) else ((gradineref02_Sub.f k t1229 t1223).bind fun t1243 => ((gradineref10_Of.f k t1233 t1243 (mn bt1216.2 bt1218.2)).bind fun t1246 => (some t1246))))))))))))

def gradineref11_Add.j0 : Nat → Int → Int → Int → Int → Bool → Option (Int)
 | 0, _, _, _, _, _ => none
 | k + 1, x0, x1, x5, x6, x29 => if x29 = true then ((gradineref09_Nan.f).bind fun t1249 => (some t1249)) else (if x5 = 3 then (some x0) else (if x6 = 3 then (some x1) else ((gradineref11_numbers.f k x0 x1).bind fun t1250 => (some t1250))))
def gradineref11_Add.f (k : Nat) (a0 : Int) (a1 : Int) : Option (Int) := (gradineref09_Kind.f a0).bind fun t1247 => ((gradineref09_Kind.f a1).bind fun t1248 => (if t1247 = 4 then (gradineref11_Add.j0 k a0 a1 t1247 t1248 true) else (if t1248 = 4 then (gradineref11_Add.j0 k a0 a1 t1247 t1248 true) else (if t1247 = 3 then (if t1248 = 3 then (gradineref11_Add.j0 k a0 a1 t1247 t1248 (a0 != a1)) else (gradineref11_Add.j0 k a0 a1 t1247 t1248 false)) else (gradineref11_Add.j0 k a0 a1 t1247 t1248 false)))))

def gradineref11_Sub.f (k : Nat) (a0 : Int) (a1 : Int) : Option (Int) := (gradineref09_Flip.f a1).bind fun t1253 => ((gradineref11_Add.f k a0 t1253).bind fun t1254 => (some t1254))

end Go.Proofs.Ytjocbnjpjihpnaa.P
