/- Functions of one package as Lean functions, and walks: written by a program for this claim. -/
import Derived.Test.YtjocbnjpjihpnaaFbase
import Derived.Test.YtjocbnjpjihpnaaBgradineref09
import Derived.Test.YtjocbnjpjihpnaaBgradineref10
import Derived.Test.YtjocbnjpjihpnaaBgradineref03
import Derived.Test.YtjocbnjpjihpnaaBgradineref01
namespace Go.Proofs.Ytjocbnjpjihpnaa.P
open Go.RowKit Go.Proofs.YtjocbnjpjihpnaaW.PrintWords Go.Proofs.YtjocbnjpjihpnaaW.PrintLast Go.Proofs.YtjocbnjpjihpnaaW.PrintMore
attribute [local go_sem] max2_int min2_int max_two min_two max_three min_three max_four min_four   -- for this text's walks alone
set_option linter.unusedVariables false
set_option linter.unusedSimpArgs false

mutual
def gradineref12_Mul.j0 : Nat → Int → Int → Int → Int → Bool → Bool → Option (Int)
 | 0, _, _, _, _, _, _ => none
 | k + 1, x0, x1, x5, x6, x7, x42 => if x42 = true then ((gradineref09_Nan.f).bind fun t1259 => (some t1259)) else (if x5 = 3 then (gradineref12_Mul.j1 k x0 x1 x7 true) else (gradineref12_Mul.j1 k x0 x1 x7 (x6 == 3)))
def gradineref12_Mul.j1 : Nat → Int → Int → Bool → Bool → Option (Int)
 | 0, _, _, _, _ => none
 | k + 1, x0, x1, x7, x49 => if x49 = true then ((gradineref09_Inf.f x7).bind fun t1260 => (some t1260)) else ((gradineref09_Parts.f x0).bind fun bt1261 => ((gradineref09_Parts.f x1).bind fun bt1263 => ((gradineref03_Mul.f k (([bt1261.1] : List Int)) (([bt1263.1] : List Int))).bind fun t1271 => ((gradineref10_Of.f k x7 t1271 (wrap64 (bt1261.2 + bt1263.2))).bind fun t1274 => (some t1274)))))
end
def gradineref12_Mul.f (k : Nat) (a0 : Int) (a1 : Int) : Option (Int) := (gradineref09_Kind.f a0).bind fun t1255 => ((gradineref09_Kind.f a1).bind fun t1256 => ((gradineref09_Neg.f a0).bind fun t1257 => ((gradineref09_Neg.f a1).bind fun t1258 => (if t1255 = 4 then (gradineref12_Mul.j0 k a0 a1 t1255 t1256 (!(t1257 == t1258)) true) else (if t1256 = 4 then (gradineref12_Mul.j0 k a0 a1 t1255 t1256 (!(t1257 == t1258)) true) else (if t1255 = 3 then (if t1256 = 0 then (gradineref12_Mul.j0 k a0 a1 t1255 t1256 (!(t1257 == t1258)) true) else (if t1255 = 0 then (gradineref12_Mul.j0 k a0 a1 t1255 t1256 (!(t1257 == t1258)) (t1256 == 3)) else (gradineref12_Mul.j0 k a0 a1 t1255 t1256 (!(t1257 == t1258)) false))) else (if t1255 = 0 then (gradineref12_Mul.j0 k a0 a1 t1255 t1256 (!(t1257 == t1258)) (t1256 == 3)) else (gradineref12_Mul.j0 k a0 a1 t1255 t1256 (!(t1257 == t1258)) false))))))))

mutual
def gradineref12_Div.j0 : Nat → Int → Int → Int → Int → Bool → Bool → Option (Int)
 | 0, _, _, _, _, _, _ => none
 | k + 1, x0, x1, x5, x6, x7, x45 => if x45 = true then ((gradineref09_Nan.f).bind fun t1283 => (some t1283)) else (if x5 = 3 then (gradineref12_Div.j1 k x0 x1 x5 x6 x7 true) else (gradineref12_Div.j1 k x0 x1 x5 x6 x7 (x6 == 0)))
def gradineref12_Div.j1 : Nat → Int → Int → Int → Int → Bool → Bool → Option (Int)
 | 0, _, _, _, _, _, _ => none
 | k + 1, x0, x1, x5, x6, x7, x52 => if x52 = true then ((gradineref09_Inf.f x7).bind fun t1284 => (some t1284)) else (if x5 = 0 then (gradineref12_Div.j2 k x0 x1 x7 true) else (gradineref12_Div.j2 k x0 x1 x7 (x6 == 3)))
def gradineref12_Div.j2 : Nat → Int → Int → Bool → Bool → Option (Int)
 | 0, _, _, _, _ => none
 | k + 1, x0, x1, x7, x60 => if x60 = true then ((gradineref09_Signed.f x7 0).bind fun t1285 => (some t1285)) else ((gradineref09_Parts.f x0).bind fun bt1286 => ((gradineref09_Parts.f x1).bind fun bt1288 => (gradineref12_Div.l0 k x7 bt1286.1 bt1286.2 bt1288.1 bt1288.2)))
def gradineref12_Div.l0 : Nat → Bool → Int → Int → Int → Int → Option (Int)
 | 0, _, _, _, _, _ => none
 | k + 1, x7, x8, x9, x10, x11 => if x8 < 4503599627370496 then (gradineref12_Div.l0 k x7 (IntKind.u64.wrap (x8 * 2)) (wrap64 (x9 - 1)) x10 x11) else (gradineref12_Div.l1 k x7 x8 x9 x10 x11)
def gradineref12_Div.l1 : Nat → Bool → Int → Int → Int → Int → Option (Int)
 | 0, _, _, _, _, _ => none
 | k + 1, x7, x8, x9, x10, x11 => if x10 < 4503599627370496 then (gradineref12_Div.l1 k x7 x8 x9 (IntKind.u64.wrap (x10 * 2)) (wrap64 (x11 - 1))) else ((gradineref01_Div.f k (IntKind.u64.wrap (x8 * 1024)) 0 (IntKind.u64.wrap (x10 * 2048))).bind fun bt1290 => ((gradineref10_More.f k x7 (([bt1290.1] : List Int)) (wrap64 ((wrap64 (x9 - x11)) - 63)) (decide (bt1290.2.1 > 0))).bind fun t1296 => (some t1296)))
end
def gradineref12_Div.f (k : Nat) (a0 : Int) (a1 : Int) : Option (Int) := (gradineref09_Kind.f a0).bind fun t1279 => ((gradineref09_Kind.f a1).bind fun t1280 => ((gradineref09_Neg.f a0).bind fun t1281 => ((gradineref09_Neg.f a1).bind fun t1282 => (if t1279 = 4 then (gradineref12_Div.j0 k a0 a1 t1279 t1280 (!(t1281 == t1282)) true) else (if t1280 = 4 then (gradineref12_Div.j0 k a0 a1 t1279 t1280 (!(t1281 == t1282)) true) else (if t1279 = 3 then (if t1280 = 3 then (gradineref12_Div.j0 k a0 a1 t1279 t1280 (!(t1281 == t1282)) true) else (if t1279 = 0 then (gradineref12_Div.j0 k a0 a1 t1279 t1280 (!(t1281 == t1282)) (t1280 == 0)) else (gradineref12_Div.j0 k a0 a1 t1279 t1280 (!(t1281 == t1282)) false))) else (if t1279 = 0 then (gradineref12_Div.j0 k a0 a1 t1279 t1280 (!(t1281 == t1282)) (t1280 == 0)) else (gradineref12_Div.j0 k a0 a1 t1279 t1280 (!(t1281 == t1282)) false))))))))

end Go.Proofs.Ytjocbnjpjihpnaa.P
