/- Functions of one package as Lean functions, and walks: written by a program for this claim. -/
import Derived.Test.YtjocbnjpjihpnaaFbase
import Derived.Test.YtjocbnjpjihpnaaBgradineref02
import Derived.Test.YtjocbnjpjihpnaaBgradineref09
import Derived.Test.YtjocbnjpjihpnaaBgradineref10
namespace Go.Proofs.Ytjocbnjpjihpnaa.P
open Go.RowKit Go.Proofs.YtjocbnjpjihpnaaW.PrintWords Go.Proofs.YtjocbnjpjihpnaaW.PrintLast Go.Proofs.YtjocbnjpjihpnaaW.PrintMore
attribute [local go_sem] max2_int min2_int max_two min_two max_three min_three max_four min_four   -- for this text's walks alone
set_option linter.unusedVariables false
set_option linter.unusedSimpArgs false

mutual
def gradineref13_Near.j0 : Nat → Int → Int → Int → List Int → Int → Option (Int × Bool)
 | 0, _, _, _, _, _ => none
 | k + 1, x0, x4, x5, x6, x7 => if x5 < 0 then ((gradineref02_Shl.f k x6 (wrap64 (-x5))).bind fun t1186 => ((gradineref02_Sub.f k (([x4] : List Int)) t1186).bind fun t1189 => ((gradineref02_Shl.f k t1189 1).bind fun t1192 => ((gradineref02_Shl.f k (([1] : List Int)) (wrap64 (-x5))).bind fun t1198 => ((gradineref02_Cmp.f k t1192 t1198).bind fun t1201 => (if t1201 > 0 then (gradineref13_Near.j1 k x0 x7 true) else (if t1201 = 0 then (gradineref13_Near.j1 k x0 x7 ((Int.tmod x7 2) == 1)) else (gradineref13_Near.j1 k x0 x7 false)))))))) else ((gradineref09_Neg.f x0).bind fun t1204 => (if t1204 = true then (some (wrap64 (-x7), true)) else (some (x7, true))))
def gradineref13_Near.j1 : Nat → Int → Int → Bool → Option (Int × Bool)
 | 0, _, _, _ => none
 | k + 1, x0, x7, x61 => if x61 = true then ((gradineref09_Neg.f x0).bind fun t1202 => (if t1202 = true then (some (wrap64 (-(wrap64 (x7 + 1))), true)) else (some (wrap64 (x7 + 1), true)))) else ((gradineref09_Neg.f x0).bind fun t1203 => (if t1203 = true then (some (wrap64 (-x7), true)) else (some (x7, true))))
end
def gradineref13_Near.f (k : Nat) (a0 : Int) : Option (Int × Bool) := (gradineref09_Finite.f a0).bind fun t1169 => (if t1169 = true then ((gradineref09_Parts.f a0).bind fun bt1170 => ((gradineref02_Shl.f k (([bt1170.1] : List Int)) bt1170.2).bind fun t1175 => ((gradineref02_Shr.f k t1175 (wrap64 (-bt1170.2))).bind fun t1178 => ((gradineref02_Bits.f k t1178).bind fun t1181 => (if t1181 > 62 then (some (0, false)) else (if (t1178.length : Int) > 0 then (if 0 < (t1178.length : Int) then (gradineref13_Near.j0 k a0 bt1170.1 bt1170.2 t1178 (wrap64 (rd t1178 0))) else (none)) else (gradineref13_Near.j0 k a0 bt1170.1 bt1170.2 t1178 0))))))) else (some (0, false)))

def gradineref13_Scale.f (k : Nat) (a0 : Int) (a1 : Int) : Option (Int) := (gradineref09_Finite.f a0).bind fun t1207 => (if t1207 = true then ((gradineref09_Parts.f a0).bind fun bt1208 => ((gradineref09_Neg.f a0).bind fun t1210 => ((gradineref10_Of.f k t1210 (([bt1208.1] : List Int)) (wrap64 (bt1208.2 + (mn (mx a1 (-9000)) 9000)))).bind fun t1214 => (some t1214)))) else ((gradineref09_Clean.f a0).bind fun t1215 => (some t1215)))

mutual
def gradineref13_Less.j0 : Nat → Int → Int → Bool → Option (Bool)
 | 0, _, _, _ => none
 | k + 1, x0, x1, x14 => if x14 = true then (some false) else ((gradineref09_Neg.f x0).bind fun t1277 => ((gradineref09_Neg.f x1).bind fun t1278 => (if t1277 = true then (gradineref13_Less.j1 k x0 x1 t1277 t1278 t1278) else (gradineref13_Less.j1 k x0 x1 t1277 t1278 false))))
def gradineref13_Less.j1 : Nat → Int → Int → Bool → Bool → Bool → Option (Bool)
 | 0, _, _, _, _, _ => none
 | k + 1, x0, x1, x5, x6, x22 => if x22 = true then (some (decide (x1 < x0))) else (if x5 = true then (if x0 = 9223372036854775808 then (some (x1 != 0)) else (some true)) else (if x6 = true then (some false) else (some (decide (x0 < x1)))))
end
def gradineref13_Less.f (k : Nat) (a0 : Int) (a1 : Int) : Option (Bool) := (gradineref09_Kind.f a0).bind fun t1275 => (if t1275 = 4 then (gradineref13_Less.j0 k a0 a1 true) else ((gradineref09_Kind.f a1).bind fun t1276 => (gradineref13_Less.j0 k a0 a1 (t1276 == 4))))

end Go.Proofs.Ytjocbnjpjihpnaa.P
