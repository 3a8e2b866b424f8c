/- Functions of one package as Lean functions, and walks: written by a program for this claim. -/
import Derived.Test.YtjocbnjpjihpnaaFbase
import Derived.Test.YtjocbnjpjihpnaaBgradineref10
import Derived.Test.YtjocbnjpjihpnaaBgradineref12
import Derived.Test.YtjocbnjpjihpnaaBgradineref09
import Derived.Test.YtjocbnjpjihpnaaBgradineref13
import Derived.Test.YtjocbnjpjihpnaaBgradineref11
namespace Go.Proofs.Ytjocbnjpjihpnaa.P
open Go.RowKit Go.Proofs.YtjocbnjpjihpnaaW.PrintWords Go.Proofs.YtjocbnjpjihpnaaW.PrintLast Go.Proofs.YtjocbnjpjihpnaaW.PrintMore
attribute [local go_sem] max2_int min2_int max_two min_two max_three min_three max_four min_four   -- for this text's walks alone
set_option linter.unusedVariables false
set_option linter.unusedSimpArgs false

def gradineref14_by.f (k : Nat) (a0 : Int) : Option (Int) := (gradineref10_FromInt.f k a0).bind fun t1297 => ((gradineref12_Div.f k 4607182418800017408 t1297).bind fun t1298 => (some t1298))

def gradineref14_factorial.l0 : Nat → Int → Int → Int → Option (Int)
 | 0, _, _, _ => none
 | k + 1, x3, x5, x6 => if x6 < x5 then (gradineref14_factorial.l0 k (wrap64 (x3 * (wrap64 (x6 + 1)))) x5 (wrap64 (x6 + 1))) else (some x3)
def gradineref14_factorial.f (k : Nat) (a0 : Int) : Option (Int) := gradineref14_factorial.l0 k 1 a0 0

def gradineref14_Exp.l0 : Nat → Int → Int → Int → Int → Option (Int)
 | 0, _, _, _, _ => none
 | k + 1, x3, x6, x7, x38 => if x38 < 13 then ((gradineref12_Mul.f k x7 x6).bind fun t1317 => ((gradineref14_factorial.f k (wrap64 (12 - x38))).bind fun t1318 => ((gradineref14_by.f k t1318).bind fun t1319 => ((gradineref11_Add.f k t1317 t1319).bind fun t1320 => (gradineref14_Exp.l0 k x3 x6 t1320 (wrap64 (x38 + 1))))))) else ((gradineref13_Scale.f k x7 x3).bind fun t1316 => (some t1316))
def gradineref14_Exp.f (k : Nat) (a0 : Int) : Option (Int) := (gradineref09_Kind.f a0).bind fun t1299 => (if t1299 = 4 then ((gradineref09_Nan.f).bind fun t1300 => (some t1300)) else ((gradineref10_FromInt.f k 710).bind fun t1301 => ((gradineref13_Less.f k t1301 a0).bind fun t1302 => (if t1302 = true then ((gradineref09_Inf.f false).bind fun t1303 => (some t1303)) else ((gradineref10_FromInt.f k (-746)).bind fun t1304 => ((gradineref13_Less.f k a0 t1304).bind fun t1305 => (if t1305 = true then (some 0) else ((gradineref12_Mul.f k a0 4609176140021203710).bind fun t1306 => ((gradineref13_Near.f k t1306).bind fun bt1307 => ((gradineref10_FromInt.f k bt1307.1).bind fun t1309 => ((gradineref12_Mul.f k t1309 4604418534311723008).bind fun t1310 => ((gradineref11_Sub.f k a0 t1310).bind fun t1311 => ((gradineref12_Mul.f k t1309 4461442080421002358).bind fun t1312 => ((gradineref11_Sub.f k t1311 t1312).bind fun t1313 => ((gradineref14_factorial.f k 13).bind fun t1314 => ((gradineref14_by.f k t1314).bind fun t1315 => (gradineref14_Exp.l0 k bt1307.1 t1313 t1315 0)))))))))))))))))

mutual
def gradineref14_Log.j0 : Nat → Int → Bool → Option (Int)
 | 0, _, _ => none
 | k + 1, x0, x23 => if x23 = true then ((gradineref09_Nan.f).bind fun t1358 => (some t1358)) else ((gradineref09_Kind.f x0).bind fun t1359 => (if t1359 = 3 then (some x0) else (gradineref14_Log.l0 k x0 0)))
def gradineref14_Log.l0 : Nat → Int → Int → Option (Int)
 | 0, _, _ => none
 | k + 1, x3, x4 => (gradineref13_Less.f k x3 4607182418800017408).bind fun t1360 => (if t1360 = true then ((gradineref13_Scale.f k x3 1).bind fun t1361 => (gradineref14_Log.l0 k t1361 (wrap64 (x4 - 1)))) else (gradineref14_Log.l1 k x3 x4))
def gradineref14_Log.l1 : Nat → Int → Int → Option (Int)
 | 0, _, _ => none
 | k + 1, x3, x4 => (gradineref13_Less.f k x3 4611686018427387904).bind fun t1362 => (if t1362 = true then ((gradineref13_Less.f k 4609047870845172685 x3).bind fun t1364 => (if t1364 = true then ((gradineref13_Scale.f k x3 (-1)).bind fun t1365 => (gradineref14_Log.j3 k t1365 (wrap64 (x4 + 1)))) else (gradineref14_Log.j3 k x3 x4))) else ((gradineref13_Scale.f k x3 (-1)).bind fun t1363 => (gradineref14_Log.l1 k t1363 (wrap64 (x4 + 1)))))
def gradineref14_Log.j3 : Nat → Int → Int → Option (Int)
 | 0, _, _ => none
 | k + 1, x3, x4 => (gradineref11_Sub.f k x3 4607182418800017408).bind fun t1366 => ((gradineref11_Add.f k 4611686018427387904 t1366).bind fun t1367 => ((gradineref12_Div.f k t1366 t1367).bind fun t1368 => ((gradineref12_Mul.f k t1368 t1368).bind fun t1369 => ((gradineref14_by.f k 21).bind fun t1370 => (gradineref14_Log.l2 k x4 t1368 t1369 t1370 0)))))
def gradineref14_Log.l2 : Nat → Int → Int → Int → Int → Int → Option (Int)
 | 0, _, _, _, _, _ => none
 | k + 1, x4, x6, x7, x8, x59 => if x59 < 9 then ((gradineref12_Mul.f k x8 x7).bind fun t1371 => ((gradineref14_by.f k (wrap64 (19 - (wrap64 (2 * x59))))).bind fun t1372 => ((gradineref11_Add.f k t1371 t1372).bind fun t1373 => (gradineref14_Log.l2 k x4 x6 x7 t1373 (wrap64 (x59 + 1)))))) else ((gradineref11_Add.f k x6 x6).bind fun t1374 => ((gradineref12_Mul.f k x8 x7).bind fun t1375 => ((gradineref12_Mul.f k t1374 t1375).bind fun t1376 => ((gradineref11_Add.f k t1374 t1376).bind fun t1377 => (if x4 = 0 then (some t1377) else ((gradineref10_FromInt.f k x4).bind fun t1378 => ((gradineref12_Mul.f k t1378 4604418534311723008).bind fun t1379 => ((gradineref12_Mul.f k t1378 4461442080421002358).bind fun t1380 => ((gradineref11_Add.f k t1377 t1380).bind fun t1381 => ((gradineref11_Add.f k t1379 t1381).bind fun t1382 => (some t1382)))))))))))
end
def gradineref14_Log.f (k : Nat) (a0 : Int) : Option (Int) := (gradineref09_Kind.f a0).bind fun t1354 => (if t1354 = 0 then ((gradineref09_Inf.f true).bind fun t1355 => (some t1355)) else ((gradineref09_Kind.f a0).bind fun t1356 => (if t1356 = 4 then (gradineref14_Log.j0 k a0 true) else ((gradineref09_Neg.f a0).bind fun t1357 => (gradineref14_Log.j0 k a0 t1357)))))

end Go.Proofs.Ytjocbnjpjihpnaa.P
