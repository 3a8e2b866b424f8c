/- Functions of one package as Lean functions, and walks: written by a program for this claim. -/
import Derived.Test.YtjocbnjpjihpnaaFbase
import Derived.Test.YtjocbnjpjihpnaaBfround
import Derived.Test.YtjocbnjpjihpnaaBfprod
import Derived.Test.YtjocbnjpjihpnaaBfbits
import Derived.Test.YtjocbnjpjihpnaaBfcmp
import Derived.Test.YtjocbnjpjihpnaaBfsum
import Derived.Test.YtjocbnjpjihpnaaBlimb
namespace Go.Proofs.Ytjocbnjpjihpnaa.P
open Go.RowKit Go.Proofs.YtjocbnjpjihpnaaW.PrintWords Go.Proofs.YtjocbnjpjihpnaaW.PrintLast Go.Proofs.YtjocbnjpjihpnaaW.PrintMore
attribute [local go_sem] max2_int min2_int max_two min_two max_three min_three max_four min_four   -- for this text's walks alone
set_option linter.unusedVariables false
set_option linter.unusedSimpArgs false

def kernel_part.f (k : Nat) (a0 : Int) : Option (Int) := (fround_FromInt.f k a0).bind fun t1153 => ((fprod_Div.f k 4607182418800017408 t1153).bind fun t1154 => (some t1154))

def kernel_Exp.l1 : Nat → Int → Int → List Int → Int → Int → Option (Int)
 | 0, _, _, _, _, _ => none
 | k + 1, e, r, fs, p, i => if i ≥ 0 then ((fprod_Mul.f k p r).bind fun t => (if 0 ≤ i then (if i < 14 then (if i < (fs.length : Int) then ((kernel_part.f k (rd fs i)).bind fun u => ((fsum_Add.f k t u).bind fun v => (kernel_Exp.l1 k e r fs v (wrap64 (i - 1))))) else none) else none) else none)) else ((fcmp_Scale.f k p e).bind fun s => (some s))
def kernel_Exp.l0 : Nat → Int → Int → List Int → Int → Option (Int)
 | 0, _, _, _, _ => none
 | k + 1, e, r, fs, i => if i < 13 then (if 0 ≤ (wrap64 (i + 1)) then (if (wrap64 (i + 1)) < 14 then (if (wrap64 (i + 1)) < (fs.length : Int) then (if 0 ≤ i then (if i < 14 then (if i < (fs.length : Int) then (kernel_Exp.l0 k e r (fs.set ((wrap64 (i + 1)) : Int).toNat (wrap64 ((rd fs i) * (wrap64 (i + 1))))) (wrap64 (i + 1))) else none) else none) else none) else none) else none) else none) else (if (13 : Int) < (fs.length : Int) then ((kernel_part.f k (rd fs 13)).bind fun p => (kernel_Exp.l1 k e r fs p 12)) else none)
def kernel_Exp.f (k : Nat) (a0 : Int) : Option (Int) := (fbits_Kind.f a0).bind fun t0 => (if t0 = 4 then ((fbits_Nan.f).bind fun t => (some t)) else ((fcmp_Less.f 4649456441864749056 a0).bind fun t1 => (if t1 = true then ((fbits_Inf.f false).bind fun t => (some t)) else ((fcmp_Less.f a0 13873145138068324352).bind fun t2 => (if t2 = true then (some 0) else ((fprod_Mul.f k a0 4609176140021203710).bind fun t3 => ((fcmp_Near.f k t3).bind fun bt4 => ((fround_FromInt.f k bt4.1).bind fun t5 => ((fprod_Mul.f k t5 4604418534311723008).bind fun t6 => ((fsum_Sub.f k a0 t6).bind fun t7 => ((fprod_Mul.f k t5 4461442080421002358).bind fun t8 => ((fsum_Sub.f k t7 t8).bind fun t9 => (kernel_Exp.l0 k bt4.1 t9 [1, 0, 0, 0, 0, 0, 0, 0, 0, 0, 0, 0, 0, 0] 0)))))))))))))

def kernel_split.f (k : Nat) (a0 : Int) : Option (Int × Int) := (fbits_Parts.f k a0).bind fun bt1321 => ((limb_Len.f k bt1321.2.1).bind fun t1325 => ((fbits_Make.f k false bt1321.2.1 (wrap64 (1 - t1325))).bind fun bt1326 => ((fcmp_Less.f 4609047870845172685 bt1326.1).bind fun t1328 => (if t1328 = true then ((fbits_Make.f k false bt1321.2.1 (wrap64 (-t1325))).bind fun bt1329 => (some (bt1329.1, wrap64 (bt1321.2.2.1 + t1325)))) else (some (bt1326.1, wrap64 ((wrap64 (bt1321.2.2.1 + t1325)) - 1)))))))

mutual
def kernel_Log.j0 : Nat → Int → Int → Bool → Option (Int)
 | 0, _, _, _ => none
 | k + 1, x0, x3, x20 => if x20 = true then ((fbits_Nan.f).bind fun t1334 => (some t1334)) else (if x3 = 3 then (some x0) else ((kernel_split.f k x0).bind fun bt1335 => ((fsum_Sub.f k bt1335.1 4607182418800017408).bind fun t1337 => ((fsum_Add.f k 4611686018427387904 t1337).bind fun t1338 => ((fprod_Div.f k t1337 t1338).bind fun t1339 => ((fprod_Mul.f k t1339 t1339).bind fun t1340 => ((kernel_part.f k 21).bind fun t1341 => (kernel_Log.l0 k bt1335.2 t1339 t1340 t1341 9))))))))
def kernel_Log.l0 : Nat → Int → Int → Int → Int → Int → Option (Int)
 | 0, _, _, _, _, _ => none
 | k + 1, x5, x7, x8, x9, x10 => if x10 > 0 then ((fprod_Mul.f k x9 x8).bind fun t1342 => ((kernel_part.f k (wrap64 ((wrap64 (2 * x10)) + 1))).bind fun t1343 => ((fsum_Add.f k t1342 t1343).bind fun t1344 => (kernel_Log.l0 k x5 x7 x8 t1344 (wrap64 (x10 - 1)))))) else ((fsum_Add.f k x7 x7).bind fun t1345 => ((fprod_Mul.f k x9 x8).bind fun t1346 => ((fprod_Mul.f k t1345 t1346).bind fun t1347 => ((fsum_Add.f k t1345 t1347).bind fun t1348 => (if x5 = 0 then (some t1348) else ((fround_FromInt.f k x5).bind fun t1349 => ((fprod_Mul.f k t1349 4604418534311723008).bind fun t1350 => ((fprod_Mul.f k t1349 4461442080421002358).bind fun t1351 => ((fsum_Add.f k t1348 t1351).bind fun t1352 => ((fsum_Add.f k t1350 t1352).bind fun t1353 => (some t1353)))))))))))
end
def kernel_Log.f (k : Nat) (a0 : Int) : Option (Int) := (fbits_Kind.f a0).bind fun t1331 => (if t1331 = 0 then ((fbits_Inf.f true).bind fun t1332 => (some t1332)) else (if t1331 = 4 then (kernel_Log.j0 k a0 t1331 true) else ((fbits_Neg.f a0).bind fun t1333 => (kernel_Log.j0 k a0 t1331 t1333))))

end Go.Proofs.Ytjocbnjpjihpnaa.P
