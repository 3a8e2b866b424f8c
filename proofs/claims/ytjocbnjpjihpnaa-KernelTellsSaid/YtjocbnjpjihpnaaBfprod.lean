/- Functions of one package as Lean functions, and walks: written by a program for this claim. -/
import Derived.Test.YtjocbnjpjihpnaaFbase
import Derived.Test.YtjocbnjpjihpnaaBfbits
import Derived.Test.YtjocbnjpjihpnaaBlimb
import Derived.Test.YtjocbnjpjihpnaaBfround
namespace Go.Proofs.Ytjocbnjpjihpnaa.P
open Go.RowKit Go.Proofs.YtjocbnjpjihpnaaW.PrintWords Go.Proofs.YtjocbnjpjihpnaaW.PrintLast Go.Proofs.YtjocbnjpjihpnaaW.PrintMore
attribute [local go_sem] max2_int min2_int max_two min_two max_three min_three max_four min_four   -- for this text's walks alone
set_option linter.unusedVariables false
set_option linter.unusedSimpArgs false

def fprod_signed.f (k : Nat) (a0 : Bool) : Option (Int) := (fbits_Make.f k a0 0 0).bind fun bt1128 => (some bt1128.1)

mutual
def fprod_Div.j0 : Nat → Int → Int → Int → Int → Bool → Bool → Option (Int)
 | 0, _, _, _, _, _, _ => none
 | k + 1, x0, x1, x5, x6, x7, x30 => if x30 = true then ((fbits_Nan.f).bind fun t1134 => (some t1134)) else (if x5 = 3 then (fprod_Div.j1 k x0 x1 x5 x6 x7 true) else (fprod_Div.j1 k x0 x1 x5 x6 x7 (x6 == 0)))
def fprod_Div.j1 : Nat → Int → Int → Int → Int → Bool → Bool → Option (Int)
 | 0, _, _, _, _, _, _ => none
 | k + 1, x0, x1, x5, x6, x7, x51 => if x51 = true then ((fbits_Inf.f x7).bind fun t1135 => (some t1135)) else (if x5 = 0 then ((fprod_signed.f k x7).bind fun t1136 => (some t1136)) else (if x6 = 3 then ((fprod_signed.f k x7).bind fun t1137 => (some t1137)) else ((fbits_Parts.f k x0).bind fun bt1138 => ((fbits_Parts.f k x1).bind fun bt1142 => ((limb_Len.f k bt1138.2.1).bind fun t1146 => ((limb_Len.f k bt1142.2.1).bind fun t1147 => (if 0 ≤ (wrap64 (63 - t1146)) then (if 0 ≤ (wrap64 (64 - t1147)) then ((limb_Div.f k (shl .u64 bt1138.2.1 (wrap64 (63 - t1146))) 0 (shl .u64 bt1142.2.1 (wrap64 (64 - t1147)))).bind fun bt1148 => (if bt1148.2.1 = 0 then ((fround_Word.f k x7 bt1148.1 (wrap64 ((wrap64 ((wrap64 ((wrap64 (bt1138.2.2.1 - (wrap64 (63 - t1146)))) - bt1142.2.2.1)) + (wrap64 (64 - t1147)))) - 64))).bind fun t1151 => (some t1151)) else ((fround_Word.f k x7 (Go.bits .or .u64 bt1148.1 1) (wrap64 ((wrap64 ((wrap64 ((wrap64 (bt1138.2.2.1 - (wrap64 (63 - t1146)))) - bt1142.2.2.1)) + (wrap64 (64 - t1147)))) - 64))).bind fun t1152 => (some t1152)))) else (none)) else (none))))))))
end
def fprod_Div.f (k : Nat) (a0 : Int) (a1 : Int) : Option (Int) := (fbits_Kind.f a0).bind fun t1130 => ((fbits_Kind.f a1).bind fun t1131 => ((fbits_Neg.f a0).bind fun t1132 => ((fbits_Neg.f a1).bind fun t1133 => (if t1130 = 4 then (fprod_Div.j0 k a0 a1 t1130 t1131 (!(t1132 == t1133)) true) else (if t1131 = 4 then (fprod_Div.j0 k a0 a1 t1130 t1131 (!(t1132 == t1133)) true) else (if t1130 = t1131 then (if t1130 = 3 then (fprod_Div.j0 k a0 a1 t1130 t1131 (!(t1132 == t1133)) true) else (fprod_Div.j0 k a0 a1 t1130 t1131 (!(t1132 == t1133)) (t1130 == 0))) else (fprod_Div.j0 k a0 a1 t1130 t1131 (!(t1132 == t1133)) false)))))))

mutual
def fprod_Mul.j0 : Nat → Int → Int → Int → Int → Bool → Bool → Option (Int)
 | 0, _, _, _, _, _, _ => none
 | k + 1, x0, x1, x5, x6, x7, x29 => if x29 = true then ((fbits_Nan.f).bind fun t1111 => (some t1111)) else (if x5 = 3 then (fprod_Mul.j1 k x0 x1 x5 x6 x7 true) else (fprod_Mul.j1 k x0 x1 x5 x6 x7 (x6 == 3)))
def fprod_Mul.j1 : Nat → Int → Int → Int → Int → Bool → Bool → Option (Int)
 | 0, _, _, _, _, _, _ => none
 | k + 1, x0, x1, x5, x6, x7, x37 => if x37 = true then (if x5 = 0 then (fprod_Mul.j2 k x7 true) else (fprod_Mul.j2 k x7 (x6 == 0))) else ((fbits_Parts.f k x0).bind fun bt1114 => ((fbits_Parts.f k x1).bind fun bt1118 => ((limb_Mul.f bt1114.2.1 bt1118.2.1).bind fun bt1122 => ((limb_Len.f k bt1122.1).bind fun t1124 => (if t1124 = 0 then ((fround_Word.f k x7 bt1122.2 (wrap64 (bt1114.2.2.1 + bt1118.2.2.1))).bind fun t1125 => (some t1125)) else (if 0 ≤ (wrap64 (64 - t1124)) then (if 0 ≤ t1124 then (if (shl .u64 bt1122.2 (wrap64 (64 - t1124))) = 0 then ((fround_Word.f k x7 (Go.bits .or .u64 (shl .u64 bt1122.1 (wrap64 (64 - t1124))) (shr .u64 bt1122.2 t1124)) (wrap64 ((wrap64 (bt1114.2.2.1 + bt1118.2.2.1)) + t1124))).bind fun t1126 => (some t1126)) else ((fround_Word.f k x7 (Go.bits .or .u64 (Go.bits .or .u64 (shl .u64 bt1122.1 (wrap64 (64 - t1124))) (shr .u64 bt1122.2 t1124)) 1) (wrap64 ((wrap64 (bt1114.2.2.1 + bt1118.2.2.1)) + t1124))).bind fun t1127 => (some t1127))) else (none)) else (none)))))))
def fprod_Mul.j2 : Nat → Bool → Bool → Option (Int)
 | 0, _, _ => none
 | k + 1, x7, x49 => if x49 = true then ((fbits_Nan.f).bind fun t1112 => (some t1112)) else ((fbits_Inf.f x7).bind fun t1113 => (some t1113))
end
def fprod_Mul.f (k : Nat) (a0 : Int) (a1 : Int) : Option (Int) := (fbits_Kind.f a0).bind fun t1107 => ((fbits_Kind.f a1).bind fun t1108 => ((fbits_Neg.f a0).bind fun t1109 => ((fbits_Neg.f a1).bind fun t1110 => (if t1107 = 4 then (fprod_Mul.j0 k a0 a1 t1107 t1108 (!(t1109 == t1110)) true) else (fprod_Mul.j0 k a0 a1 t1107 t1108 (!(t1109 == t1110)) (t1108 == 4))))))

end Go.Proofs.Ytjocbnjpjihpnaa.P
