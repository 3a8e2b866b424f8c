/- Functions of one package as Lean functions, and walks: written by a program for this claim. -/
import Derived.Test.YtjocbnjpjihpnaaFbase
import Derived.Test.YtjocbnjpjihpnaaBfbits
import Derived.Test.YtjocbnjpjihpnaaBlimb
namespace Go.Proofs.Ytjocbnjpjihpnaa.P
open Go.RowKit Go.Proofs.YtjocbnjpjihpnaaW.PrintWords Go.Proofs.YtjocbnjpjihpnaaW.PrintLast Go.Proofs.YtjocbnjpjihpnaaW.PrintMore
attribute [local go_sem] max2_int min2_int max_two min_two max_three min_three max_four min_four   -- for this text's walks alone
set_option linter.unusedVariables false
set_option linter.unusedSimpArgs false

def fround_made.f (k : Nat) (a0 : Bool) (a1 : Int) (a2 : Int) : Option (Int) := (fbits_Make.f k a0 a1 a2).bind fun bt270 => (if bt270.2 = true then (some bt270.1) else ((fbits_Inf.f a0).bind fun t272 => (some t272)))

def fround_even.f (a0 : Int) (a1 : Bool) (a2 : Bool) : Option (Int) := if a1 = true then (if a2 = true then (some (IntKind.u64.wrap (a0 + 1))) else (if (Go.bits .and .u64 a0 1) = 1 then (some (IntKind.u64.wrap (a0 + 1))) else (some a0))) else (some a0)

def fround_Word.f (k : Nat) (a0 : Bool) (a1 : Int) (a2 : Int) : Option (Int) := if a1 = 0 then ((fround_made.f k a0 0 0).bind fun t273 => (some t273)) else ((limb_Len.f k a1).bind fun t274 => (if (mx (wrap64 ((wrap64 (t274 + (mn (mx a2 (-1099511627776)) 1099511627776))) - 53)) (-1074)) > 971 then ((fbits_Inf.f a0).bind fun t275 => (some t275)) else (if (wrap64 ((mx (wrap64 ((wrap64 (t274 + (mn (mx a2 (-1099511627776)) 1099511627776))) - 53)) (-1074)) - (mn (mx a2 (-1099511627776)) 1099511627776))) ≤ 0 then (if 0 ≤ (wrap64 (-(wrap64 ((mx (wrap64 ((wrap64 (t274 + (mn (mx a2 (-1099511627776)) 1099511627776))) - 53)) (-1074)) - (mn (mx a2 (-1099511627776)) 1099511627776))))) then ((fround_made.f k a0 (shl .u64 a1 (wrap64 (-(wrap64 ((mx (wrap64 ((wrap64 (t274 + (mn (mx a2 (-1099511627776)) 1099511627776))) - 53)) (-1074)) - (mn (mx a2 (-1099511627776)) 1099511627776)))))) (mx (wrap64 ((wrap64 (t274 + (mn (mx a2 (-1099511627776)) 1099511627776))) - 53)) (-1074))).bind fun t276 => (some t276)) else (none)) else (if (wrap64 ((mx (wrap64 ((wrap64 (t274 + (mn (mx a2 (-1099511627776)) 1099511627776))) - 53)) (-1074)) - (mn (mx a2 (-1099511627776)) 1099511627776))) > 64 then ((fround_made.f k a0 0 0).bind fun t277 => (some t277)) else (if 0 ≤ (wrap64 (64 - (wrap64 ((mx (wrap64 ((wrap64 (t274 + (mn (mx a2 (-1099511627776)) 1099511627776))) - 53)) (-1074)) - (mn (mx a2 (-1099511627776)) 1099511627776))))) then (if 0 ≤ (wrap64 ((wrap64 ((mx (wrap64 ((wrap64 (t274 + (mn (mx a2 (-1099511627776)) 1099511627776))) - 53)) (-1074)) - (mn (mx a2 (-1099511627776)) 1099511627776))) - 1)) then ((fround_even.f (shr .u64 (a1 / 2) (wrap64 ((wrap64 ((mx (wrap64 ((wrap64 (t274 + (mn (mx a2 (-1099511627776)) 1099511627776))) - 53)) (-1074)) - (mn (mx a2 (-1099511627776)) 1099511627776))) - 1))) (((shl .u64 a1 (wrap64 (64 - (wrap64 ((mx (wrap64 ((wrap64 (t274 + (mn (mx a2 (-1099511627776)) 1099511627776))) - 53)) (-1074)) - (mn (mx a2 (-1099511627776)) 1099511627776)))))) / 9223372036854775808) == 1) ((IntKind.u64.wrap ((shl .u64 a1 (wrap64 (64 - (wrap64 ((mx (wrap64 ((wrap64 (t274 + (mn (mx a2 (-1099511627776)) 1099511627776))) - 53)) (-1074)) - (mn (mx a2 (-1099511627776)) 1099511627776)))))) * 2)) != 0)).bind fun t278 => ((fround_made.f k a0 t278 (mx (wrap64 ((wrap64 (t274 + (mn (mx a2 (-1099511627776)) 1099511627776))) - 53)) (-1074))).bind fun t279 => (some t279))) else (none)) else (none))))))

def fround_FromInt.f (k : Nat) (a0 : Int) : Option (Int) := if a0 < 0 then ((fround_Word.f k true (IntKind.u64.wrap (-(IntKind.u64.wrap (a0)))) 0).bind fun t280 => (some t280)) else ((fround_Word.f k false (IntKind.u64.wrap (a0)) 0).bind fun t281 => (some t281))

end Go.Proofs.Ytjocbnjpjihpnaa.P
