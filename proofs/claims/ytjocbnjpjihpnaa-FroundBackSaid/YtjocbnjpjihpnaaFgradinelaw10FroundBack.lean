/- gradinelaw10_FroundBack as a Lean function: written by hand. -/
import Derived.Test.YtjocbnjpjihpnaaFbase
import Derived.Test.YtjocbnjpjihpnaaFgradinelaw10same
import Derived.Test.YtjocbnjpjihpnaaFgradinelaw10right
import Derived.Test.YtjocbnjpjihpnaaBgradineref07
import Derived.Test.YtjocbnjpjihpnaaBgradineref09
import Derived.Test.YtjocbnjpjihpnaaBfround
namespace Go.Proofs.Ytjocbnjpjihpnaa.P
open Go.RowKit Go.Proofs.YtjocbnjpjihpnaaW.PrintWords Go.Proofs.YtjocbnjpjihpnaaW.PrintLast Go.Proofs.YtjocbnjpjihpnaaW.PrintMore
set_option linter.unusedVariables false

def gradinelaw10_FroundBack.j1 : Nat → Bool → List Int → List Int → Bool → List Int → List Int → Option (Bool)
 | 0, _, _, _, _, _, _ => none
 | k + 1, xn, xa, xb, yn, ya, yb => (fround_FromRat.f k xn xa xb).bind fun p => (fround_FromRat.f k yn ya yb).bind fun q => (gradineref09_Neg.f p).bind fun a => if a = true then (gradineref09_Neg.f q).bind fun b => (if b = true then (if p ≥ q then (gradinelaw10_same.f k).bind fun t => some t else some false) else (gradinelaw10_same.f k).bind fun t => some t) else (gradineref09_Neg.f q).bind fun b => (if b = true then some false else (if p ≤ q then (gradinelaw10_same.f k).bind fun t => some t else some false))
def gradinelaw10_FroundBack.j0 : Nat → Bool → List Int → List Int → Bool → List Int → List Int → Option (Bool)
 | 0, _, _, _, _, _, _ => none
 | k + 1, xn, xa, xb, yn, ya, yb => (gradineref07_Cmp.f k xn xa xb yn ya yb).bind fun c => if c > 0 then gradinelaw10_FroundBack.j1 k yn ya yb xn xa xb else gradinelaw10_FroundBack.j1 k xn xa xb yn ya yb
def gradinelaw10_FroundBack.f (k : Nat) (z : Int) (xn : Bool) (xa xb : List Int) (yn : Bool) (ya yb : List Int) : Option Bool :=
 (gradinelaw10_right.f k xn xa xb).bind fun r => if r = true then (gradinelaw10_right.f k yn ya yb).bind fun s =>
  (if s = true then (fround_ToRat.f k z).bind fun t => (if t.2.2.2 = 0 then (fround_FromRat.f k t.1 t.2.1 t.2.2.1).bind fun c =>
   (if c = z then gradinelaw10_FroundBack.j0 k xn xa xb yn ya yb else (if z = 9223372036854775808 then (if c = 0 then gradinelaw10_FroundBack.j0 k xn xa xb yn ya yb else some false) else some false))
   else gradinelaw10_FroundBack.j0 k xn xa xb yn ya yb) else (gradinelaw10_same.f k).bind fun t => some t) else (gradinelaw10_same.f k).bind fun t => some t
end Go.Proofs.Ytjocbnjpjihpnaa.P
