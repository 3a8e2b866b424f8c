/- Functions of the seat as Lean functions, and walks: written by a program for this claim. -/
import Derived.Test.YtbpggonjcnakgaaFbase
import Derived.Test.YtbpggonjcnakgaaBfround
namespace Go.Proofs.Ytbpggonjcnakgaa.P
open Go.RowKit Go.Proofs.YtbpggonjcnakgaaW.PrintWords Go.Proofs.YtbpggonjcnakgaaW.PrintLast Go.Proofs.YtbpggonjcnakgaaW.PrintMore
attribute [local go_sem] max2_int min2_int max_two min_two max_three min_three max_four min_four   -- for this text's walks alone
set_option linter.unusedVariables false
set_option linter.unusedSimpArgs false

def gradinelaw10_same.f (k : Nat)  : Option (Bool) := (fround_Word.f k false 9007199254740993 0).bind fun t615 => (if t615 = 4845873199050653696 then ((fround_Word.f k false 9007199254740995 0).bind fun t616 => (if t616 = 4845873199050653698 then ((fround_FromInt.f k (-1)).bind fun t617 => (some (t617 == 13830554455654793216))) else (some false))) else (some false))
set_option maxHeartbeats 8000000 in
set_option maxRecDepth 100000 in
theorem gradinelaw10_same.calls (k : Nat)  (r : Bool) (w : World) (h : gradinelaw10_same.f k  = some r) :
  Calls Try.prog 38 #[] w fun e w' => e = .returned (.bool r) ∧ Below w.heap.size w w' := by
 have HB := Aside0.mk (Below.refl w.heap.size w)
 have H := h
 clear h
 unfold gradinelaw10_same.f at H
 obtain ⟨t615, A1, H⟩ := bnd H
 refine if c2 : t615 = 4845873199050653696 then ?p102_ else ?n102_
 case' p102_ =>
  rw [if_pos c2] at H
  have c2b0 : (t615 == 4845873199050653696) = true := beq_iff_eq.mpr c2
  have c2b1 : (t615 != 4845873199050653696) = false := bne_eq_false_iff_eq.mpr c2
  clear c2
  obtain ⟨t616, A3, H⟩ := bnd H
  refine if c4 : t616 = 4845873199050653698 then ?p103_ else ?n103_
  case' p103_ =>
   rw [if_pos c4] at H
   have c4b0 : (t616 == 4845873199050653698) = true := beq_iff_eq.mpr c4
   have c4b1 : (t616 != 4845873199050653698) = false := bne_eq_false_iff_eq.mpr c4
   clear c4
   obtain ⟨t617, A5, H⟩ := bnd H
   obtain rfl := Option.some.inj H
  case' n103_ =>
   rw [if_neg c4] at H
   have c4b0 : (t616 == 4845873199050653698) = false := beq_eq_false_iff_ne.mpr c4
   have c4b1 : (t616 != 4845873199050653698) = true := bne_iff_ne.mpr c4
   obtain rfl := Option.some.inj H
 case' n102_ =>
  rw [if_neg c2] at H
  have c2b0 : (t615 == 4845873199050653696) = false := beq_eq_false_iff_ne.mpr c2
  have c2b1 : (t615 != 4845873199050653696) = true := bne_iff_ne.mpr c2
  obtain rfl := Option.some.inj H
 case p103_ | n103_ | n102_ =>
  go_enter Try.func38, Try.ntmps38
  go_wp2_with (first | ((with_reducible refine gate_callee (f := 36) rfl ?_); refine goesL_ (some 1) rfl rfl Try.func36 (by kernel_rfl) rfl #[.bool false, .int .u64 9007199254740993, .int .i64 0] rfl lx ?_; (with_reducible refine (fround_Word.calls k false 9007199254740993 0 t615 _ A1.out).mono ?_); rintro e w6 ⟨rfl, hb⟩; refine ⟨_, rfl, ?_⟩; refine sw1 ⟨below_step (bb HB.out) hb⟩ ?_; clear HB; intro HB) | (go_at_call 36; (with_reducible refine (fround_Word.calls k false 9007199254740995 0 t616 _ A3.out).mono ?_); rintro e w7 ⟨rfl, hb⟩; refine sw1 ⟨below_step (bb HB.out) hb⟩ ?_; clear HB; intro HB) | (go_at_call 64; (with_reducible refine (fround_FromInt.calls k (-1) t617 _ A5.out).mono ?_); rintro e w8 ⟨rfl, hb⟩; refine sw1 ⟨below_step (bb HB.out) hb⟩ ?_; clear HB; intro HB))
  go_ret
  exact ⟨er, hbb⟩

end Go.Proofs.Ytbpggonjcnakgaa.P
