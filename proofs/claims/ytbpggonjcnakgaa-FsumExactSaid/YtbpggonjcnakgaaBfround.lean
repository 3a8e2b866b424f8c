/- Functions of one package as Lean functions, and walks: written by a program for this claim. -/
import Derived.Test.YtbpggonjcnakgaaFbase
import Derived.Test.YtbpggonjcnakgaaBfbits
import Derived.Test.YtbpggonjcnakgaaBlimb
namespace Go.Proofs.Ytbpggonjcnakgaa.P
open Go.RowKit Go.Proofs.YtbpggonjcnakgaaW.PrintWords Go.Proofs.YtbpggonjcnakgaaW.PrintLast Go.Proofs.YtbpggonjcnakgaaW.PrintMore
attribute [local go_sem] max2_int min2_int max_two min_two max_three min_three max_four min_four   -- for this text's walks alone
set_option linter.unusedVariables false
set_option linter.unusedSimpArgs false

def fround_made.f (k : Nat) (a0 : Bool) (a1 : Int) (a2 : Int) : Option (Int) := (fbits_Make.f k a0 a1 a2).bind fun bt542 => (if bt542.2 = true then (some bt542.1) else ((fbits_Inf.f a0).bind fun t544 => (some t544)))
set_option maxHeartbeats 8000000 in
set_option maxRecDepth 100000 in
theorem fround_made.calls (k : Nat) (a0 : Bool) (a1 : Int) (a2 : Int) (r : Int) (w : World) (h : fround_made.f k a0 a1 a2 = some r) :
  Calls Try.prog 92 #[.bool a0, .int .u64 a1, .int .i64 a2] w fun e w' => e = .returned (.int .u64 r) ∧ Below w.heap.size w w' := by
 have HB := Aside0.mk (Below.refl w.heap.size w)
 have H : ((fbits_Make.f k a0 a1 a2).bind fun bt542 => (if bt542.2 = true then (some bt542.1) else ((fbits_Inf.f a0).bind fun t544 => (some t544)))) = some r := h
 clear h
 replace H := Option.bind_eq_some_iff.mp H
 obtain ⟨⟨t542, t543⟩, A40, H⟩ := H
 replace H : (if t543 = true then (some t542) else ((fbits_Inf.f a0).bind fun t544 => (some t544))) = some r := H
 have A4 := Aside0.mk A40
 clear A40
 by_cases c5 : t543 = true
 ·subst c5
  have H1 : (some t542) = some r := by rw [if_pos rfl] at H; exact H
  clear H
  have H := H1
  clear H1
  obtain rfl := Option.some.inj H
  go_enter Try.func92, Try.ntmps92
  go_wp2_with (first | ((with_reducible refine gate_callee (f := 25) rfl ?_); refine goesL_ (some 13) rfl rfl Try.func25 (by kernel_rfl) rfl #[.bool a0, .int .u64 a1, .int .i64 a2] rfl (by (try simp only [List.map_toArray, List.map_cons, List.map_nil]); first | done | rfl | (simp only [List.length_drop, List.length_take]; rfl) | (simp only [*]; done)) ?_; (with_reducible refine (fbits_Make.calls k a0 a1 a2 t542 true _ A4.out).mono ?_); rintro e w6 ⟨rfl, hb⟩; refine ⟨_, rfl, ?_⟩; have n0_ := Aside0.mk (below_step (by repeat (first | (with_reducible first | exact HB.out | apply below_alloc | apply pw_below_drewN | apply below_drew1) | exact HB.out)) hb); clear HB; have HB := n0_; clear n0_; (try clear hb); (try clear hb2); (try clear hk); (try clear hi)))
  go_ret
  exact ⟨by first | rfl | (simp [errW_none, errW_some] <;> rfl) | (simp [*, errW_none, errW_some] <;> rfl), by repeat (first | (with_reducible first | exact HB.out | apply below_alloc | apply pw_below_drewN | apply below_drew1) | exact HB.out)⟩
 ·replace c5 := Bool.eq_false_iff.mpr c5
  subst c5
  have H1 : ((fbits_Inf.f a0).bind fun t544 => (some t544)) = some r := by rw [if_neg (show ¬ (false = true) by decide)] at H; exact H
  clear H
  have H := H1
  clear H1
  replace H := Option.bind_eq_some_iff.mp H
  obtain ⟨t544, A70, H⟩ := H
  replace H : (some t544) = some r := H
  have A7 := Aside0.mk A70
  clear A70
  obtain rfl := Option.some.inj H
  go_enter Try.func92, Try.ntmps92
  go_wp2_with (first | ((with_reducible refine gate_callee (f := 25) rfl ?_); refine goesL_ (some 13) rfl rfl Try.func25 (by kernel_rfl) rfl #[.bool a0, .int .u64 a1, .int .i64 a2] rfl (by (try simp only [List.map_toArray, List.map_cons, List.map_nil]); first | done | rfl | (simp only [List.length_drop, List.length_take]; rfl) | (simp only [*]; done)) ?_; (with_reducible refine (fbits_Make.calls k a0 a1 a2 t542 false _ A4.out).mono ?_); rintro e w8 ⟨rfl, hb⟩; refine ⟨_, rfl, ?_⟩; have n0_ := Aside0.mk (below_step (by repeat (first | (with_reducible first | exact HB.out | apply below_alloc | apply pw_below_drewN | apply below_drew1) | exact HB.out)) hb); clear HB; have HB := n0_; clear n0_; (try clear hb); (try clear hb2); (try clear hk); (try clear hi)) | ((with_reducible refine gate_callee (f := 34) rfl ?_); refine goesL_ (some 19) rfl rfl Try.func34 (by kernel_rfl) rfl #[.bool a0] rfl (by (try simp only [List.map_toArray, List.map_cons, List.map_nil]); first | done | rfl | (simp only [List.length_drop, List.length_take]; rfl) | (simp only [*]; done)) ?_; (with_reducible refine (fbits_Inf.calls a0 t544 _ A7.out).mono ?_); rintro e w' ⟨rfl, ⟨nd, rfl⟩⟩; refine ⟨_, rfl, ?_⟩))
  go_ret
  exact ⟨by first | rfl | (simp [errW_none, errW_some] <;> rfl) | (simp [*, errW_none, errW_some] <;> rfl), by repeat (first | (with_reducible first | exact HB.out | apply below_alloc | apply pw_below_drewN | apply below_drew1) | exact HB.out)⟩

def fround_even.f (a0 : Int) (a1 : Bool) (a2 : Bool) : Option (Int) := if a1 = true then (if a2 = true then (some (IntKind.u64.wrap (a0 + 1))) else (if (Go.bits .and .u64 a0 1) = 1 then (some (IntKind.u64.wrap (a0 + 1))) else (some a0))) else (some a0)
set_option maxHeartbeats 8000000 in
set_option maxRecDepth 100000 in
theorem fround_even.calls (a0 : Int) (a1 : Bool) (a2 : Bool) (r : Int) (w : World) (h : fround_even.f a0 a1 a2 = some r) :
  Calls Try.prog 93 #[.int .u64 a0, .bool a1, .bool a2] w fun e w' => e = .returned (.int .u64 r) ∧ Drawn0 w w' := by
 have H : (if a1 = true then (if a2 = true then (some (IntKind.u64.wrap (a0 + 1))) else (if (Go.bits .and .u64 a0 1) = 1 then (some (IntKind.u64.wrap (a0 + 1))) else (some a0))) else (some a0)) = some r := h
 clear h
 by_cases c4 : a1 = true
 ·subst c4
  have H1 : (if a2 = true then (some (IntKind.u64.wrap (a0 + 1))) else (if (Go.bits .and .u64 a0 1) = 1 then (some (IntKind.u64.wrap (a0 + 1))) else (some a0))) = some r := by rw [if_pos rfl] at H; exact H
  clear H
  have H := H1
  clear H1
  by_cases c5 : a2 = true
  ·subst c5
   have H1 : (some (IntKind.u64.wrap (a0 + 1))) = some r := by rw [if_pos rfl] at H; exact H
   clear H
   have H := H1
   clear H1
   obtain rfl := Option.some.inj H
   go_enter Try.func93, Try.ntmps93
   go_wp2
   go_ret
   exact ⟨by first | rfl | (simp; done) | (simp [*]; done), by repeat (first | exact Drawn0.refl _ | apply Drawn0.step)⟩
  ·replace c5 := Bool.eq_false_iff.mpr c5
   subst c5
   have H1 : (if (Go.bits .and .u64 a0 1) = 1 then (some (IntKind.u64.wrap (a0 + 1))) else (some a0)) = some r := by rw [if_neg (show ¬ (false = true) by decide)] at H; exact H
   clear H
   have H := H1
   clear H1
   by_cases c6 : (Go.bits .and .u64 a0 1) = 1
   ·rw [if_pos c6] at H
    have c6b0 : ((Go.bits .and .u64 a0 1) == 1) = true := beq_iff_eq.mpr c6
    have c6b1 : ((Go.bits .and .u64 a0 1) != 1) = false := bne_eq_false_iff_eq.mpr c6
    clear c6
    obtain rfl := Option.some.inj H
    go_enter Try.func93, Try.ntmps93
    go_wp2
    go_ret
    exact ⟨by first | rfl | (simp; done) | (simp [*]; done), by repeat (first | exact Drawn0.refl _ | apply Drawn0.step)⟩
   ·rw [if_neg c6] at H
    have c6b0 : ((Go.bits .and .u64 a0 1) == 1) = false := beq_eq_false_iff_ne.mpr c6
    have c6b1 : ((Go.bits .and .u64 a0 1) != 1) = true := bne_iff_ne.mpr c6
    obtain rfl := Option.some.inj H
    go_enter Try.func93, Try.ntmps93
    go_wp2
    go_ret
    exact ⟨by first | rfl | (simp; done) | (simp [*]; done), by repeat (first | exact Drawn0.refl _ | apply Drawn0.step)⟩
 ·replace c4 := Bool.eq_false_iff.mpr c4
  subst c4
  have H1 : (some a0) = some r := by rw [if_neg (show ¬ (false = true) by decide)] at H; exact H
  clear H
  have H := H1
  clear H1
  obtain rfl := Option.some.inj H
  go_enter Try.func93, Try.ntmps93
  go_wp2
  go_ret
  exact ⟨by first | rfl | (simp; done) | (simp [*]; done), by repeat (first | exact Drawn0.refl _ | apply Drawn0.step)⟩

def fround_Word.f (k : Nat) (a0 : Bool) (a1 : Int) (a2 : Int) : Option (Int) := if a1 = 0 then ((fround_made.f k a0 0 0).bind fun t545 => (some t545)) else ((limb_Len.f k a1).bind fun t546 => (if (mx (wrap64 ((wrap64 (t546 + (mn (mx a2 (-1099511627776)) 1099511627776))) - 53)) (-1074)) > 971 then ((fbits_Inf.f a0).bind fun t547 => (some t547)) else (if (wrap64 ((mx (wrap64 ((wrap64 (t546 + (mn (mx a2 (-1099511627776)) 1099511627776))) - 53)) (-1074)) - (mn (mx a2 (-1099511627776)) 1099511627776))) ≤ 0 then (if 0 ≤ (wrap64 (-(wrap64 ((mx (wrap64 ((wrap64 (t546 + (mn (mx a2 (-1099511627776)) 1099511627776))) - 53)) (-1074)) - (mn (mx a2 (-1099511627776)) 1099511627776))))) then ((fround_made.f k a0 (shl .u64 a1 (wrap64 (-(wrap64 ((mx (wrap64 ((wrap64 (t546 + (mn (mx a2 (-1099511627776)) 1099511627776))) - 53)) (-1074)) - (mn (mx a2 (-1099511627776)) 1099511627776)))))) (mx (wrap64 ((wrap64 (t546 + (mn (mx a2 (-1099511627776)) 1099511627776))) - 53)) (-1074))).bind fun t548 => (some t548)) else (none)) else (if (wrap64 ((mx (wrap64 ((wrap64 (t546 + (mn (mx a2 (-1099511627776)) 1099511627776))) - 53)) (-1074)) - (mn (mx a2 (-1099511627776)) 1099511627776))) > 64 then ((fround_made.f k a0 0 0).bind fun t549 => (some t549)) else (if 0 ≤ (wrap64 (64 - (wrap64 ((mx (wrap64 ((wrap64 (t546 + (mn (mx a2 (-1099511627776)) 1099511627776))) - 53)) (-1074)) - (mn (mx a2 (-1099511627776)) 1099511627776))))) then (if 0 ≤ (wrap64 ((wrap64 ((mx (wrap64 ((wrap64 (t546 + (mn (mx a2 (-1099511627776)) 1099511627776))) - 53)) (-1074)) - (mn (mx a2 (-1099511627776)) 1099511627776))) - 1)) then ((fround_even.f (shr .u64 (a1 / 2) (wrap64 ((wrap64 ((mx (wrap64 ((wrap64 (t546 + (mn (mx a2 (-1099511627776)) 1099511627776))) - 53)) (-1074)) - (mn (mx a2 (-1099511627776)) 1099511627776))) - 1))) (((shl .u64 a1 (wrap64 (64 - (wrap64 ((mx (wrap64 ((wrap64 (t546 + (mn (mx a2 (-1099511627776)) 1099511627776))) - 53)) (-1074)) - (mn (mx a2 (-1099511627776)) 1099511627776)))))) / 9223372036854775808) == 1) ((IntKind.u64.wrap ((shl .u64 a1 (wrap64 (64 - (wrap64 ((mx (wrap64 ((wrap64 (t546 + (mn (mx a2 (-1099511627776)) 1099511627776))) - 53)) (-1074)) - (mn (mx a2 (-1099511627776)) 1099511627776)))))) * 2)) != 0)).bind fun t550 => ((fround_made.f k a0 t550 (mx (wrap64 ((wrap64 (t546 + (mn (mx a2 (-1099511627776)) 1099511627776))) - 53)) (-1074))).bind fun t551 => (some t551))) else (none)) else (none))))))
set_option maxHeartbeats 8000000 in
set_option maxRecDepth 100000 in
theorem fround_Word.calls (k : Nat) (a0 : Bool) (a1 : Int) (a2 : Int) (r : Int) (w : World) (h : fround_Word.f k a0 a1 a2 = some r) :
  Calls Try.prog 36 #[.bool a0, .int .u64 a1, .int .i64 a2] w fun e w' => e = .returned (.int .u64 r) ∧ Below w.heap.size w w' := by
 have HB := Aside0.mk (Below.refl w.heap.size w)
 have H : (if a1 = 0 then ((fround_made.f k a0 0 0).bind fun t545 => (some t545)) else ((limb_Len.f k a1).bind fun t546 => (if (mx (wrap64 ((wrap64 (t546 + (mn (mx a2 (-1099511627776)) 1099511627776))) - 53)) (-1074)) > 971 then ((fbits_Inf.f a0).bind fun t547 => (some t547)) else (if (wrap64 ((mx (wrap64 ((wrap64 (t546 + (mn (mx a2 (-1099511627776)) 1099511627776))) - 53)) (-1074)) - (mn (mx a2 (-1099511627776)) 1099511627776))) ≤ 0 then (if 0 ≤ (wrap64 (-(wrap64 ((mx (wrap64 ((wrap64 (t546 + (mn (mx a2 (-1099511627776)) 1099511627776))) - 53)) (-1074)) - (mn (mx a2 (-1099511627776)) 1099511627776))))) then ((fround_made.f k a0 (shl .u64 a1 (wrap64 (-(wrap64 ((mx (wrap64 ((wrap64 (t546 + (mn (mx a2 (-1099511627776)) 1099511627776))) - 53)) (-1074)) - (mn (mx a2 (-1099511627776)) 1099511627776)))))) (mx (wrap64 ((wrap64 (t546 + (mn (mx a2 (-1099511627776)) 1099511627776))) - 53)) (-1074))).bind fun t548 => (some t548)) else (none)) else (if (wrap64 ((mx (wrap64 ((wrap64 (t546 + (mn (mx a2 (-1099511627776)) 1099511627776))) - 53)) (-1074)) - (mn (mx a2 (-1099511627776)) 1099511627776))) > 64 then ((fround_made.f k a0 0 0).bind fun t549 => (some t549)) else (if 0 ≤ (wrap64 (64 - (wrap64 ((mx (wrap64 ((wrap64 (t546 + (mn (mx a2 (-1099511627776)) 1099511627776))) - 53)) (-1074)) - (mn (mx a2 (-1099511627776)) 1099511627776))))) then (if 0 ≤ (wrap64 ((wrap64 ((mx (wrap64 ((wrap64 (t546 + (mn (mx a2 (-1099511627776)) 1099511627776))) - 53)) (-1074)) - (mn (mx a2 (-1099511627776)) 1099511627776))) - 1)) then ((fround_even.f (shr .u64 (a1 / 2) (wrap64 ((wrap64 ((mx (wrap64 ((wrap64 (t546 + (mn (mx a2 (-1099511627776)) 1099511627776))) - 53)) (-1074)) - (mn (mx a2 (-1099511627776)) 1099511627776))) - 1))) (((shl .u64 a1 (wrap64 (64 - (wrap64 ((mx (wrap64 ((wrap64 (t546 + (mn (mx a2 (-1099511627776)) 1099511627776))) - 53)) (-1074)) - (mn (mx a2 (-1099511627776)) 1099511627776)))))) / 9223372036854775808) == 1) ((IntKind.u64.wrap ((shl .u64 a1 (wrap64 (64 - (wrap64 ((mx (wrap64 ((wrap64 (t546 + (mn (mx a2 (-1099511627776)) 1099511627776))) - 53)) (-1074)) - (mn (mx a2 (-1099511627776)) 1099511627776)))))) * 2)) != 0)).bind fun t550 => ((fround_made.f k a0 t550 (mx (wrap64 ((wrap64 (t546 + (mn (mx a2 (-1099511627776)) 1099511627776))) - 53)) (-1074))).bind fun t551 => (some t551))) else (none)) else (none))))))) = some r := h
 clear h
 obtain ⟨ji4, hji4⟩ : ∃ j_ : Int, (mx a2 (-1099511627776)) = j_ := ⟨_, rfl⟩
 replace H : (if a1 = 0 then ((fround_made.f k a0 0 0).bind fun t545 => (some t545)) else ((limb_Len.f k a1).bind fun t546 => (if (mx (wrap64 ((wrap64 (t546 + (mn (ji4) 1099511627776))) - 53)) (-1074)) > 971 then ((fbits_Inf.f a0).bind fun t547 => (some t547)) else (if (wrap64 ((mx (wrap64 ((wrap64 (t546 + (mn (ji4) 1099511627776))) - 53)) (-1074)) - (mn (ji4) 1099511627776))) ≤ 0 then (if 0 ≤ (wrap64 (-(wrap64 ((mx (wrap64 ((wrap64 (t546 + (mn (ji4) 1099511627776))) - 53)) (-1074)) - (mn (ji4) 1099511627776))))) then ((fround_made.f k a0 (shl .u64 a1 (wrap64 (-(wrap64 ((mx (wrap64 ((wrap64 (t546 + (mn (ji4) 1099511627776))) - 53)) (-1074)) - (mn (ji4) 1099511627776)))))) (mx (wrap64 ((wrap64 (t546 + (mn (ji4) 1099511627776))) - 53)) (-1074))).bind fun t548 => (some t548)) else (none)) else (if (wrap64 ((mx (wrap64 ((wrap64 (t546 + (mn (ji4) 1099511627776))) - 53)) (-1074)) - (mn (ji4) 1099511627776))) > 64 then ((fround_made.f k a0 0 0).bind fun t549 => (some t549)) else (if 0 ≤ (wrap64 (64 - (wrap64 ((mx (wrap64 ((wrap64 (t546 + (mn (ji4) 1099511627776))) - 53)) (-1074)) - (mn (ji4) 1099511627776))))) then (if 0 ≤ (wrap64 ((wrap64 ((mx (wrap64 ((wrap64 (t546 + (mn (ji4) 1099511627776))) - 53)) (-1074)) - (mn (ji4) 1099511627776))) - 1)) then ((fround_even.f (shr .u64 (a1 / 2) (wrap64 ((wrap64 ((mx (wrap64 ((wrap64 (t546 + (mn (ji4) 1099511627776))) - 53)) (-1074)) - (mn (ji4) 1099511627776))) - 1))) (((shl .u64 a1 (wrap64 (64 - (wrap64 ((mx (wrap64 ((wrap64 (t546 + (mn (ji4) 1099511627776))) - 53)) (-1074)) - (mn (ji4) 1099511627776)))))) / 9223372036854775808) == 1) ((IntKind.u64.wrap ((shl .u64 a1 (wrap64 (64 - (wrap64 ((mx (wrap64 ((wrap64 (t546 + (mn (ji4) 1099511627776))) - 53)) (-1074)) - (mn (ji4) 1099511627776)))))) * 2)) != 0)).bind fun t550 => ((fround_made.f k a0 t550 (mx (wrap64 ((wrap64 (t546 + (mn (ji4) 1099511627776))) - 53)) (-1074))).bind fun t551 => (some t551))) else (none)) else (none))))))) = some r := by first | (rw [hji4] at H; exact H) | (simp only [hji4] at H ⊢; exact H)
 have hji4_ : (if a2 < (-1099511627776) then (-1099511627776) else a2) = ji4 := hji4
 obtain ⟨ji5, hji5⟩ : ∃ j_ : Int, (mn (ji4) 1099511627776) = j_ := ⟨_, rfl⟩
 replace H : (if a1 = 0 then ((fround_made.f k a0 0 0).bind fun t545 => (some t545)) else ((limb_Len.f k a1).bind fun t546 => (if (mx (wrap64 ((wrap64 (t546 + (ji5))) - 53)) (-1074)) > 971 then ((fbits_Inf.f a0).bind fun t547 => (some t547)) else (if (wrap64 ((mx (wrap64 ((wrap64 (t546 + (ji5))) - 53)) (-1074)) - (ji5))) ≤ 0 then (if 0 ≤ (wrap64 (-(wrap64 ((mx (wrap64 ((wrap64 (t546 + (ji5))) - 53)) (-1074)) - (ji5))))) then ((fround_made.f k a0 (shl .u64 a1 (wrap64 (-(wrap64 ((mx (wrap64 ((wrap64 (t546 + (ji5))) - 53)) (-1074)) - (ji5)))))) (mx (wrap64 ((wrap64 (t546 + (ji5))) - 53)) (-1074))).bind fun t548 => (some t548)) else (none)) else (if (wrap64 ((mx (wrap64 ((wrap64 (t546 + (ji5))) - 53)) (-1074)) - (ji5))) > 64 then ((fround_made.f k a0 0 0).bind fun t549 => (some t549)) else (if 0 ≤ (wrap64 (64 - (wrap64 ((mx (wrap64 ((wrap64 (t546 + (ji5))) - 53)) (-1074)) - (ji5))))) then (if 0 ≤ (wrap64 ((wrap64 ((mx (wrap64 ((wrap64 (t546 + (ji5))) - 53)) (-1074)) - (ji5))) - 1)) then ((fround_even.f (shr .u64 (a1 / 2) (wrap64 ((wrap64 ((mx (wrap64 ((wrap64 (t546 + (ji5))) - 53)) (-1074)) - (ji5))) - 1))) (((shl .u64 a1 (wrap64 (64 - (wrap64 ((mx (wrap64 ((wrap64 (t546 + (ji5))) - 53)) (-1074)) - (ji5)))))) / 9223372036854775808) == 1) ((IntKind.u64.wrap ((shl .u64 a1 (wrap64 (64 - (wrap64 ((mx (wrap64 ((wrap64 (t546 + (ji5))) - 53)) (-1074)) - (ji5)))))) * 2)) != 0)).bind fun t550 => ((fround_made.f k a0 t550 (mx (wrap64 ((wrap64 (t546 + (ji5))) - 53)) (-1074))).bind fun t551 => (some t551))) else (none)) else (none))))))) = some r := by first | (rw [hji5] at H; exact H) | (simp only [hji5] at H ⊢; exact H)
 have hji5_ : (if 1099511627776 < (ji4) then 1099511627776 else (ji4)) = ji5 := hji5
 by_cases c6 : a1 = 0
 ·rw [if_pos c6] at H
  have c6b0 : (a1 == 0) = true := beq_iff_eq.mpr c6
  have c6b1 : (a1 != 0) = false := bne_eq_false_iff_eq.mpr c6
  clear c6
  replace H := Option.bind_eq_some_iff.mp H
  obtain ⟨t545, A70, H⟩ := H
  replace H : (some t545) = some r := H
  have A7 := Aside0.mk A70
  clear A70
  obtain rfl := Option.some.inj H
  go_enter Try.func36, Try.ntmps36
  go_wp2_with (first | ((with_reducible refine gate_callee (f := 92) rfl ?_); refine goesL_ (some 16) rfl rfl Try.func92 (by kernel_rfl) rfl #[.bool a0, .int .u64 0, .int .i64 0] rfl (by (try simp only [List.map_toArray, List.map_cons, List.map_nil]); first | done | rfl | (simp only [List.length_drop, List.length_take]; rfl) | (simp only [*]; done)) ?_; (with_reducible refine (fround_made.calls k a0 0 0 t545 _ A7.out).mono ?_); rintro e w8 ⟨rfl, hb⟩; refine ⟨_, rfl, ?_⟩; have n0_ := Aside0.mk (below_step (bb HB.out) hb); clear HB; have HB := n0_; clear n0_; (try clear hb); (try clear hb2); (try clear hk); (try clear hi)))
  go_ret
  exact ⟨by first | rfl | (simp [errW_none, errW_some] <;> rfl) | (simp only [← hji4, ← hji5]; first | rfl | (simp [errW_none, errW_some] <;> rfl)) | (simp [*, errW_none, errW_some] <;> rfl), by repeat (first | (with_reducible first | exact HB.out | apply below_alloc | apply pw_below_drewN | apply below_drew1) | exact HB.out)⟩
 ·rw [if_neg c6] at H
  have c6b0 : (a1 == 0) = false := beq_eq_false_iff_ne.mpr c6
  have c6b1 : (a1 != 0) = true := bne_iff_ne.mpr c6
  replace H := Option.bind_eq_some_iff.mp H
  obtain ⟨t546, A90, H⟩ := H
  replace H : (if (mx (wrap64 ((wrap64 (t546 + (ji5))) - 53)) (-1074)) > 971 then ((fbits_Inf.f a0).bind fun t547 => (some t547)) else (if (wrap64 ((mx (wrap64 ((wrap64 (t546 + (ji5))) - 53)) (-1074)) - (ji5))) ≤ 0 then (if 0 ≤ (wrap64 (-(wrap64 ((mx (wrap64 ((wrap64 (t546 + (ji5))) - 53)) (-1074)) - (ji5))))) then ((fround_made.f k a0 (shl .u64 a1 (wrap64 (-(wrap64 ((mx (wrap64 ((wrap64 (t546 + (ji5))) - 53)) (-1074)) - (ji5)))))) (mx (wrap64 ((wrap64 (t546 + (ji5))) - 53)) (-1074))).bind fun t548 => (some t548)) else (none)) else (if (wrap64 ((mx (wrap64 ((wrap64 (t546 + (ji5))) - 53)) (-1074)) - (ji5))) > 64 then ((fround_made.f k a0 0 0).bind fun t549 => (some t549)) else (if 0 ≤ (wrap64 (64 - (wrap64 ((mx (wrap64 ((wrap64 (t546 + (ji5))) - 53)) (-1074)) - (ji5))))) then (if 0 ≤ (wrap64 ((wrap64 ((mx (wrap64 ((wrap64 (t546 + (ji5))) - 53)) (-1074)) - (ji5))) - 1)) then ((fround_even.f (shr .u64 (a1 / 2) (wrap64 ((wrap64 ((mx (wrap64 ((wrap64 (t546 + (ji5))) - 53)) (-1074)) - (ji5))) - 1))) (((shl .u64 a1 (wrap64 (64 - (wrap64 ((mx (wrap64 ((wrap64 (t546 + (ji5))) - 53)) (-1074)) - (ji5)))))) / 9223372036854775808) == 1) ((IntKind.u64.wrap ((shl .u64 a1 (wrap64 (64 - (wrap64 ((mx (wrap64 ((wrap64 (t546 + (ji5))) - 53)) (-1074)) - (ji5)))))) * 2)) != 0)).bind fun t550 => ((fround_made.f k a0 t550 (mx (wrap64 ((wrap64 (t546 + (ji5))) - 53)) (-1074))).bind fun t551 => (some t551))) else (none)) else (none))))) = some r := H
  have A9 := Aside0.mk A90
  clear A90
  obtain ⟨ji10, hji10⟩ : ∃ j_ : Int, (mx (wrap64 ((wrap64 (t546 + (ji5))) - 53)) (-1074)) = j_ := ⟨_, rfl⟩
  replace H : (if (ji10) > 971 then ((fbits_Inf.f a0).bind fun t547 => (some t547)) else (if (wrap64 ((ji10) - (ji5))) ≤ 0 then (if 0 ≤ (wrap64 (-(wrap64 ((ji10) - (ji5))))) then ((fround_made.f k a0 (shl .u64 a1 (wrap64 (-(wrap64 ((ji10) - (ji5)))))) (ji10)).bind fun t548 => (some t548)) else (none)) else (if (wrap64 ((ji10) - (ji5))) > 64 then ((fround_made.f k a0 0 0).bind fun t549 => (some t549)) else (if 0 ≤ (wrap64 (64 - (wrap64 ((ji10) - (ji5))))) then (if 0 ≤ (wrap64 ((wrap64 ((ji10) - (ji5))) - 1)) then ((fround_even.f (shr .u64 (a1 / 2) (wrap64 ((wrap64 ((ji10) - (ji5))) - 1))) (((shl .u64 a1 (wrap64 (64 - (wrap64 ((ji10) - (ji5)))))) / 9223372036854775808) == 1) ((IntKind.u64.wrap ((shl .u64 a1 (wrap64 (64 - (wrap64 ((ji10) - (ji5)))))) * 2)) != 0)).bind fun t550 => ((fround_made.f k a0 t550 (ji10)).bind fun t551 => (some t551))) else (none)) else (none))))) = some r := by first | (rw [hji10] at H; exact H) | (simp only [hji10] at H ⊢; exact H)
  (try rw [hji10] at A9)
  have hji10_ : (if (wrap64 ((wrap64 (t546 + (ji5))) - 53)) < (-1074) then (-1074) else (wrap64 ((wrap64 (t546 + (ji5))) - 53))) = ji10 := hji10
  by_cases c11 : (ji10) > 971
  ·rw [if_pos c11] at H
   have c11b0 : decide (971 < (ji10)) = true := decide_eq_true c11
   clear c11
   replace H := Option.bind_eq_some_iff.mp H
   obtain ⟨t547, A120, H⟩ := H
   replace H : (some t547) = some r := H
   have A12 := Aside0.mk A120
   clear A120
   obtain rfl := Option.some.inj H
   go_enter Try.func36, Try.ntmps36
   go_wp2_with (first | ((with_reducible refine gate_callee (f := 87) rfl ?_); refine goesL_ (some 18) rfl rfl Try.func87 (by kernel_rfl) rfl #[.int .u64 a1] rfl (by (try simp only [List.map_toArray, List.map_cons, List.map_nil]); first | done | rfl | (simp only [List.length_drop, List.length_take]; rfl) | (simp only [*]; done)) ?_; (with_reducible refine (limb_Len.calls k a1 t546 _ A9.out).mono ?_); rintro e w' ⟨rfl, ⟨nd, rfl⟩⟩; refine ⟨_, rfl, ?_⟩) | ((with_reducible refine gate_callee (f := 34) rfl ?_); refine goesL_ (some 26) rfl rfl Try.func34 (by kernel_rfl) rfl #[.bool a0] rfl (by (try simp only [List.map_toArray, List.map_cons, List.map_nil]); first | done | rfl | (simp only [List.length_drop, List.length_take]; rfl) | (simp only [*]; done)) ?_; (with_reducible refine (fbits_Inf.calls a0 t547 _ A12.out).mono ?_); rintro e w' ⟨rfl, ⟨nd, rfl⟩⟩; refine ⟨_, rfl, ?_⟩))
   go_ret
   exact ⟨by first | rfl | (simp [errW_none, errW_some] <;> rfl) | (simp only [← hji4, ← hji5, ← hji10]; first | rfl | (simp [errW_none, errW_some] <;> rfl)) | (simp [*, errW_none, errW_some] <;> rfl), by repeat (first | (with_reducible first | exact HB.out | apply below_alloc | apply pw_below_drewN | apply below_drew1) | exact HB.out)⟩
  ·rw [if_neg c11] at H
   have c11b0 : decide (971 < (ji10)) = false := decide_eq_false c11
   clear c11
   by_cases c13 : (wrap64 ((ji10) - (ji5))) ≤ 0
   ·rw [if_pos c13] at H
    have c13b0 : decide ((wrap64 ((ji10) - (ji5))) ≤ 0) = true := decide_eq_true c13
    clear c13
    obtain ⟨ji14, hji14⟩ : ∃ j_ : Int, (wrap64 (-(wrap64 ((ji10) - (ji5))))) = j_ := ⟨_, rfl⟩
    replace H : (if 0 ≤ (ji14) then ((fround_made.f k a0 (shl .u64 a1 (ji14)) (ji10)).bind fun t548 => (some t548)) else (none)) = some r := by first | (rw [hji14] at H; exact H) | (simp only [hji14] at H ⊢; exact H)
    (try rw [hji14] at A9)
    have hji14w : (IntKind.i64.wrap (-(wrap64 ((ji10) - (ji5))))) = ji14 := (i64_w _).trans hji14
    by_cases c15 : 0 ≤ (ji14)
    ·rw [if_pos c15] at H
     have c15b0 := eq_true c15
     have c15b1 : decide (0 ≤ (ji14)) = true := decide_eq_true c15
     clear c15
     obtain ⟨ji16, hji16⟩ : ∃ j_ : Int, (shl .u64 a1 (ji14)) = j_ := ⟨_, rfl⟩
     replace H : ((fround_made.f k a0 (ji16) (ji10)).bind fun t548 => (some t548)) = some r := by first | (rw [hji16] at H; exact H) | (simp only [hji16] at H ⊢; exact H)
     (try rw [hji16] at A9)
     have hji16_ : (IntKind.u64.wrap (a1 * 2 ^ min (ji14).toNat 64)) = ji16 := hji16
     have hji16z : (ji14) ≤ 64 → (IntKind.u64.wrap (a1 * 2 ^ (ji14).toNat)) = ji16 := shl_small hji16
     replace H := Option.bind_eq_some_iff.mp H
     obtain ⟨t548, A170, H⟩ := H
     replace H : (some t548) = some r := H
     have A17 := Aside0.mk A170
     clear A170
     obtain rfl := Option.some.inj H
     go_enter Try.func36, Try.ntmps36
     go_wp2_with (first | ((with_reducible refine gate_callee (f := 87) rfl ?_); refine goesL_ (some 18) rfl rfl Try.func87 (by kernel_rfl) rfl #[.int .u64 a1] rfl (by (try simp only [List.map_toArray, List.map_cons, List.map_nil]); first | done | rfl | (simp only [List.length_drop, List.length_take]; rfl) | (simp only [*]; done)) ?_; (with_reducible refine (limb_Len.calls k a1 t546 _ A9.out).mono ?_); rintro e w' ⟨rfl, ⟨nd, rfl⟩⟩; refine ⟨_, rfl, ?_⟩) | ((with_reducible refine gate_callee (f := 92) rfl ?_); refine goesL_ (some 39) rfl rfl Try.func92 (by kernel_rfl) rfl #[.bool a0, .int .u64 ji16, .int .i64 ji10] rfl (by (try simp only [List.map_toArray, List.map_cons, List.map_nil]); first | done | (simp only [hji10, hji16]; rfl) | rfl | (simp only [List.length_drop, List.length_take]; rfl) | (simp only [*]; done)) ?_; (with_reducible refine (fround_made.calls k a0 ji16 ji10 t548 _ A17.out).mono ?_); rintro e w18 ⟨rfl, hb⟩; refine ⟨_, rfl, ?_⟩; have n0_ := Aside0.mk (below_step (bb HB.out) hb); clear HB; have HB := n0_; clear n0_; (try clear hb); (try clear hb2); (try clear hk); (try clear hi)))
     go_ret
     exact ⟨by first | rfl | (simp [errW_none, errW_some] <;> rfl) | (simp only [← hji4, ← hji5, ← hji10, ← hji14, ← hji16]; first | rfl | (simp [errW_none, errW_some] <;> rfl)) | (simp [*, errW_none, errW_some] <;> rfl), by repeat (first | (with_reducible first | exact HB.out | apply below_alloc | apply pw_below_drewN | apply below_drew1) | exact HB.out)⟩
    ·rw [if_neg c15] at H
     exact absurd H (by simp)
   ·rw [if_neg c13] at H
    have c13b0 : decide ((wrap64 ((ji10) - (ji5))) ≤ 0) = false := decide_eq_false c13
    clear c13
    by_cases c19 : (wrap64 ((ji10) - (ji5))) > 64
    ·rw [if_pos c19] at H
     have c19b0 : decide (64 < (wrap64 ((ji10) - (ji5)))) = true := decide_eq_true c19
     clear c19
     replace H := Option.bind_eq_some_iff.mp H
     obtain ⟨t549, A200, H⟩ := H
     replace H : (some t549) = some r := H
     have A20 := Aside0.mk A200
     clear A200
     obtain rfl := Option.some.inj H
     go_enter Try.func36, Try.ntmps36
     go_wp2_with (first | ((with_reducible refine gate_callee (f := 87) rfl ?_); refine goesL_ (some 18) rfl rfl Try.func87 (by kernel_rfl) rfl #[.int .u64 a1] rfl (by (try simp only [List.map_toArray, List.map_cons, List.map_nil]); first | done | rfl | (simp only [List.length_drop, List.length_take]; rfl) | (simp only [*]; done)) ?_; (with_reducible refine (limb_Len.calls k a1 t546 _ A9.out).mono ?_); rintro e w' ⟨rfl, ⟨nd, rfl⟩⟩; refine ⟨_, rfl, ?_⟩) | ((with_reducible refine gate_callee (f := 92) rfl ?_); refine goesL_ (some 44) rfl rfl Try.func92 (by kernel_rfl) rfl #[.bool a0, .int .u64 0, .int .i64 0] rfl (by (try simp only [List.map_toArray, List.map_cons, List.map_nil]); first | done | rfl | (simp only [List.length_drop, List.length_take]; rfl) | (simp only [*]; done)) ?_; (with_reducible refine (fround_made.calls k a0 0 0 t549 _ A20.out).mono ?_); rintro e w21 ⟨rfl, hb⟩; refine ⟨_, rfl, ?_⟩; have n0_ := Aside0.mk (below_step (bb HB.out) hb); clear HB; have HB := n0_; clear n0_; (try clear hb); (try clear hb2); (try clear hk); (try clear hi)))
     go_ret
     exact ⟨by first | rfl | (simp [errW_none, errW_some] <;> rfl) | (simp only [← hji4, ← hji5, ← hji10]; first | rfl | (simp [errW_none, errW_some] <;> rfl)) | (simp [*, errW_none, errW_some] <;> rfl), by repeat (first | (with_reducible first | exact HB.out | apply below_alloc | apply pw_below_drewN | apply below_drew1) | exact HB.out)⟩
    ·rw [if_neg c19] at H
     have c19b0 : decide (64 < (wrap64 ((ji10) - (ji5)))) = false := decide_eq_false c19
     clear c19
     obtain ⟨ji22, hji22⟩ : ∃ j_ : Int, (wrap64 (64 - (wrap64 ((ji10) - (ji5))))) = j_ := ⟨_, rfl⟩
     replace H : (if 0 ≤ (ji22) then (if 0 ≤ (wrap64 ((wrap64 ((ji10) - (ji5))) - 1)) then ((fround_even.f (shr .u64 (a1 / 2) (wrap64 ((wrap64 ((ji10) - (ji5))) - 1))) (((shl .u64 a1 (ji22)) / 9223372036854775808) == 1) ((IntKind.u64.wrap ((shl .u64 a1 (ji22)) * 2)) != 0)).bind fun t550 => ((fround_made.f k a0 t550 (ji10)).bind fun t551 => (some t551))) else (none)) else (none)) = some r := by first | (rw [hji22] at H; exact H) | (simp only [hji22] at H ⊢; exact H)
     (try rw [hji22] at A9)
     have hji22w : (IntKind.i64.wrap (64 - (wrap64 ((ji10) - (ji5))))) = ji22 := (i64_w _).trans hji22
     by_cases c23 : 0 ≤ (ji22)
     ·rw [if_pos c23] at H
      have c23b0 := eq_true c23
      have c23b1 : decide (0 ≤ (ji22)) = true := decide_eq_true c23
      clear c23
      obtain ⟨ji24, hji24⟩ : ∃ j_ : Int, (shl .u64 a1 (ji22)) = j_ := ⟨_, rfl⟩
      replace H : (if 0 ≤ (wrap64 ((wrap64 ((ji10) - (ji5))) - 1)) then ((fround_even.f (shr .u64 (a1 / 2) (wrap64 ((wrap64 ((ji10) - (ji5))) - 1))) (((ji24) / 9223372036854775808) == 1) ((IntKind.u64.wrap ((ji24) * 2)) != 0)).bind fun t550 => ((fround_made.f k a0 t550 (ji10)).bind fun t551 => (some t551))) else (none)) = some r := by first | (rw [hji24] at H; exact H) | (simp only [hji24] at H ⊢; exact H)
      (try rw [hji24] at A9)
      have hji24_ : (IntKind.u64.wrap (a1 * 2 ^ min (ji22).toNat 64)) = ji24 := hji24
      have hji24z : (ji22) ≤ 64 → (IntKind.u64.wrap (a1 * 2 ^ (ji22).toNat)) = ji24 := shl_small hji24
      obtain ⟨ji25, hji25⟩ : ∃ j_ : Int, (wrap64 ((wrap64 ((ji10) - (ji5))) - 1)) = j_ := ⟨_, rfl⟩
      replace H : (if 0 ≤ (ji25) then ((fround_even.f (shr .u64 (a1 / 2) (ji25)) (((ji24) / 9223372036854775808) == 1) ((IntKind.u64.wrap ((ji24) * 2)) != 0)).bind fun t550 => ((fround_made.f k a0 t550 (ji10)).bind fun t551 => (some t551))) else (none)) = some r := by first | (rw [hji25] at H; exact H) | (simp only [hji25] at H ⊢; exact H)
      (try rw [hji25] at A9)
      have hji25w : (IntKind.i64.wrap ((wrap64 ((ji10) - (ji5))) - 1)) = ji25 := (i64_w _).trans hji25
      by_cases c26 : 0 ≤ (ji25)
      ·rw [if_pos c26] at H
       have c26b0 := eq_true c26
       have c26b1 : decide (0 ≤ (ji25)) = true := decide_eq_true c26
       clear c26
       obtain ⟨ji27, hji27⟩ : ∃ j_ : Int, (shr .u64 (a1 / 2) (ji25)) = j_ := ⟨_, rfl⟩
       replace H : ((fround_even.f (ji27) (((ji24) / 9223372036854775808) == 1) ((IntKind.u64.wrap ((ji24) * 2)) != 0)).bind fun t550 => ((fround_made.f k a0 t550 (ji10)).bind fun t551 => (some t551))) = some r := by first | (rw [hji27] at H; exact H) | (simp only [hji27] at H ⊢; exact H)
       (try rw [hji27] at A9)
       have hji27_ : ((a1 / 2) / 2 ^ min (ji25).toNat 64) = ji27 := hji27
       have hji27z : (ji25) ≤ 64 → ((a1 / 2) / 2 ^ (ji25).toNat) = ji27 := shr_small hji27
       replace H := Option.bind_eq_some_iff.mp H
       obtain ⟨t550, A280, H⟩ := H
       replace H : ((fround_made.f k a0 t550 (ji10)).bind fun t551 => (some t551)) = some r := H
       have A28 := Aside0.mk A280
       clear A280
       replace H := Option.bind_eq_some_iff.mp H
       obtain ⟨t551, A290, H⟩ := H
       replace H : (some t551) = some r := H
       have A29 := Aside0.mk A290
       clear A290
       obtain rfl := Option.some.inj H
       go_enter Try.func36, Try.ntmps36
       go_wp2_with (first | ((with_reducible refine gate_callee (f := 87) rfl ?_); refine goesL_ (some 18) rfl rfl Try.func87 (by kernel_rfl) rfl #[.int .u64 a1] rfl (by (try simp only [List.map_toArray, List.map_cons, List.map_nil]); first | done | rfl | (simp only [List.length_drop, List.length_take]; rfl) | (simp only [*]; done)) ?_; (with_reducible refine (limb_Len.calls k a1 t546 _ A9.out).mono ?_); rintro e w' ⟨rfl, ⟨nd, rfl⟩⟩; refine ⟨_, rfl, ?_⟩) | ((with_reducible refine gate_callee (f := 93) rfl ?_); refine goesL_ (some 61) rfl rfl Try.func93 (by kernel_rfl) rfl #[.int .u64 ji27, .bool (((ji24) / 9223372036854775808) == 1), .bool ((IntKind.u64.wrap ((ji24) * 2)) != 0)] rfl (by (try simp only [List.map_toArray, List.map_cons, List.map_nil]); first | done | (simp only [hji24, hji27]; rfl) | rfl | (simp only [List.length_drop, List.length_take]; rfl) | (simp only [*]; done)) ?_; (with_reducible refine (fround_even.calls ji27 (((ji24) / 9223372036854775808) == 1) ((IntKind.u64.wrap ((ji24) * 2)) != 0) t550 _ A28.out).mono ?_); rintro e w' ⟨rfl, ⟨nd, rfl⟩⟩; refine ⟨_, rfl, ?_⟩) | ((with_reducible refine gate_callee (f := 92) rfl ?_); refine goesL_ (some 63) rfl rfl Try.func92 (by kernel_rfl) rfl #[.bool a0, .int .u64 t550, .int .i64 ji10] rfl (by (try simp only [List.map_toArray, List.map_cons, List.map_nil]); first | done | (simp only [hji10]; rfl) | rfl | (simp only [List.length_drop, List.length_take]; rfl) | (simp only [*]; done)) ?_; (with_reducible refine (fround_made.calls k a0 t550 ji10 t551 _ A29.out).mono ?_); rintro e w30 ⟨rfl, hb⟩; refine ⟨_, rfl, ?_⟩; have n0_ := Aside0.mk (below_step (bb HB.out) hb); clear HB; have HB := n0_; clear n0_; (try clear hb); (try clear hb2); (try clear hk); (try clear hi)))
       go_ret
       exact ⟨by first | rfl | (simp [errW_none, errW_some] <;> rfl) | (simp only [← hji4, ← hji5, ← hji10, ← hji22, ← hji24, ← hji25, ← hji27]; first | rfl | (simp [errW_none, errW_some] <;> rfl)) | (simp [*, errW_none, errW_some] <;> rfl), by repeat (first | (with_reducible first | exact HB.out | apply below_alloc | apply pw_below_drewN | apply below_drew1) | exact HB.out)⟩
      ·rw [if_neg c26] at H
       exact absurd H (by simp)
     ·rw [if_neg c23] at H
      exact absurd H (by simp)

end Go.Proofs.Ytbpggonjcnakgaa.P
