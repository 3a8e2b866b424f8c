/- Functions of one package as Lean functions, and walks: written by a program for this claim. -/
import Derived.Test.YtbpggonjcnakgaaFbase
import Derived.Test.YtbpggonjcnakgaaBfbits
import Derived.Test.YtbpggonjcnakgaaBlimb
import Derived.Test.YtbpggonjcnakgaaBnat
import Derived.Test.YtbpggonjcnakgaaBrat
import Derived.Test.YtbpggonjcnakgaaBquot
namespace Go.Proofs.Ytbpggonjcnakgaa.P
open Go.RowKit Go.Proofs.YtbpggonjcnakgaaW.PrintWords Go.Proofs.YtbpggonjcnakgaaW.PrintLast Go.Proofs.YtbpggonjcnakgaaW.PrintMore
attribute [local go_sem] max2_int min2_int max_two min_two max_three min_three max_four min_four   -- for this text's walks alone
set_option linter.unusedVariables false
set_option linter.unusedSimpArgs false

def fround_made.f (k : Nat) (a0 : Bool) (a1 : Int) (a2 : Int) : Option (Int) := (fbits_Make.f k a0 a1 a2).bind fun bt542 => (if bt542.2 = true then (some bt542.1) else ((fbits_Inf.f a0).bind fun t544 => (some t544)))
set_option maxHeartbeats 8000000 in
set_option maxRecDepth 100000 in
theorem fround_made.calls (k : Nat) (a0 : Bool) (a1 : Int) (a2 : Int) (r : Int) (w : World) (h : fround_made.f k a0 a1 a2 = some r) :
  Calls Try.prog 92 #[.bool a0, .int .u64 a1, .int .i64 a2] w fun e w' => e = .returned (.int .u64 r) ∧ Below w.heap.size w w' := by
 have HB := Aside0.mk (Below.refl w.heap.size w)
 have H := h
 clear h
 unfold fround_made.f at H
 obtain ⟨⟨t542, t543⟩, A4, H⟩ := bnd H
 dsimp only at H
 refine if c5 : t543 = true then ?p117_ else ?n117_
 case' p117_ =>
  subst c5
  replace H := ift H
  obtain rfl := Option.some.inj H
 case' n117_ =>
  replace c5 := Bool.eq_false_iff.mpr c5
  subst c5
  replace H := iff_ H
  obtain ⟨t544, A7, H⟩ := bnd H
  obtain rfl := Option.some.inj H
 case p117_ | n117_ =>
  go_enter Try.func92, Try.ntmps92
  go_wp2_with (first | ((with_reducible refine gate_callee (f := 25) rfl ?_); refine goesL_ (some 13) rfl rfl Try.func25 (by kernel_rfl) rfl #[.bool a0, .int .u64 a1, .int .i64 a2] rfl lx ?_; (with_reducible refine (fbits_Make.calls k a0 a1 a2 t542 _ _ A4.out).mono ?_); rintro e w8 ⟨rfl, hb⟩; refine ⟨_, rfl, ?_⟩; refine sw1 ⟨below_step hbb hb⟩ ?_; clear HB; intro HB) | ((with_reducible refine gate_callee (f := 34) rfl ?_); refine goesL_ (some 19) rfl rfl Try.func34 (by kernel_rfl) rfl #[.bool a0] rfl lx ?_; (with_reducible refine (fbits_Inf.calls a0 t544 _ A7.out).mono ?_); rintro e w' ⟨rfl, ⟨nd, rfl⟩⟩; refine ⟨_, rfl, ?_⟩))
  go_ret
  exact ⟨er, hbb⟩

def fround_even.f (a0 : Int) (a1 : Bool) (a2 : Bool) : Option (Int) := if a1 = true then (if a2 = true then (some (IntKind.u64.wrap (a0 + 1))) else (if (Go.bits .and .u64 a0 1) = 1 then (some (IntKind.u64.wrap (a0 + 1))) else (some a0))) else (some a0)
set_option maxHeartbeats 8000000 in
set_option maxRecDepth 100000 in
theorem fround_even.calls (a0 : Int) (a1 : Bool) (a2 : Bool) (r : Int) (w : World) (h : fround_even.f a0 a1 a2 = some r) :
  Calls Try.prog 93 #[.int .u64 a0, .bool a1, .bool a2] w fun e w' => e = .returned (.int .u64 r) ∧ Drawn0 w w' := by
 have H := h
 clear h
 unfold fround_even.f at H
 by_cases c4 : a1 = true
 ·subst c4
  replace H := ift H
  by_cases c5 : a2 = true
  ·subst c5
   replace H := ift H
   obtain rfl := Option.some.inj H
   go_enter Try.func93, Try.ntmps93
   go_wp2
   go_ret
   exact ⟨by first | rfl | (simp; done) | (simp [*]; done), by repeat (first | exact Drawn0.refl _ | apply Drawn0.step)⟩
  ·replace c5 := Bool.eq_false_iff.mpr c5
   subst c5
   replace H := iff_ H
   by_cases c6 : (Go.bits .and .u64 a0 1) = 1
   ·rw [if_pos c6] at H
    have c6b0 : ((Go.bits .and .u64 a0 1) == 1) = true := beq_iff_eq.mpr c6
    have c6b1 : ((Go.bits .and .u64 a0 1) != 1) = false := bne_eq_false_iff_eq.mpr c6
    clear c6
    obtain rfl := Option.some.inj H
    go_enter Try.func93, Try.ntmps93
    go_wp2
    go_ret
    exact ⟨by first | rfl | (simp; done) | (simp [*]; done), by repeat (first | exact Drawn0.refl _ | apply Drawn0.step)⟩
   ·rw [if_neg c6] at H
    have c6b0 : ((Go.bits .and .u64 a0 1) == 1) = false := beq_eq_false_iff_ne.mpr c6
    have c6b1 : ((Go.bits .and .u64 a0 1) != 1) = true := bne_iff_ne.mpr c6
    obtain rfl := Option.some.inj H
    go_enter Try.func93, Try.ntmps93
    go_wp2
    go_ret
    exact ⟨by first | rfl | (simp; done) | (simp [*]; done), by repeat (first | exact Drawn0.refl _ | apply Drawn0.step)⟩
 ·replace c4 := Bool.eq_false_iff.mpr c4
  subst c4
  replace H := iff_ H
  obtain rfl := Option.some.inj H
  go_enter Try.func93, Try.ntmps93
  go_wp2
  go_ret
  exact ⟨by first | rfl | (simp; done) | (simp [*]; done), by repeat (first | exact Drawn0.refl _ | apply Drawn0.step)⟩

def fround_Word.f (k : Nat) (a0 : Bool) (a1 : Int) (a2 : Int) : Option (Int) := if a1 = 0 then ((fround_made.f k a0 0 0).bind fun t545 => (some t545)) else ((limb_Len.f k a1).bind fun t546 => (if (mx (wrap64 ((wrap64 (t546 + (mn (mx a2 (-1099511627776)) 1099511627776))) - 53)) (-1074)) > 971 then ((fbits_Inf.f a0).bind fun t547 => (some t547)) else (if (wrap64 ((mx (wrap64 ((wrap64 (t546 + (mn (mx a2 (-1099511627776)) 1099511627776))) - 53)) (-1074)) - (mn (mx a2 (-1099511627776)) 1099511627776))) ≤ 0 then (if 0 ≤ (wrap64 (-(wrap64 ((mx (wrap64 ((wrap64 (t546 + (mn (mx a2 (-1099511627776)) 1099511627776))) - 53)) (-1074)) - (mn (mx a2 (-1099511627776)) 1099511627776))))) then ((fround_made.f k a0 (shl .u64 a1 (wrap64 (-(wrap64 ((mx (wrap64 ((wrap64 (t546 + (mn (mx a2 (-1099511627776)) 1099511627776))) - 53)) (-1074)) - (mn (mx a2 (-1099511627776)) 1099511627776)))))) (mx (wrap64 ((wrap64 (t546 + (mn (mx a2 (-1099511627776)) 1099511627776))) - 53)) (-1074))).bind fun t548 => (some t548)) else (none)) else (if (wrap64 ((mx (wrap64 ((wrap64 (t546 + (mn (mx a2 (-1099511627776)) 1099511627776))) - 53)) (-1074)) - (mn (mx a2 (-1099511627776)) 1099511627776))) > 64 then ((fround_made.f k a0 0 0).bind fun t549 => (some t549)) else (if 0 ≤ (wrap64 (64 - (wrap64 ((mx (wrap64 ((wrap64 (t546 + (mn (mx a2 (-1099511627776)) 1099511627776))) - 53)) (-1074)) - (mn (mx a2 (-1099511627776)) 1099511627776))))) then (if 0 ≤ (wrap64 ((wrap64 ((mx (wrap64 ((wrap64 (t546 + (mn (mx a2 (-1099511627776)) 1099511627776))) - 53)) (-1074)) - (mn (mx a2 (-1099511627776)) 1099511627776))) - 1)) then ((fround_even.f (shr .u64 (a1 / 2) (wrap64 ((wrap64 ((mx (wrap64 ((wrap64 (t546 + (mn (mx a2 (-1099511627776)) 1099511627776))) - 53)) (-1074)) - (mn (mx a2 (-1099511627776)) 1099511627776))) - 1))) (((shl .u64 a1 (wrap64 (64 - (wrap64 ((mx (wrap64 ((wrap64 (t546 + (mn (mx a2 (-1099511627776)) 1099511627776))) - 53)) (-1074)) - (mn (mx a2 (-1099511627776)) 1099511627776)))))) / 9223372036854775808) == 1) ((IntKind.u64.wrap ((shl .u64 a1 (wrap64 (64 - (wrap64 ((mx (wrap64 ((wrap64 (t546 + (mn (mx a2 (-1099511627776)) 1099511627776))) - 53)) (-1074)) - (mn (mx a2 (-1099511627776)) 1099511627776)))))) * 2)) != 0)).bind fun t550 => ((fround_made.f k a0 t550 (mx (wrap64 ((wrap64 (t546 + (mn (mx a2 (-1099511627776)) 1099511627776))) - 53)) (-1074))).bind fun t551 => (some t551))) else (none)) else (none))))))
set_option maxHeartbeats 8000000 in
set_option maxRecDepth 100000 in
theorem fround_Word.calls (k : Nat) (a0 : Bool) (a1 : Int) (a2 : Int) (r : Int) (w : World) (h : fround_Word.f k a0 a1 a2 = some r) :
  Calls Try.prog 36 #[.bool a0, .int .u64 a1, .int .i64 a2] w fun e w' => e = .returned (.int .u64 r) ∧ Below w.heap.size w w' := by
 have HB := Aside0.mk (Below.refl w.heap.size w)
 have H := h
 clear h
 unfold fround_Word.f at H
 obtain ⟨ji4, hji4⟩ : ∃ j_ : Int, (mx a2 (-1099511627776)) = j_ := ⟨_, rfl⟩
 rw [hji4] at H
 have hji4_ : (if a2 < (-1099511627776) then (-1099511627776) else a2) = ji4 := hji4
 obtain ⟨ji5, hji5⟩ : ∃ j_ : Int, (mn (ji4) 1099511627776) = j_ := ⟨_, rfl⟩
 rw [hji5] at H
 have hji5_ : (if 1099511627776 < (ji4) then 1099511627776 else (ji4)) = ji5 := hji5
 refine if c6 : a1 = 0 then ?p40_ else ?n40_
 case' p40_ =>
  rw [if_pos c6] at H
  have c6b0 : (a1 == 0) = true := beq_iff_eq.mpr c6
  have c6b1 : (a1 != 0) = false := bne_eq_false_iff_eq.mpr c6
  clear c6
  obtain ⟨t545, A7, H⟩ := bnd H
  obtain rfl := Option.some.inj H
 case' n40_ =>
  rw [if_neg c6] at H
  have c6b0 : (a1 == 0) = false := beq_eq_false_iff_ne.mpr c6
  have c6b1 : (a1 != 0) = true := bne_iff_ne.mpr c6
  obtain ⟨t546, A9, H⟩ := bnd H
  obtain ⟨ji10, hji10⟩ : ∃ j_ : Int, (mx (wrap64 ((wrap64 (t546 + (ji5))) - 53)) (-1074)) = j_ := ⟨_, rfl⟩
  rw [hji10] at H
  (try rw [hji10] at A9)
  have hji10_ : (if (wrap64 ((wrap64 (t546 + (ji5))) - 53)) < (-1074) then (-1074) else (wrap64 ((wrap64 (t546 + (ji5))) - 53))) = ji10 := hji10
  refine if c11 : (ji10) > 971 then ?p41_ else ?n41_
  case' p41_ =>
   rw [if_pos c11] at H
   have c11b0 : decide (971 < (ji10)) = true := decide_eq_true c11
   clear c11
   obtain ⟨t547, A12, H⟩ := bnd H
   obtain rfl := Option.some.inj H
  case' n41_ =>
   rw [if_neg c11] at H
   have c11b0 : decide (971 < (ji10)) = false := decide_eq_false c11
   clear c11
   refine if c13 : (wrap64 ((ji10) - (ji5))) ≤ 0 then ?p42_ else ?n42_
   case' p42_ =>
    rw [if_pos c13] at H
    have c13b0 : decide ((wrap64 ((ji10) - (ji5))) ≤ 0) = true := decide_eq_true c13
    clear c13
    obtain ⟨ji14, hji14⟩ : ∃ j_ : Int, (wrap64 (-(wrap64 ((ji10) - (ji5))))) = j_ := ⟨_, rfl⟩
    rw [hji14] at H
    (try rw [hji14] at A9)
    have hji14w : (IntKind.i64.wrap (-(wrap64 ((ji10) - (ji5))))) = ji14 := (i64_w _).trans hji14
    refine if c15 : 0 ≤ (ji14) then ?p43_ else ?n43_
    case' p43_ =>
     rw [if_pos c15] at H
     have c15b0 := eq_true c15
     have c15b1 : decide (0 ≤ (ji14)) = true := decide_eq_true c15
     clear c15
     obtain ⟨ji16, hji16⟩ : ∃ j_ : Int, (shl .u64 a1 (ji14)) = j_ := ⟨_, rfl⟩
     rw [hji16] at H
     (try rw [hji16] at A9)
     have hji16_ : (IntKind.u64.wrap (a1 * 2 ^ min (ji14).toNat 64)) = ji16 := hji16
     have hji16z : (ji14) ≤ 64 → (IntKind.u64.wrap (a1 * 2 ^ (ji14).toNat)) = ji16 := shl_small hji16
     obtain ⟨t548, A17, H⟩ := bnd H
     obtain rfl := Option.some.inj H
    case n43_ =>
     rw [if_neg c15] at H
     exact absurd H (by simp)
   case' n42_ =>
    rw [if_neg c13] at H
    have c13b0 : decide ((wrap64 ((ji10) - (ji5))) ≤ 0) = false := decide_eq_false c13
    clear c13
    refine if c19 : (wrap64 ((ji10) - (ji5))) > 64 then ?p44_ else ?n44_
    case' p44_ =>
     rw [if_pos c19] at H
     have c19b0 : decide (64 < (wrap64 ((ji10) - (ji5)))) = true := decide_eq_true c19
     clear c19
     obtain ⟨t549, A20, H⟩ := bnd H
     obtain rfl := Option.some.inj H
    case' n44_ =>
     rw [if_neg c19] at H
     have c19b0 : decide (64 < (wrap64 ((ji10) - (ji5)))) = false := decide_eq_false c19
     clear c19
     obtain ⟨ji22, hji22⟩ : ∃ j_ : Int, (wrap64 (64 - (wrap64 ((ji10) - (ji5))))) = j_ := ⟨_, rfl⟩
     rw [hji22] at H
     (try rw [hji22] at A9)
     have hji22w : (IntKind.i64.wrap (64 - (wrap64 ((ji10) - (ji5))))) = ji22 := (i64_w _).trans hji22
     refine if c23 : 0 ≤ (ji22) then ?p45_ else ?n45_
     case' p45_ =>
      rw [if_pos c23] at H
      have c23b0 := eq_true c23
      have c23b1 : decide (0 ≤ (ji22)) = true := decide_eq_true c23
      clear c23
      obtain ⟨ji24, hji24⟩ : ∃ j_ : Int, (shl .u64 a1 (ji22)) = j_ := ⟨_, rfl⟩
      rw [hji24] at H
      (try rw [hji24] at A9)
      have hji24_ : (IntKind.u64.wrap (a1 * 2 ^ min (ji22).toNat 64)) = ji24 := hji24
      have hji24z : (ji22) ≤ 64 → (IntKind.u64.wrap (a1 * 2 ^ (ji22).toNat)) = ji24 := shl_small hji24
      obtain ⟨ji25, hji25⟩ : ∃ j_ : Int, (wrap64 ((wrap64 ((ji10) - (ji5))) - 1)) = j_ := ⟨_, rfl⟩
      rw [hji25] at H
      (try rw [hji25] at A9)
      have hji25w : (IntKind.i64.wrap ((wrap64 ((ji10) - (ji5))) - 1)) = ji25 := (i64_w _).trans hji25
      refine if c26 : 0 ≤ (ji25) then ?p46_ else ?n46_
      case' p46_ =>
       rw [if_pos c26] at H
       have c26b0 := eq_true c26
       have c26b1 : decide (0 ≤ (ji25)) = true := decide_eq_true c26
       clear c26
       obtain ⟨ji27, hji27⟩ : ∃ j_ : Int, (shr .u64 (a1 / 2) (ji25)) = j_ := ⟨_, rfl⟩
       rw [hji27] at H
       (try rw [hji27] at A9)
       have hji27_ : ((a1 / 2) / 2 ^ min (ji25).toNat 64) = ji27 := hji27
       have hji27z : (ji25) ≤ 64 → ((a1 / 2) / 2 ^ (ji25).toNat) = ji27 := shr_small hji27
       obtain ⟨t550, A28, H⟩ := bnd H
       obtain ⟨t551, A29, H⟩ := bnd H
       obtain rfl := Option.some.inj H
      case n46_ =>
       rw [if_neg c26] at H
       exact absurd H (by simp)
     case n45_ =>
      rw [if_neg c23] at H
      exact absurd H (by simp)
 case p40_ | p41_ | p42_ | p44_ | n44_ =>
  go_enter Try.func36, Try.ntmps36
  go_wp2_with (first | ((with_reducible refine gate_callee (f := 87) rfl ?_); refine goesL_ (some 18) rfl rfl Try.func87 (by kernel_rfl) rfl #[.int .u64 a1] rfl lx ?_; (with_reducible refine (limb_Len.calls k a1 t546 _ A9.out).mono ?_); rintro e w' ⟨rfl, ⟨nd, rfl⟩⟩; refine ⟨_, rfl, ?_⟩) | ((with_reducible refine gate_callee (f := 93) rfl ?_); refine goesL_ (some 61) rfl rfl Try.func93 (by kernel_rfl) rfl #[.int .u64 ji27, .bool (((ji24) / 9223372036854775808) == 1), .bool ((IntKind.u64.wrap ((ji24) * 2)) != 0)] rfl (by (try simp only [List.map_toArray, List.map_cons, List.map_nil]); first | done | (simp only [hji24, hji27]; rfl) | rfl | (simp only [List.length_drop, List.length_take]; rfl) | (simp only [*]; done)) ?_; (with_reducible refine (fround_even.calls ji27 (((ji24) / 9223372036854775808) == 1) ((IntKind.u64.wrap ((ji24) * 2)) != 0) t550 _ A28.out).mono ?_); rintro e w' ⟨rfl, ⟨nd, rfl⟩⟩; refine ⟨_, rfl, ?_⟩) | ((with_reducible refine gate_callee (f := 92) rfl ?_); refine goesL_ (some 63) rfl rfl Try.func92 (by kernel_rfl) rfl #[.bool a0, .int .u64 t550, .int .i64 ji10] rfl (by (try simp only [List.map_toArray, List.map_cons, List.map_nil]); first | done | (simp only [hji10]; rfl) | rfl | (simp only [List.length_drop, List.length_take]; rfl) | (simp only [*]; done)) ?_; (with_reducible refine (fround_made.calls k a0 t550 ji10 t551 _ A29.out).mono ?_); rintro e w30 ⟨rfl, hb⟩; refine ⟨_, rfl, ?_⟩; refine sw1 ⟨below_step (bb HB.out) hb⟩ ?_; clear HB; intro HB) | ((with_reducible refine gate_callee (f := 92) rfl ?_); refine goesL_ (some 39) rfl rfl Try.func92 (by kernel_rfl) rfl #[.bool a0, .int .u64 ji16, .int .i64 ji10] rfl (by (try simp only [List.map_toArray, List.map_cons, List.map_nil]); first | done | (simp only [hji10, hji16]; rfl) | rfl | (simp only [List.length_drop, List.length_take]; rfl) | (simp only [*]; done)) ?_; (with_reducible refine (fround_made.calls k a0 ji16 ji10 t548 _ A17.out).mono ?_); rintro e w18 ⟨rfl, hb⟩; refine ⟨_, rfl, ?_⟩; refine sw1 ⟨below_step (bb HB.out) hb⟩ ?_; clear HB; intro HB) | ((with_reducible refine gate_callee (f := 92) rfl ?_); refine goesL_ (some 44) rfl rfl Try.func92 (by kernel_rfl) rfl #[.bool a0, .int .u64 0, .int .i64 0] rfl lx ?_; (with_reducible refine (fround_made.calls k a0 0 0 t549 _ A20.out).mono ?_); rintro e w21 ⟨rfl, hb⟩; refine ⟨_, rfl, ?_⟩; refine sw1 ⟨below_step (bb HB.out) hb⟩ ?_; clear HB; intro HB) | ((with_reducible refine gate_callee (f := 34) rfl ?_); refine goesL_ (some 26) rfl rfl Try.func34 (by kernel_rfl) rfl #[.bool a0] rfl lx ?_; (with_reducible refine (fbits_Inf.calls a0 t547 _ A12.out).mono ?_); rintro e w' ⟨rfl, ⟨nd, rfl⟩⟩; refine ⟨_, rfl, ?_⟩) | ((with_reducible refine gate_callee (f := 92) rfl ?_); refine goesL_ (some 16) rfl rfl Try.func92 (by kernel_rfl) rfl #[.bool a0, .int .u64 0, .int .i64 0] rfl lx ?_; (with_reducible refine (fround_made.calls k a0 0 0 t545 _ A7.out).mono ?_); rintro e w8 ⟨rfl, hb⟩; refine ⟨_, rfl, ?_⟩; refine sw1 ⟨below_step (bb HB.out) hb⟩ ?_; clear HB; intro HB))
  go_ret
  first | (exact ⟨by first | rfl | (simp [errW_none, errW_some] <;> rfl) | (simp only [← hji4, ← hji5, ← hji10, ← hji22, ← hji24, ← hji25, ← hji27]; first | rfl | (simp [errW_none, errW_some] <;> rfl)) | (simp [*, errW_none, errW_some] <;> rfl), hbb⟩) | (exact ⟨by first | rfl | (simp [errW_none, errW_some] <;> rfl) | (simp only [← hji4, ← hji5, ← hji10, ← hji14, ← hji16]; first | rfl | (simp [errW_none, errW_some] <;> rfl)) | (simp [*, errW_none, errW_some] <;> rfl), hbb⟩) | (exact ⟨by first | rfl | (simp [errW_none, errW_some] <;> rfl) | (simp only [← hji4, ← hji5, ← hji10]; first | rfl | (simp [errW_none, errW_some] <;> rfl)) | (simp [*, errW_none, errW_some] <;> rfl), hbb⟩) | (exact ⟨by first | rfl | (simp [errW_none, errW_some] <;> rfl) | (simp only [← hji4, ← hji5]; first | rfl | (simp [errW_none, errW_some] <;> rfl)) | (simp [*, errW_none, errW_some] <;> rfl), hbb⟩)

def fround_FromInt.f (k : Nat) (a0 : Int) : Option (Int) := if a0 < 0 then ((fround_Word.f k true (IntKind.u64.wrap (-(IntKind.u64.wrap (a0)))) 0).bind fun t613 => (some t613)) else ((fround_Word.f k false (IntKind.u64.wrap (a0)) 0).bind fun t614 => (some t614))
set_option maxHeartbeats 8000000 in
set_option maxRecDepth 100000 in
theorem fround_FromInt.calls (k : Nat) (a0 : Int) (r : Int) (w : World) (h : fround_FromInt.f k a0 = some r) :
  Calls Try.prog 64 #[.int .i64 a0] w fun e w' => e = .returned (.int .u64 r) ∧ Below w.heap.size w w' := by
 have HB := Aside0.mk (Below.refl w.heap.size w)
 have H := h
 clear h
 unfold fround_FromInt.f at H
 refine if c2 : a0 < 0 then ?p118_ else ?n118_
 case' p118_ =>
  rw [if_pos c2] at H
  have c2b0 : decide (a0 < 0) = true := decide_eq_true c2
  clear c2
  obtain ⟨t613, A3, H⟩ := bnd H
  obtain rfl := Option.some.inj H
 case' n118_ =>
  rw [if_neg c2] at H
  have c2b0 : decide (a0 < 0) = false := decide_eq_false c2
  clear c2
  obtain ⟨t614, A5, H⟩ := bnd H
  obtain rfl := Option.some.inj H
 case p118_ | n118_ =>
  go_enter Try.func64, Try.ntmps64
  go_wp2_with (first | ((with_reducible refine gate_callee (f := 36) rfl ?_); refine goesL_ (some 8) rfl rfl Try.func36 (by kernel_rfl) rfl #[.bool true, .int .u64 (IntKind.u64.wrap (-(IntKind.u64.wrap (a0)))), .int .i64 0] rfl lx ?_; (with_reducible refine (fround_Word.calls k true (IntKind.u64.wrap (-(IntKind.u64.wrap (a0)))) 0 t613 _ A3.out).mono ?_); rintro e w4 ⟨rfl, hb⟩; refine ⟨_, rfl, ?_⟩; refine sw1 ⟨below_step hbb hb⟩ ?_; clear HB; intro HB) | ((with_reducible refine gate_callee (f := 36) rfl ?_); refine goesL_ (some 11) rfl rfl Try.func36 (by kernel_rfl) rfl #[.bool false, .int .u64 (IntKind.u64.wrap (a0)), .int .i64 0] rfl lx ?_; (with_reducible refine (fround_Word.calls k false (IntKind.u64.wrap (a0)) 0 t614 _ A5.out).mono ?_); rintro e w6 ⟨rfl, hb⟩; refine ⟨_, rfl, ?_⟩; refine sw1 ⟨below_step hbb hb⟩ ?_; clear HB; intro HB))
  go_ret
  exact ⟨er, hbb⟩

def fround_Of.j0 : Nat → Bool → List Int → Int → Option (Int)
 | 0, _, _, _ => none
 | k + 1, x0, x1, x2 => (nat_Bits.f k x1).bind fun t1291 => (if t1291 ≤ 64 then ((nat_Word.f k x1).bind fun bt1292 => ((fround_Word.f k x0 bt1292.1 x2).bind fun t1294 => (some t1294))) else (if (mx (wrap64 ((wrap64 (t1291 + x2)) - 53)) (-1074)) > 971 then ((fbits_Inf.f x0).bind fun t1295 => (some t1295)) else ((nat_Shr.f k x1 (wrap64 ((mx (wrap64 ((wrap64 (t1291 + x2)) - 53)) (-1074)) - x2))).bind fun t1296 => ((nat_Word.f k t1296).bind fun bt1299 => ((nat_Bit.f x1 (wrap64 ((wrap64 ((mx (wrap64 ((wrap64 (t1291 + x2)) - 53)) (-1074)) - x2)) - 1))).bind fun t1301 => ((nat_Even.f k x1).bind fun t1302 => ((fround_even.f bt1299.1 t1301 (decide (t1302 < (wrap64 ((wrap64 ((mx (wrap64 ((wrap64 (t1291 + x2)) - 53)) (-1074)) - x2)) - 1))))).bind fun t1303 => ((fround_made.f k x0 t1303 (mx (wrap64 ((wrap64 (t1291 + x2)) - 53)) (-1074))).bind fun t1304 => (some t1304)))))))))
def fround_Of.f (k : Nat) (a0 : Bool) (l1 : List Int) (a2 : Int) (a3 : Bool) : Option (Int) := if a3 = true then ((nat_Shl.f k l1 1).bind fun t1282 => ((nat_Of.f k 1).bind fun t1285 => ((nat_Add.f k t1282 t1285).bind fun t1288 => (fround_Of.j0 k a0 t1288 ((mn (mx a2 (-1099511627776)) 1099511627776) - 1))))) else (fround_Of.j0 k a0 l1 (mn (mx a2 (-1099511627776)) 1099511627776))
set_option maxHeartbeats 8000000 in
set_option maxRecDepth 100000 in
theorem fround_Of.calls (k : Nat) (a0 : Bool) (P1_ : Nat → Prop) (u9000_ : Value) (l1 : List Int) (a2 : Int) (a3 : Bool) (r : Int) (w0 w : World) (hB : Below w0.heap.size w0 w) (ho1 : Kd.R (Kd.int .u64) 22 w w0.heap.size P1_ u9000_ l1) (h : fround_Of.f k a0 l1 a2 a3 = some r) :
  Calls Try.prog 63 #[.bool a0, u9000_, .int .i64 a2, .bool a3] w fun e w' => e = .returned (.int .u64 r) ∧ Below w0.heap.size w0 w' ∧ Kept w w' (fun k_ => P1_ k_) := by
 have HO1 := Aside0.mk (show Kd.R (Kd.int .u64) 22 w w0.heap.size (fun k_ => (P1_ k_ ∨ w.heap.size ≤ k_)) u9000_ l1 from Kd.R_mono ho1 (fun k_ hk => (.inl hk)))
 have HK := Aside0.mk (Kept.refl w (fun k_ => P1_ k_))
 have HW0 := Aside0.mk hB.size
 have HB := Aside0.mk hB
 clear hB
 have H := h
 clear h
 unfold fround_Of.f at H
 obtain ⟨ji5, hji5⟩ : ∃ j_ : Int, (mx a2 (-1099511627776)) = j_ := ⟨_, rfl⟩
 rw [hji5] at H
 have hji5_ : (if a2 < (-1099511627776) then (-1099511627776) else a2) = ji5 := hji5
 obtain ⟨ji6, hji6⟩ : ∃ j_ : Int, (mn (ji5) 1099511627776) = j_ := ⟨_, rfl⟩
 rw [hji6] at H
 have hji6_ : (if 1099511627776 < (ji5) then 1099511627776 else (ji5)) = ji6 := hji6
 have HC7 := Aside0.mk H
 clear H
 go_enter Try.func63, Try.ntmps63
 go_upto_if 19 with (fail)
 go_cut [1, 2] (fun v1 v2 wc => ∃ (kq : Nat) (x1_6 : List Int) (x2_6 : Int), v2 = .int .i64 x2_6 ∧ Aside0 (fround_Of.j0 kq a0 x1_6 x2_6 = some r) ∧ Aside0 (kq ≤ k) ∧ Aside0 (Kd.R (Kd.int .u64) 22 wc w0.heap.size (fun k_ => (P1_ k_ ∨ w.heap.size ≤ k_)) v1 x1_6) ∧ Aside0 (Kept w wc (fun k_ => P1_ k_)) ∧ Aside0 (Below w0.heap.size w0 wc))
 case first =>
  have H := HC7.out
  clear HC7
  by_cases c8 : a3 = true
  ·subst c8
   replace H := ift H
   obtain ⟨t1282, A9, H⟩ := bnd H
   obtain ⟨t1285, A10, H⟩ := bnd H
   obtain ⟨t1288, A11, H⟩ := bnd H
   have H' := Aside0.mk H
   clear H
   obtain ⟨Ao12, co12, eo12⟩ := Kd.R_slice HO1.out
   subst eo12
   go_wp2_with (first | ((with_reducible refine gate_callee (f := 112) rfl ?_); refine goesL_ (some 21) rfl rfl Try.func112 (by kernel_rfl) rfl #[.slice Ao12 l1.length co12, .int .i64 1] rfl lx ?_; (with_reducible refine (nat_Shl.calls k _ _ l1 1 t1282 _ ?side1 ?side2 A9.out).mono ?_); (case side1 => exact cs (Kd.R_reads' HO1.out).2.2); (case side2 => exact (Kd.R_reads' HO1.out).2.1); rintro e w13 ⟨v1283, rfl, ho0, hb⟩; refine ⟨_, rfl, ?_⟩; refine sw4 ⟨Kd.R_elder' (st HO1.out) (Kd.R_base ho0) hb⟩ ⟨Kd.R_lower (Kd.R_new' (Kd.R_newM (M := fun k_ => (P1_ k_ ∨ w.heap.size ≤ k_)) ho0 (by first | exact HK.out.1 | exact (show Kept w _ (fun k_ => P1_ k_) from hkk).1) (fun k_ h_ => .inr h_)) (Kd.R_lt (st HO1.out))) (below_size (bb HB.out))⟩ ⟨Kept.below (S := (fun k_ => P1_ k_)) hkk hb⟩ ⟨below_step (bb HB.out) hb⟩ ?_; clear HO1 HK HB; intro HO1 HO1284 HK HB) | ((with_reducible refine gate_callee (f := 113) rfl ?_); refine goesL_ (some 22) rfl rfl Try.func113 (by kernel_rfl) rfl #[.int .u64 1] rfl lx ?_; (with_reducible refine (nat_Of.calls k 1 t1285 _ A10.out).mono ?_); rintro e w14 ⟨v1286, rfl, ho0, hb⟩; refine ⟨_, rfl, ?_⟩; refine sw5 ⟨Kd.R_elder' (st HO1.out) (Kd.R_base ho0) hb⟩ ⟨Kd.R_elder' (st HO1284.out) (Kd.R_base ho0) hb⟩ ⟨Kd.R_lower (Kd.R_new' (Kd.R_new' (Kd.R_newM (M := fun k_ => (P1_ k_ ∨ w.heap.size ≤ k_)) ho0 (by first | exact HK.out.1 | exact (show Kept w _ (fun k_ => P1_ k_) from hkk).1) (fun k_ h_ => .inr h_)) (Kd.R_lt (st HO1.out))) (Kd.R_lt (st HO1284.out))) (below_size (bb HB.out))⟩ ⟨Kept.below (S := (fun k_ => P1_ k_)) hkk hb⟩ ⟨below_step (bb HB.out) hb⟩ ?_; clear HO1 HO1284 HK HB; intro HO1 HO1284 HO1287 HK HB; obtain ⟨Ao15, co15, eo15⟩ := Kd.R_slice HO1284.out; subst eo15; obtain ⟨Ao16, co16, eo16⟩ := Kd.R_slice HO1287.out; subst eo16) | ((with_reducible refine gate_callee (f := 111) rfl ?_); refine goesL_ (some 23) rfl rfl Try.func111 (by kernel_rfl) rfl #[.slice Ao15 t1282.length co15, .slice Ao16 t1285.length co16] rfl lx ?_; (with_reducible refine (nat_Add.calls k _ _ t1282 _ _ t1285 t1288 _ ?side1 ?side2 ?side3 ?side4 A11.out).mono ?_); (case side1 => exact cs (Kd.R_reads' HO1284.out).2.2); (case side2 => exact (Kd.R_reads' HO1284.out).2.1); (case side3 => exact cs (Kd.R_reads' HO1287.out).2.2); (case side4 => exact (Kd.R_reads' HO1287.out).2.1); rintro e w17 ⟨v1289, rfl, ho0, hb⟩; refine ⟨_, rfl, ?_⟩; refine sw6 ⟨Kd.R_elder' (st HO1.out) (Kd.R_base ho0) hb⟩ ⟨Kd.R_elder' (st HO1284.out) (Kd.R_base ho0) hb⟩ ⟨Kd.R_elder' (st HO1287.out) (Kd.R_base ho0) hb⟩ ⟨Kd.R_lower (Kd.R_new' (Kd.R_new' (Kd.R_new' (Kd.R_newM (M := fun k_ => (P1_ k_ ∨ w.heap.size ≤ k_)) ho0 (by first | exact HK.out.1 | exact (show Kept w _ (fun k_ => P1_ k_) from hkk).1) (fun k_ h_ => .inr h_)) (Kd.R_lt (st HO1.out))) (Kd.R_lt (st HO1284.out))) (Kd.R_lt (st HO1287.out))) (below_size (bb HB.out))⟩ ⟨Kept.below (S := (fun k_ => P1_ k_)) hkk hb⟩ ⟨below_step (bb HB.out) hb⟩ ?_; clear HO1 HO1284 HO1287 HK HB; intro HO1 HO1284 HO1287 HO1290 HK HB))
   go_meet
   case rel => exact ⟨_, (t1288), ((ji6) - 1), (by first | rfl | (simp; done) | (simp only [← hji6] <;> (first | rfl | simp)) | (simp [*]; done)), H', ⟨by first | omega | exact Nat.le_refl _⟩, ⟨by (with_reducible repeat (first | apply Kd.R_alloc | apply Kd.R_drewN | apply Kd.R_drew)); exact Kd.R_mono HO1290.out (fun _ hk => hk.1.1.1.1)⟩, ⟨hkk⟩, ⟨bb HB.out⟩⟩
  ·replace c8 := Bool.eq_false_iff.mpr c8
   subst c8
   replace H := iff_ H
   have H' := Aside0.mk H
   clear H
   go_wp2
   go_meet
   case rel => exact ⟨_, (l1), (ji6), (by first | rfl | (simp; done) | (simp only [← hji6] <;> (first | rfl | simp)) | (simp [*]; done)), H', ⟨by first | omega | exact Nat.le_refl _⟩, ⟨by (with_reducible repeat (first | apply Kd.R_alloc | apply Kd.R_drewN | apply Kd.R_drew)); exact HO1.out⟩, ⟨hkk⟩, ⟨bb HB.out⟩⟩
 case rest =>
  clear HC7
  obtain ⟨kq, x1_6, x2_6, rfl, HA, HJ6, HO_1, HK, HB⟩ := hcut
  cases kq with
  | zero => exact absurd HA.out (by simp [fround_Of.j0])
  | succ kj6 =>
   have H := HA.out
   clear HA
   simp only [fround_Of.j0] at H
   obtain ⟨t1291, A18, H⟩ := bnd H
   refine if c19 : t1291 ≤ 64 then ?p38_ else ?n38_
   case' p38_ =>
    rw [if_pos c19] at H
    have c19b0 : decide (t1291 ≤ 64) = true := decide_eq_true c19
    clear c19
    obtain ⟨⟨t1292, t1293⟩, A20, H⟩ := bnd H
    dsimp only at H
    obtain ⟨t1294, A21, H⟩ := bnd H
    obtain rfl := Option.some.inj H
    obtain ⟨Ao34, co34, eo22⟩ := Kd.R_slice HO_1.out
    subst eo22
   case' n38_ =>
    rw [if_neg c19] at H
    have c19b0 : decide (t1291 ≤ 64) = false := decide_eq_false c19
    clear c19
    obtain ⟨ji24, hji24⟩ : ∃ j_ : Int, (mx (wrap64 ((wrap64 (t1291 + x2_6)) - 53)) (-1074)) = j_ := ⟨_, rfl⟩
    rw [hji24] at H
    (try rw [hji24] at A18)
    have hji24_ : (if (wrap64 ((wrap64 (t1291 + x2_6)) - 53)) < (-1074) then (-1074) else (wrap64 ((wrap64 (t1291 + x2_6)) - 53))) = ji24 := hji24
    refine if c25 : (ji24) > 971 then ?p39_ else ?n39_
    case' p39_ =>
     rw [if_pos c25] at H
     have c25b0 : decide (971 < (ji24)) = true := decide_eq_true c25
     clear c25
     obtain ⟨t1295, A26, H⟩ := bnd H
     obtain rfl := Option.some.inj H
     obtain ⟨Ao34, co34, eo27⟩ := Kd.R_slice HO_1.out
     subst eo27
    case' n39_ =>
     rw [if_neg c25] at H
     have c25b0 : decide (971 < (ji24)) = false := decide_eq_false c25
     clear c25
     obtain ⟨t1296, A28, H⟩ := bnd H
     obtain ⟨⟨t1299, t1300⟩, A29, H⟩ := bnd H
     dsimp only at H
     obtain ⟨t1301, A30, H⟩ := bnd H
     obtain ⟨t1302, A31, H⟩ := bnd H
     obtain ⟨t1303, A32, H⟩ := bnd H
     obtain ⟨t1304, A33, H⟩ := bnd H
     obtain rfl := Option.some.inj H
     obtain ⟨Ao34, co34, eo34⟩ := Kd.R_slice HO_1.out
     subst eo34
   case p38_ | p39_ | n39_ =>
    go_wp2_with (first | ((with_reducible refine gate_callee (f := 114) rfl ?_); refine goesL_ (some 27) rfl rfl Try.func114 (by kernel_rfl) rfl #[.slice Ao34 x1_6.length co34] rfl lx ?_; (with_reducible refine (nat_Bits.calls kj6 _ _ x1_6 t1291 _ ?side1 ?side2 A18.out).mono ?_); (case side1 => exact cs (Kd.R_reads' HO_1.out).2.2); (case side2 => exact (Kd.R_reads' HO_1.out).2.1); rintro e w' ⟨rfl, ⟨nd, rfl⟩⟩; refine ⟨_, rfl, ?_⟩) | ((with_reducible refine gate_callee (f := 116) rfl ?_); refine goesL_ (some 54) rfl rfl Try.func116 (by kernel_rfl) rfl #[.slice Ao34 x1_6.length co34, .int .i64 (wrap64 ((ji24) - x2_6))] rfl (by (try simp only [List.map_toArray, List.map_cons, List.map_nil]); first | done | (simp only [hji24]; rfl) | rfl | (simp only [List.length_drop, List.length_take]; rfl) | (simp only [*]; done)) ?_; (with_reducible refine (nat_Shr.calls kj6 _ _ x1_6 (wrap64 ((ji24) - x2_6)) t1296 _ ?side1 ?side2 A28.out).mono ?_); (case side1 => exact cs (Kd.R_reads' HO_1.out).2.2); (case side2 => exact (Kd.R_reads' HO_1.out).2.1); rintro e w35 ⟨v1297, rfl, ho0, hb⟩; refine ⟨_, rfl, ?_⟩; refine sw4 ⟨Kd.R_elder' (st HO_1.out) (Kd.R_base ho0) hb⟩ ⟨Kd.R_lower (Kd.R_new' (Kd.R_newM (M := fun k_ => (P1_ k_ ∨ w.heap.size ≤ k_)) ho0 (by first | exact HK.out.1 | exact (show Kept w _ (fun k_ => P1_ k_) from hkk).1) (fun k_ h_ => .inr h_)) (Kd.R_lt (st HO_1.out))) (below_size (bb HB.out))⟩ ⟨Kept.below (S := (fun k_ => P1_ k_)) hkk hb⟩ ⟨below_step (bb HB.out) hb⟩ ?_; clear HO_1 HK HB; intro HO_1 HO1298 HK HB; obtain ⟨Ao36, co36, eo36⟩ := Kd.R_slice HO1298.out; subst eo36) | ((with_reducible refine gate_callee (f := 115) rfl ?_); refine goesL_ (some 55) rfl rfl Try.func115 (by kernel_rfl) rfl #[.slice Ao36 t1296.length co36] rfl lx ?_; (with_reducible refine (nat_Word.calls kj6 _ _ t1296 t1299 t1300 _ ?side1 ?side2 A29.out).mono ?_); (case side1 => exact cs (Kd.R_reads' HO1298.out).2.2); (case side2 => exact (Kd.R_reads' HO1298.out).2.1); rintro e w' ⟨rfl, ⟨nd, rfl⟩⟩; refine ⟨_, rfl, ?_⟩) | ((with_reducible refine gate_callee (f := 117) rfl ?_); refine goesL_ (some 63) rfl rfl Try.func117 (by kernel_rfl) rfl #[.slice Ao34 x1_6.length co34, .int .i64 (wrap64 ((wrap64 ((ji24) - x2_6)) - 1))] rfl (by (try simp only [List.map_toArray, List.map_cons, List.map_nil]); first | done | (simp only [hji24]; rfl) | rfl | (simp only [List.length_drop, List.length_take]; rfl) | (simp only [*]; done)) ?_; (with_reducible refine (nat_Bit.calls _ _ x1_6 (wrap64 ((wrap64 ((ji24) - x2_6)) - 1)) t1301 _ ?side1 ?side2 A30.out).mono ?_); (case side1 => exact cs (Kd.R_reads' HO_1.out).2.2); (case side2 => exact (Kd.R_reads' HO_1.out).2.1); rintro e w' ⟨rfl, ⟨nd, rfl⟩⟩; refine ⟨_, rfl, ?_⟩) | ((with_reducible refine gate_callee (f := 118) rfl ?_); refine goesL_ (some 65) rfl rfl Try.func118 (by kernel_rfl) rfl #[.slice Ao34 x1_6.length co34] rfl lx ?_; (with_reducible refine (nat_Even.calls kj6 _ _ x1_6 t1302 _ ?side1 ?side2 A31.out).mono ?_); (case side1 => exact cs (Kd.R_reads' HO_1.out).2.2); (case side2 => exact (Kd.R_reads' HO_1.out).2.1); rintro e w' ⟨rfl, ⟨nd, rfl⟩⟩; refine ⟨_, rfl, ?_⟩) | ((with_reducible refine gate_callee (f := 93) rfl ?_); refine goesL_ (some 69) rfl rfl Try.func93 (by kernel_rfl) rfl #[.int .u64 t1299, .bool t1301, .bool (decide (t1302 < (wrap64 ((wrap64 ((ji24) - x2_6)) - 1))))] rfl (by (try simp only [List.map_toArray, List.map_cons, List.map_nil]); first | done | (simp only [hji24]; rfl) | rfl | (simp only [List.length_drop, List.length_take]; rfl) | (simp only [*]; done)) ?_; (with_reducible refine (fround_even.calls t1299 t1301 (decide (t1302 < (wrap64 ((wrap64 ((ji24) - x2_6)) - 1)))) t1303 _ A32.out).mono ?_); rintro e w' ⟨rfl, ⟨nd, rfl⟩⟩; refine ⟨_, rfl, ?_⟩) | ((with_reducible refine gate_callee (f := 92) rfl ?_); refine goesL_ (some 71) rfl rfl Try.func92 (by kernel_rfl) rfl #[.bool a0, .int .u64 t1303, .int .i64 ji24] rfl (by (try simp only [List.map_toArray, List.map_cons, List.map_nil]); first | done | (simp only [hji24]; rfl) | rfl | (simp only [List.length_drop, List.length_take]; rfl) | (simp only [*]; done)) ?_; (with_reducible refine (fround_made.calls kj6 a0 t1303 ji24 t1304 _ A33.out).mono ?_); rintro e w37 ⟨rfl, hb⟩; refine ⟨_, rfl, ?_⟩; refine sw4 ⟨Kd.R_below (st HO_1.out) hb⟩ ⟨Kd.R_below (st HO1298.out) hb⟩ ⟨Kept.below (S := (fun k_ => P1_ k_)) hkk hb⟩ ⟨below_step (bb HB.out) hb⟩ ?_; clear HO_1 HO1298 HK HB; intro HO_1 HO1298 HK HB) | ((with_reducible refine gate_callee (f := 115) rfl ?_); refine goesL_ (some 32) rfl rfl Try.func115 (by kernel_rfl) rfl #[.slice Ao34 x1_6.length co34] rfl lx ?_; (with_reducible refine (nat_Word.calls kj6 _ _ x1_6 t1292 t1293 _ ?side1 ?side2 A20.out).mono ?_); (case side1 => exact cs (Kd.R_reads' HO_1.out).2.2); (case side2 => exact (Kd.R_reads' HO_1.out).2.1); rintro e w' ⟨rfl, ⟨nd, rfl⟩⟩; refine ⟨_, rfl, ?_⟩) | ((with_reducible refine gate_callee (f := 36) rfl ?_); refine goesL_ (some 38) rfl rfl Try.func36 (by kernel_rfl) rfl #[.bool a0, .int .u64 t1292, .int .i64 x2_6] rfl lx ?_; (with_reducible refine (fround_Word.calls kj6 a0 t1292 x2_6 t1294 _ A21.out).mono ?_); rintro e w23 ⟨rfl, hb⟩; refine ⟨_, rfl, ?_⟩; refine sw3 ⟨Kd.R_below (st HO_1.out) hb⟩ ⟨Kept.below (S := (fun k_ => P1_ k_)) hkk hb⟩ ⟨below_step (bb HB.out) hb⟩ ?_; clear HO_1 HK HB; intro HO_1 HK HB) | ((with_reducible refine gate_callee (f := 34) rfl ?_); refine goesL_ (some 47) rfl rfl Try.func34 (by kernel_rfl) rfl #[.bool a0] rfl lx ?_; (with_reducible refine (fbits_Inf.calls a0 t1295 _ A26.out).mono ?_); rintro e w' ⟨rfl, ⟨nd, rfl⟩⟩; refine ⟨_, rfl, ?_⟩))
    go_ret
    first | (exact ⟨by first | rfl | (simp [errW_none, errW_some] <;> rfl) | (simp only [← hji5, ← hji6, ← hji24]; first | rfl | (simp [errW_none, errW_some] <;> rfl)) | (simp [*, errW_none, errW_some] <;> rfl), hbb, hkk⟩) | (exact ⟨by first | rfl | (simp [errW_none, errW_some] <;> rfl) | (simp only [← hji5, ← hji6]; first | rfl | (simp [errW_none, errW_some] <;> rfl)) | (simp [*, errW_none, errW_some] <;> rfl), hbb, hkk⟩)

def fround_FromRat.j0 : Nat → Int → Bool → Bool → List Int → List Int → Option (Int)
 | 0, _, _, _, _, _ => none
 | k + 1, x3, x15, x1427000, x1427001, x1427002 => if x15 = true then (if x1427000 = true then ((rat_Sign.f k x1427000 x1427001 x1427002).bind fun t1430 => ((fround_made.f k (t1430 != 0) 0 0).bind fun t1431 => (some t1431))) else ((fround_made.f k false 0 0).bind fun t1432 => (some t1432))) else (if x3 > 1200 then ((fbits_Inf.f x1427000).bind fun t1433 => (some t1433)) else ((nat_Shl.f k x1427001 (mx (wrap64 (70 - x3)) 0)).bind fun t1434 => ((quot_Div.f k t1434 x1427002).bind fun bt1437 => ((fround_Of.f k x1427000 bt1437.1 (wrap64 (-(mx (wrap64 (70 - x3)) 0))) (decide ((bt1437.2.1.length : Int) > 0))).bind fun t1444 => (some t1444)))))
def fround_FromRat.f (k : Nat) (a0_0 : Bool) (l0_1 : List Int) (l0_2 : List Int) : Option (Int) := (nat_Bits.f k l0_1).bind fun t1427 => ((nat_Bits.f k l0_2).bind fun t1428 => ((rat_Sign.f k a0_0 l0_1 l0_2).bind fun t1429 => (if t1429 = 0 then (fround_FromRat.j0 k (wrap64 (t1427 - t1428)) true a0_0 l0_1 l0_2) else (fround_FromRat.j0 k (wrap64 (t1427 - t1428)) (decide ((wrap64 (t1427 - t1428)) < (-1200))) a0_0 l0_1 l0_2))))
def fround_FromRat.T1 : Bool × List (List Nat × List Nat) := (true, [([], []), ([0], [0]), ([1], [1]), ([], []), ([3], [3]), ([4, 2], [4]), ([2, 5], [2, 5]), ([6, 5, 0, 1, 2, 3, 4, 5, 6], [6])])
def fround_FromRat.B1 : List Nat := [0, 1, 3, 0, 8, 31, 63, 127]
theorem fround_FromRat.tab1 : rtab .any (opsOf Try.f80 1) = fround_FromRat.T1 := by kernel_rfl
theorem fround_FromRat.bits1 : waitsOk fround_FromRat.T1.2 fround_FromRat.B1 = true := by kernel_rfl
def fround_FromRat.T7 : Bool × List (List Nat × List Nat) := (true, [([], []), ([0], [0]), ([], []), ([1, 2], [1, 2]), ([], []), ([4], [4]), ([3, 5, 3], [3, 5]), ([6], [6]), ([7], [7]), ([7], [7]), ([7], [7]), ([8, 6, 0, 1, 2, 3, 4, 5, 6, 7, 8], [8]), ([9, 11, 0, 1, 2, 3, 4, 5, 6, 7, 8, 9, 11], [9]), ([10, 12, 0, 1, 2, 3, 4, 5, 6, 7, 8, 9, 10, 11, 12], [10])])
def fround_FromRat.B7 : List Nat := [0, 1, 0, 7, 0, 16, 63, 127, 255, 255, 255, 511, 3071, 8191]
theorem fround_FromRat.tab7 : rtab .any (opsOf Try.f80 7) = fround_FromRat.T7 := by kernel_rfl
theorem fround_FromRat.bits7 : waitsOk fround_FromRat.T7.2 fround_FromRat.B7 = true := by kernel_rfl
set_option maxHeartbeats 8000000 in
set_option maxRecDepth 100000 in
theorem fround_FromRat.calls (k : Nat) (a0_0 : Bool) (A0_1 : Option Addr) (c0_1 : Nat) (l0_1 : List Int) (A0_2 : Option Addr) (c0_2 : Nat) (l0_2 : List Int) (r : Int) (w : World) (hr0_1 : Kd.C (Kd.int .u64) w A0_1 l0_1.length l0_1) (hc0_1 : l0_1.length ≤ c0_1) (hr0_2 : Kd.C (Kd.int .u64) w A0_2 l0_2.length l0_2) (hc0_2 : l0_2.length ≤ c0_2) (h : fround_FromRat.f k a0_0 l0_1 l0_2 = some r) :
  Calls Try.prog 80 #[.agg #[.bool a0_0, .slice A0_1 l0_1.length c0_1, .slice A0_2 l0_2.length c0_2]] w fun e w' => e = .returned (.int .u64 r) ∧ Below w.heap.size w w' := by
 have hu32 := Try.underlying32
 have HR0_1 := Aside0.mk hr0_1
 have HC0_1 := Aside0.mk hc0_1
 clear hr0_1 hc0_1
 have HR0_2 := Aside0.mk hr0_2
 have HC0_2 := Aside0.mk hc0_2
 clear hr0_2 hc0_2
 have HB := Aside0.mk (Below.refl w.heap.size w)
 have H := h
 clear h
 unfold fround_FromRat.f at H
 replace H := Option.bind_eq_some_iff.mp H
 obtain ⟨t1427, A20, H⟩ := H
 replace H : ((nat_Bits.f k l0_2).bind fun t1428 => ((rat_Sign.f k a0_0 l0_1 l0_2).bind fun t1429 => (if t1429 = 0 then (fround_FromRat.j0 k (wrap64 (t1427 - t1428)) true a0_0 l0_1 l0_2) else (fround_FromRat.j0 k (wrap64 (t1427 - t1428)) (decide ((wrap64 (t1427 - t1428)) < (-1200))) a0_0 l0_1 l0_2)))) = some r := H
 try rw [show decide ((t1438.length : Int) > 0) = decide (0 < t1438.length) from by simp] at A20
 have A2 := Aside0.mk A20
 clear A20
 replace H := Option.bind_eq_some_iff.mp H
 obtain ⟨t1428, A30, H⟩ := H
 replace H : ((rat_Sign.f k a0_0 l0_1 l0_2).bind fun t1429 => (if t1429 = 0 then (fround_FromRat.j0 k (wrap64 (t1427 - t1428)) true a0_0 l0_1 l0_2) else (fround_FromRat.j0 k (wrap64 (t1427 - t1428)) (decide ((wrap64 (t1427 - t1428)) < (-1200))) a0_0 l0_1 l0_2))) = some r := H
 try rw [show decide ((t1438.length : Int) > 0) = decide (0 < t1438.length) from by simp] at A30
 have A3 := Aside0.mk A30
 clear A30
 have HC4 := Aside0.mk H
 clear H
 go_enter Try.func80, Try.ntmps80
 try go_wp2_with (first | ((with_reducible refine gate_dst (N := 1) rfl ?_); refine box_event ?hg (N := 1) ?hd (cs := #[.bool a0_0, .slice A0_1 l0_1.length c0_1, .slice A0_2 l0_2.length c0_2]) (t := 32) ?hr ?_; (case hd => rfl); (case hg => rfl); (case hr => first | (go_simp; done) | (go_simp; rfl)); intro gb1426 hg w5 hbox hb; refine sw4 ⟨below_step (bb HB.out) hb⟩ ⟨hbox⟩ ⟨(by rw [hg]; exact (below_size (bb HB.out)) : w.heap.size ≤ gb1426)⟩ ⟨(by rw [hg]; exact (below_size (bb HB.out)) : w.heap.size ≤ gb1426)⟩ ?_; clear HB; intro HB BK1426 GW1426 GE1426; clear hb hbox hg))
 refine sw2 ⟨blk_drew BK1426.out⟩ ⟨below_drew1 HB.out⟩ ?_
 clear BK1426 HB
 intro BK1426 HB
 refine start_ (n := 8) (S := fun w' => w'.cell? ⟨gb1426, 0, none⟩ = some (.bool a0_0) ∧ w'.cell? ⟨gb1426, 1, none⟩ = some (.slice A0_1 l0_1.length c0_1) ∧ w'.cell? ⟨gb1426, 2, none⟩ = some (.slice A0_2 l0_2.length c0_2)) (ds := []) #[false, false, false, false, false, false, false, false] (by kernel_rfl) rfl rfl ⟨(blk_cell BK1426.out 0).trans rfl, (blk_cell BK1426.out 1).trans rfl, (blk_cell BK1426.out 2).trans rfl⟩ (fun hHeld => ?_); refine with_tabW fround_FromRat.tab1 fround_FromRat.bits1 (fun HT_ HW_ => ?_)
 generalize w5.drew = w6 at BK1426 HB hHeld ⊢
 refine pu 0 (some 8) HT_ ?_
 refine pu 3 (some 11) HT_ ?_
 refine ta 1 (some 9) HT_ HW_ hHeld ?_
 refine ta 4 (some 12) HT_ HW_ hHeld ?_
 refine on 2 (some 10) HT_ (fun K hK => ?_)
 refine goes_ Try.func114 (by kernel_rfl) rfl #[.slice A0_1 l0_1.length c0_1] (by rfl) rfl rfl lx ?_
 with_reducible refine (nat_Bits.calls k _ _ l0_1 t1427 _ ?side1 ?side2 A2.out).mono ?_
 (case side1 => exact cs (Kd.C_below HR0_1.out HB.out))
 (case side2 => exact HC0_1.out)
 rintro e w' ⟨rfl, ⟨nd, rfl⟩⟩
 refine ⟨_, rfl, ?_⟩
 refine hK.out _ _ ⟨(blk_cell BK1426.out 0).trans rfl, (blk_cell BK1426.out 1).trans rfl, (blk_cell BK1426.out 2).trans rfl⟩ (fun hHeld => ?_)
 clear hK K
 refine nm ?_
 refine on 5 (some 13) HT_ (fun K hK => ?_)
 refine goes_ Try.func114 (by kernel_rfl) rfl #[.slice A0_2 l0_2.length c0_2] (by rfl) rfl rfl lx ?_
 with_reducible refine (nat_Bits.calls k _ _ l0_2 t1428 _ ?side1 ?side2 A3.out).mono ?_
 (case side1 => exact cs (Kd.C_below HR0_2.out hbb))
 (case side2 => exact HC0_2.out)
 rintro e w' ⟨rfl, ⟨nd, rfl⟩⟩
 refine ⟨_, rfl, ?_⟩
 refine hK.out _ _ ⟨(blk_cell BK1426.out 0).trans rfl, (blk_cell BK1426.out 1).trans rfl, (blk_cell BK1426.out 2).trans rfl⟩ (fun hHeld => ?_)
 clear hK K
 refine nm ?_
 refine pu 6 (some 14) HT_ ?_
 refine pu 7 (some 3) HT_ ?_
 refine done_ (done_of HT_.out (by kernel_rfl)) ?_
 go_upto_region 2 with (fail)
 go_cut [15] (fun v15 wc => ∃ (kq : Nat) (x15_3 : Bool), v15 = .bool x15_3 ∧ Aside0 (fround_FromRat.j0 kq (wrap64 (t1427 - t1428)) x15_3 a0_0 l0_1 l0_2 = some r) ∧ Aside0 (kq ≤ k) ∧ Aside0 (wc.heap[gb1426]? = some (.cells #[.bool a0_0, (.slice A0_1 l0_1.length c0_1), (.slice A0_2 l0_2.length c0_2)] 32 (0, 0))) ∧ Aside0 (Below w.heap.size w wc))
 case first =>
  have H := HC4.out
  clear HC4
  replace H := Option.bind_eq_some_iff.mp H
  obtain ⟨t1429, A70, H⟩ := H
  replace H : (if t1429 = 0 then (fround_FromRat.j0 k (wrap64 (t1427 - t1428)) true a0_0 l0_1 l0_2) else (fround_FromRat.j0 k (wrap64 (t1427 - t1428)) (decide ((wrap64 (t1427 - t1428)) < (-1200))) a0_0 l0_1 l0_2)) = some r := H
  try rw [show decide ((t1438.length : Int) > 0) = decide (0 < t1438.length) from by simp] at A70
  have A7 := Aside0.mk A70
  clear A70
  refine if c8 : t1429 = 0 then ?p5_ else ?n5_
  case' p5_ =>
   rw [if_pos c8] at H
   have c8b0 : (t1429 == 0) = true := beq_iff_eq.mpr c8
   have c8b1 : (t1429 != 0) = false := bne_eq_false_iff_eq.mpr c8
   clear c8
   (first | rw [c8b0] | (simp only [i64_w, i32_w]; rw [c8b0]) | rw [c8b1] | skip)
   have H' := Aside0.mk H
   clear H
   obtain ⟨hcz9_0, hcz9_1, hcz9_2, hfz9_0, hfz9_1, hfz9_2⟩ := cz3 BK1426
  case' n5_ =>
   rw [if_neg c8] at H
   have c8b0 : (t1429 == 0) = false := beq_eq_false_iff_ne.mpr c8
   have c8b1 : (t1429 != 0) = true := bne_iff_ne.mpr c8
   (first | rw [c8b0] | (simp only [i64_w, i32_w]; rw [c8b0]) | rw [c8b1] | skip)
   have H' := Aside0.mk H
   clear H
   obtain ⟨hcz11_0, hcz11_1, hcz11_2, hfz11_0, hfz11_1, hfz11_2⟩ := cz3 BK1426
  case p5_ | n5_ =>
   go_wp2_with (first | ((with_reducible refine gate_callee (f := 132) rfl ?_); refine goesL_ (some 17) rfl rfl Try.func132 (by kernel_rfl) rfl #[.agg #[.bool a0_0, .slice A0_1 l0_1.length c0_1, .slice A0_2 l0_2.length c0_2]] rfl lx ?_; (with_reducible refine (rat_Sign.calls k a0_0 _ _ l0_1 _ _ l0_2 t1429 _ ?side1 ?side2 ?side3 ?side4 A7.out).mono ?_); (case side1 => exact cs (Kd.C_below HR0_1.out HB.out)); (case side2 => exact HC0_1.out); (case side3 => exact cs (Kd.C_below HR0_2.out HB.out)); (case side4 => exact HC0_2.out); rintro e w12 ⟨rfl, hb⟩; refine ⟨_, rfl, ?_⟩; refine sw2 ⟨blk_below (bk BK1426.out) hb⟩ ⟨below_step hbb hb⟩ ?_; clear BK1426 HB; intro BK1426 HB))
   go_meet
   case rel => first | (exact ⟨_, (decide ((wrap64 (t1427 - t1428)) < (-1200))), (by first | rfl | (simp; done) | (simp [*]; done)), H', ⟨by first | omega | exact Nat.le_refl _⟩, ⟨by (with_reducible repeat (first | refine blk_drewN ?_ _ | refine blk_drew ?_ | refine blk_alloc ?_ _)); exact BK1426.out⟩, ⟨hbb⟩⟩) | (exact ⟨_, (true), (by first | rfl | (simp; done) | (simp [*]; done)), H', ⟨by first | omega | exact Nat.le_refl _⟩, ⟨by (with_reducible repeat (first | refine blk_drewN ?_ _ | refine blk_drew ?_ | refine blk_alloc ?_ _)); exact BK1426.out⟩, ⟨hbb⟩⟩)
 case rest =>
  clear HC4
  obtain ⟨kq, x15_3, rfl, HA, HJ3, BK1426, HB⟩ := hcut
  cases kq with
  | zero => exact absurd HA.out (by simp [fround_FromRat.j0])
  | succ kj3 =>
   have H := HA.out
   clear HA
   simp only [fround_FromRat.j0] at H
   refine if c13 : x15_3 = true then ?p6_ else ?n6_
   case' p6_ =>
    subst c13
    replace H := ift H
    refine if c14 : a0_0 = true then ?p7_ else ?n7_
    case' p7_ =>
     subst c14
     replace H := ift H
     replace H := Option.bind_eq_some_iff.mp H
     obtain ⟨t1430, A150, H⟩ := H
     replace H : ((fround_made.f kj3 (t1430 != 0) 0 0).bind fun t1431 => (some t1431)) = some r := H
     try rw [show decide ((t1438.length : Int) > 0) = decide (0 < t1438.length) from by simp] at A150
     have A15 := Aside0.mk A150
     clear A150
     replace H := Option.bind_eq_some_iff.mp H
     obtain ⟨t1431, A160, H⟩ := H
     replace H : (some t1431) = some r := H
     try rw [show decide ((t1438.length : Int) > 0) = decide (0 < t1438.length) from by simp] at A160
     have A16 := Aside0.mk A160
     clear A160
     obtain rfl := Option.some.inj H
     obtain ⟨hcz17_0, hcz17_1, hcz17_2, hfz17_0, hfz17_1, hfz17_2⟩ := cz3 BK1426
    case' n7_ =>
     replace c14 := Bool.eq_false_iff.mpr c14
     subst c14
     replace H := iff_ H
     replace H := Option.bind_eq_some_iff.mp H
     obtain ⟨t1432, A200, H⟩ := H
     replace H : (some t1432) = some r := H
     try rw [show decide ((t1438.length : Int) > 0) = decide (0 < t1438.length) from by simp] at A200
     have A20 := Aside0.mk A200
     clear A200
     obtain rfl := Option.some.inj H
     obtain ⟨hcz21_0, hcz21_1, hcz21_2, hfz21_0, hfz21_1, hfz21_2⟩ := cz3 BK1426
   case' n6_ =>
    replace c13 := Bool.eq_false_iff.mpr c13
    subst c13
    replace H := iff_ H
    refine if c23 : (wrap64 (t1427 - t1428)) > 1200 then ?p8_ else ?n8_
    case' p8_ =>
     rw [if_pos c23] at H
     have c23b0 : decide (1200 < (wrap64 (t1427 - t1428))) = true := decide_eq_true c23
     clear c23
     replace H := Option.bind_eq_some_iff.mp H
     obtain ⟨t1433, A240, H⟩ := H
     replace H : (some t1433) = some r := H
     try rw [show decide ((t1438.length : Int) > 0) = decide (0 < t1438.length) from by simp] at A240
     have A24 := Aside0.mk A240
     clear A240
     obtain rfl := Option.some.inj H
     obtain ⟨hcz25_0, hcz25_1, hcz25_2, hfz25_0, hfz25_1, hfz25_2⟩ := cz3 BK1426
    case n8_ =>
     rw [if_neg c23] at H
     have c23b0 : decide (1200 < (wrap64 (t1427 - t1428))) = false := decide_eq_false c23
     clear c23
     obtain ⟨ji26, hji26⟩ : ∃ j_ : Int, (mx (wrap64 (70 - (wrap64 (t1427 - t1428)))) 0) = j_ := ⟨_, rfl⟩
     rw [hji26] at H
     have hji26_ : (if (wrap64 (70 - (wrap64 (t1427 - t1428)))) < 0 then 0 else (wrap64 (70 - (wrap64 (t1427 - t1428))))) = ji26 := hji26
     replace H := Option.bind_eq_some_iff.mp H
     obtain ⟨t1434, A270, H⟩ := H
     replace H : ((quot_Div.f kj3 t1434 l0_2).bind fun bt1437 => ((fround_Of.f kj3 a0_0 bt1437.1 (wrap64 (-(ji26))) (decide ((bt1437.2.1.length : Int) > 0))).bind fun t1444 => (some t1444))) = some r := H
     try rw [show decide ((t1438.length : Int) > 0) = decide (0 < t1438.length) from by simp] at A270
     have A27 := Aside0.mk A270
     clear A270
     replace H := Option.bind_eq_some_iff.mp H
     obtain ⟨⟨t1437, t1438, t1439⟩, A280, H⟩ := H
     replace H : ((fround_Of.f kj3 a0_0 t1437 (wrap64 (-(ji26))) (decide ((t1438.length : Int) > 0))).bind fun t1444 => (some t1444)) = some r := H
     try rw [show decide ((t1438.length : Int) > 0) = decide (0 < t1438.length) from by simp] at A280
     have A28 := Aside0.mk A280
     clear A280
     replace H := Option.bind_eq_some_iff.mp H
     obtain ⟨t1444, A290, H⟩ := H
     replace H : (some t1444) = some r := H
     try rw [show decide ((t1438.length : Int) > 0) = decide (0 < t1438.length) from by simp] at A290
     have A29 := Aside0.mk A290
     clear A290
     obtain rfl := Option.some.inj H
     try go_wp2
     refine sw2 ⟨blk_drew BK1426.out⟩ ⟨below_drew1 HB.out⟩ ?_
     clear BK1426 HB
     intro BK1426 HB
     refine start_ (n := 14) (S := fun w' => w'.cell? ⟨gb1426, 0, none⟩ = some (.bool a0_0) ∧ w'.cell? ⟨gb1426, 1, none⟩ = some (.slice A0_1 l0_1.length c0_1) ∧ w'.cell? ⟨gb1426, 2, none⟩ = some (.slice A0_2 l0_2.length c0_2)) (ds := []) #[false, false, false, false, false, false, false, false, false, false, false, false, false, false] (by kernel_rfl) rfl rfl ⟨(blk_cell BK1426.out 0).trans rfl, (blk_cell BK1426.out 1).trans rfl, (blk_cell BK1426.out 2).trans rfl⟩ (fun hHeld => ?_); refine with_tabW fround_FromRat.tab7 fround_FromRat.bits7 (fun HT_ HW_ => ?_)
     generalize wc.drew = w30 at BK1426 HB hHeld ⊢
     refine pu 0 (some 41) HT_ ?_
     refine pu 2 (some 43) HT_ ?_
     refine pu 4 (some 45) HT_ ?_
     refine ta 1 (some 42) HT_ HW_ hHeld ?_
     refine ta 5 (some 46) HT_ HW_ hHeld ?_
     refine on 3 (some 44) HT_ (fun K hK => ?_)
     refine goes_ Try.func112 (by kernel_rfl) rfl #[.slice A0_1 l0_1.length c0_1, .int .i64 ji26] (by rfl) rfl rfl (by (try simp only [List.map_toArray, List.map_cons, List.map_nil]); first | done | (simp only [hji26]; rfl) | rfl | (simp only [List.length_drop, List.length_take]; rfl) | (simp only [*]; done)) ?_
     with_reducible refine (nat_Shl.calls kj3 _ _ l0_1 ji26 t1434 _ ?side1 ?side2 A27.out).mono ?_
     (case side1 => exact cs (Kd.C_below HR0_1.out HB.out))
     (case side2 => exact HC0_1.out)
     rintro e w31 ⟨v1435, rfl, ho0, hb⟩
     refine ⟨_, rfl, ?_⟩
     refine sw3 ⟨Kd.R_lower ho0 (below_size hbb)⟩ ⟨blk_below (bk BK1426.out) hb⟩ ⟨below_step hbb hb⟩ ?_
     clear BK1426 HB
     intro HO1436 BK1426 HB
     obtain ⟨Ao32, co32, eo32⟩ := Kd.R_slice HO1436.out
     (first | subst eo32 | (injection eo32 with f1_ f2_ f3_; have f4_ := f1_.symm; have f5_ := f3_.symm; clear f1_ f2_ f3_; subst f4_; subst f5_))
     refine hK.out _ _ ⟨(blk_cell BK1426.out 0).trans rfl, (blk_cell BK1426.out 1).trans rfl, (blk_cell BK1426.out 2).trans rfl⟩ (fun hHeld => ?_)
     clear hK K
     refine nm ?_
     refine on 6 (some 47) HT_ (fun K hK => ?_)
     refine goes_ Try.func133 (by kernel_rfl) rfl #[.slice Ao32 t1434.length co32, .slice A0_2 l0_2.length c0_2] (by rfl) rfl rfl lx ?_
     with_reducible refine (quot_Div.calls kj3 _ _ t1434 _ _ l0_2 t1437 t1438 t1439 _ ?side1 ?side2 ?side3 ?side4 A28.out).mono ?_
     (case side1 => exact cs (Kd.R_reads' HO1436.out).2.2)
     (case side2 => exact (Kd.R_reads' HO1436.out).2.1)
     (case side3 => exact cs (Kd.C_below HR0_2.out HB.out))
     (case side4 => exact HC0_2.out)
     rintro e w33 ⟨v1440, v1442, rfl, ho0, ho1, hb⟩
     refine ⟨_, rfl, ?_⟩
     refine sw5 ⟨Kd.R_mono (Kd.R_told (Kd.R_told (Kd.R_old (st HO1436.out) hb) (Kd.R_base ho0)) (Kd.R_base ho1)) (fun _ h_ => h_.1)⟩ ⟨Kd.R_lower (Kd.R_new' ho0 (Kd.R_lt (st HO1436.out))) (below_size hbb)⟩ ⟨Kd.R_lower (Kd.R_new' ho1 (Kd.R_lt (st HO1436.out))) (below_size hbb)⟩ ⟨blk_below (bk BK1426.out) hb⟩ ⟨below_step hbb hb⟩ ?_
     clear HO1436 BK1426 HB
     intro HO1436 HO1441 HO1443 BK1426 HB
     refine hK.out _ _ ⟨(blk_cell BK1426.out 0).trans rfl, (blk_cell BK1426.out 1).trans rfl, (blk_cell BK1426.out 2).trans rfl⟩ (fun hHeld => ?_)
     clear hK K
     refine nm ?_
     refine pu 7 (some 40) HT_ ?_
     refine pu 8 (some 48) HT_ ?_
     refine pu 9 (some 49) HT_ ?_
     refine pu 10 (some 50) HT_ ?_
     refine pu 11 (some 5) HT_ ?_
     refine pu 12 (some 6) HT_ ?_
     refine pu 13 (some 7) HT_ ?_
     refine done_ (done_of HT_.out (by kernel_rfl)) ?_
     obtain ⟨hcz34_0, hcz34_1, hcz34_2, hfz34_0, hfz34_1, hfz34_2⟩ := cz3 BK1426
     obtain ⟨Ao35, co35, eo35⟩ := Kd.R_slice HO1443.out
     subst eo35
     obtain ⟨Ao36, co36, eo36⟩ := Kd.R_slice HO1441.out
     subst eo36
     try go_wp2_with (first | ((with_reducible refine gate_callee (f := 63) rfl ?_); refine goesL_ (some 59) rfl rfl Try.func63 (by kernel_rfl) rfl #[.bool a0_0, .slice Ao36 t1437.length co36, .int .i64 (wrap64 (-(ji26))), .bool (decide (0 < t1438.length))] rfl (by (try simp only [List.map_toArray, List.map_cons, List.map_nil]); first | done | (simp only [hji26]; rfl) | rfl | (simp only [List.length_drop, List.length_take]; rfl) | (simp only [*]; done)) ?_; (with_reducible refine (fround_Of.calls kj3 a0_0 (fun k_ => some k_ = (.slice Ao36 t1437.length co36 : Value).ownBlock) (.slice Ao36 t1437.length co36) t1437 (wrap64 (-(ji26))) (decide (0 < t1438.length)) t1444 w _ ?side1 ?side2 A29.out).mono ?_); (case side1 => repeat (first | (with_reducible first | exact HB.out | apply below_alloc | apply pw_below_drewN | apply below_drew1 | refine below_set ?_ GE1426.out) | exact HB.out)); (case side2 => exact Kd.R_tight rfl HO1441.out); rintro e w37 ⟨rfl, hb, hkp⟩; refine ⟨_, rfl, ?_⟩; refine sw4 ⟨blk_kept (bk BK1426.out) hkp (fun hs_ => (fun e_ => (Kd.R_ne HO1441.out BK1426.out (by decide)) e_) hs_)⟩ ⟨Kd.R_mono (ok' := fun k_ => some k_ ≠ (.slice Ao35 t1438.length co35 : Value).ownBlock) (Kd.R_keptB (HO1436.out) hkp (fun k_ hk_ hs_ => (hk_.1.2) hs_)) (fun k_ hk_ => hk_.1.2)⟩ ⟨Kd.R_mono (ok' := fun k_ => some k_ ≠ (.slice Ao32 t1434.length co32 : Value).ownBlock) (Kd.R_keptB (HO1443.out) hkp (fun k_ hk_ hs_ => (hk_.1) hs_)) (fun k_ hk_ => hk_.1.2)⟩ ⟨hb⟩ ?_; clear BK1426 HO1436 HO1443 HB HO1441; intro BK1426 HO1436 HO1443 HB))
     go_ret
     exact ⟨by first | rfl | (simp [errW_none, errW_some] <;> rfl) | (simp only [← hji26]; first | rfl | (simp [errW_none, errW_some] <;> rfl)) | (simp [*, errW_none, errW_some] <;> rfl), hbb⟩
   case p7_ | n7_ | n6_ =>
    go_wp2_with (first | (go_at_call 132; (with_reducible refine (rat_Sign.calls kj3 true _ _ l0_1 _ _ l0_2 t1430 _ ?side1 ?side2 ?side3 ?side4 A15.out).mono ?_); (case side1 => exact cs (Kd.C_below HR0_1.out HB.out)); (case side2 => exact HC0_1.out); (case side3 => exact cs (Kd.C_below HR0_2.out HB.out)); (case side4 => exact HC0_2.out); rintro e w18 ⟨rfl, hb⟩; refine sw2 ⟨blk_below (bk BK1426.out) hb⟩ ⟨below_step hbb hb⟩ ?_; clear BK1426 HB; intro BK1426 HB) | ((with_reducible refine gate_callee (f := 92) rfl ?_); refine goesL_ (some 30) rfl rfl Try.func92 (by kernel_rfl) rfl #[.bool (t1430 != 0), .int .u64 0, .int .i64 0] rfl lx ?_; (with_reducible refine (fround_made.calls kj3 (t1430 != 0) 0 0 t1431 _ A16.out).mono ?_); rintro e w19 ⟨rfl, hb⟩; refine ⟨_, rfl, ?_⟩; refine sw2 ⟨blk_below (bk BK1426.out) hb⟩ ⟨below_step hbb hb⟩ ?_; clear BK1426 HB; intro BK1426 HB) | ((with_reducible refine gate_callee (f := 92) rfl ?_); refine goesL_ (some 30) rfl rfl Try.func92 (by kernel_rfl) rfl #[.bool false, .int .u64 0, .int .i64 0] rfl lx ?_; (with_reducible refine (fround_made.calls kj3 false 0 0 t1432 _ A20.out).mono ?_); rintro e w22 ⟨rfl, hb⟩; refine ⟨_, rfl, ?_⟩; refine sw2 ⟨blk_below (bk BK1426.out) hb⟩ ⟨below_step hbb hb⟩ ?_; clear BK1426 HB; intro BK1426 HB) | ((with_reducible refine gate_callee (f := 34) rfl ?_); refine goesL_ (some 36) rfl rfl Try.func34 (by kernel_rfl) rfl #[.bool a0_0] rfl lx ?_; (with_reducible refine (fbits_Inf.calls a0_0 t1433 _ A24.out).mono ?_); rintro e w' ⟨rfl, ⟨nd, rfl⟩⟩; refine ⟨_, rfl, ?_⟩))
    go_ret
    exact ⟨er, hbb⟩

def fround_ToRat.f (k : Nat) (a0 : Int) : Option (Bool × List Int × List Int × Int) := (fbits_Parts.f k a0).bind fun bt1597 => (if bt1597.2.2.2 = true then (if bt1597.2.2.1 ≥ 0 then ((nat_Of.f k bt1597.2.1).bind fun t1601 => ((nat_Shl.f k t1601 bt1597.2.2.1).bind fun t1604 => ((nat_Of.f k 1).bind fun t1607 => ((rat_Make.f k bt1597.1 t1604 t1607).bind fun bt1610 => (some (bt1610.1, bt1610.2.1, bt1610.2.2.1, bt1610.2.2.2)))))) else ((nat_Of.f k bt1597.2.1).bind fun t1618 => ((nat_Of.f k 1).bind fun t1621 => ((nat_Shl.f k t1621 (wrap64 (-bt1597.2.2.1))).bind fun t1624 => ((rat_Make.f k bt1597.1 t1618 t1624).bind fun bt1627 => (some (bt1627.1, bt1627.2.1, bt1627.2.2.1, bt1627.2.2.2))))))) else (some (false, ([] : List Int), ([] : List Int), 1)))
set_option maxHeartbeats 8000000 in
set_option maxRecDepth 100000 in
theorem fround_ToRat.calls (k : Nat) (a0 : Int) (r1 : Bool) (r2 : List Int) (r3 : List Int) (r4 : Int) (w : World) (h : fround_ToRat.f k a0 = some (r1, r2, r3, r4)) :
  Calls Try.prog 83 #[.int .u64 a0] w fun e w' => ∃ v1_ v2_ : Value, e = .returned (.tuple #[.agg #[.bool r1, v1_, v2_], .int .i64 r4]) ∧ Kd.R (Kd.int .u64) 22 w' w.heap.size (fun k_ => some k_ ≠ (v2_ : Value).ownBlock) v1_ r2 ∧ Kd.R (Kd.int .u64) 22 w' w.heap.size (fun k_ => some k_ ≠ (v1_ : Value).ownBlock) v2_ r3 ∧ Below w.heap.size w w' := by
 have hu32 := Try.underlying32
 have HB := Aside0.mk (Below.refl w.heap.size w)
 have H := h
 clear h
 unfold fround_ToRat.f at H
 obtain ⟨⟨t1597, t1598, t1599, t1600⟩, A2, H⟩ := bnd H
 dsimp only at H
 refine if c3 : t1600 = true then ?p22_ else ?n22_
 case' p22_ =>
  subst c3
  replace H := ift H
  refine if c4 : t1599 ≥ 0 then ?p23_ else ?n23_
  case' p23_ =>
   rw [if_pos c4] at H
   have c4b0 : decide (0 ≤ t1599) = true := decide_eq_true c4
   clear c4
   obtain ⟨t1601, A5, H⟩ := bnd H
   obtain ⟨t1604, A6, H⟩ := bnd H
   obtain ⟨t1607, A7, H⟩ := bnd H
   obtain ⟨⟨t1610, t1611, t1614, t1617⟩, A8, H⟩ := bnd H
   dsimp only at H
   simp only [Option.some.injEq, Prod.mk.injEq] at H
   obtain ⟨rfl, rfl, rfl, rfl⟩ := H
  case' n23_ =>
   rw [if_neg c4] at H
   have c4b0 : decide (0 ≤ t1599) = false := decide_eq_false c4
   clear c4
   obtain ⟨t1618, A20, H⟩ := bnd H
   obtain ⟨t1621, A21, H⟩ := bnd H
   obtain ⟨t1624, A22, H⟩ := bnd H
   obtain ⟨⟨t1627, t1628, t1631, t1634⟩, A23, H⟩ := bnd H
   dsimp only at H
   simp only [Option.some.injEq, Prod.mk.injEq] at H
   obtain ⟨rfl, rfl, rfl, rfl⟩ := H
 case' n22_ =>
  replace c3 := Bool.eq_false_iff.mpr c3
  subst c3
  replace H := iff_ H
  simp only [Option.some.injEq, Prod.mk.injEq] at H
  obtain ⟨rfl, rfl, rfl, rfl⟩ := H
 case p23_ | n23_ | n22_ =>
  go_enter Try.func83, Try.ntmps83
  go_wp2_with (first | ((with_reducible refine gate_dst (N := 2) rfl ?_); refine box_event ?hg (N := 2) ?hd (cs := #[.bool false, .slice none 0 0, .slice none 0 0]) (t := 32) ?hr ?_; (case hd => rfl); (case hg => rfl); (case hr => first | (go_simp; done) | (go_simp; rfl)); intro gb1596 hg w24 hbox hb; refine sw4 ⟨below_step (bb HB.out) hb⟩ ⟨hbox⟩ ⟨(by rw [hg]; exact (below_size (bb HB.out)) : w.heap.size ≤ gb1596)⟩ ⟨(by rw [hg]; exact (below_size (bb HB.out)) : w.heap.size ≤ gb1596)⟩ ?_; clear HB; intro HB BK1596 GW1596 GE1596; clear hb hbox hg) | ((with_reducible refine gate_callee (f := 24) rfl ?_); refine goesL_ (some 10) rfl rfl Try.func24 (by kernel_rfl) rfl #[.int .u64 a0] rfl lx ?_; (with_reducible refine (fbits_Parts.calls k a0 t1597 t1598 t1599 _ _ A2.out).mono ?_); rintro e w' ⟨rfl, ⟨nd, rfl⟩⟩; refine ⟨_, rfl, ?_⟩; (try (rw [drewN_self w24]; generalize hq_ : World.drewN w24 _ = w24; have n0_ : Aside0 (w24.heap[gb1596]? = some (.cells #[.bool false, .slice none 0 0, .slice none 0 0] 32 (0, 0))) := ⟨by rw [← hq_]; exact (bk BK1596.out)⟩; have n1_ : Aside0 (Below w.heap.size w w24) := ⟨by rw [← hq_]; exact hbb⟩; clear BK1596 HB hq_; have BK1596 := n0_; have HB := n1_; clear n0_ n1_)); obtain ⟨hcz36_0, hcz36_1, hcz36_2, hfz36_0, hfz36_1, hfz36_2⟩ := cz3 BK1596) | ((with_reducible refine gate_callee (f := 113) rfl ?_); refine goesL_ (some 31) rfl rfl Try.func113 (by kernel_rfl) rfl #[.int .u64 t1598] rfl lx ?_; (with_reducible refine (nat_Of.calls k t1598 t1618 _ A20.out).mono ?_); rintro e w25 ⟨v1619, rfl, ho0, hb⟩; refine ⟨_, rfl, ?_⟩; refine sw3 ⟨Kd.R_lower ho0 (below_size hbb)⟩ ⟨blk_below (bk BK1596.out) hb⟩ ⟨below_step hbb hb⟩ ?_; clear BK1596 HB; intro HO1620 BK1596 HB) | ((with_reducible refine gate_callee (f := 113) rfl ?_); refine goesL_ (some 32) rfl rfl Try.func113 (by kernel_rfl) rfl #[.int .u64 1] rfl lx ?_; (with_reducible refine (nat_Of.calls k 1 t1621 _ A21.out).mono ?_); rintro e w26 ⟨v1622, rfl, ho0, hb⟩; refine ⟨_, rfl, ?_⟩; refine sw4 ⟨Kd.R_elder' (st HO1620.out) (Kd.R_base ho0) hb⟩ ⟨Kd.R_lower (Kd.R_new' ho0 (Kd.R_lt (st HO1620.out))) (below_size hbb)⟩ ⟨blk_below (bk BK1596.out) hb⟩ ⟨below_step hbb hb⟩ ?_; clear HO1620 BK1596 HB; intro HO1620 HO1623 BK1596 HB; obtain ⟨Ao27, co27, eo27⟩ := Kd.R_slice HO1623.out; subst eo27) | ((with_reducible refine gate_callee (f := 112) rfl ?_); refine goesL_ (some 35) rfl rfl Try.func112 (by kernel_rfl) rfl #[.slice Ao27 t1621.length co27, .int .i64 (wrap64 (-t1599))] rfl lx ?_; (with_reducible refine (nat_Shl.calls k _ _ t1621 (wrap64 (-t1599)) t1624 _ ?side1 ?side2 A22.out).mono ?_); (case side1 => exact cs (Kd.R_reads' HO1623.out).2.2); (case side2 => exact (Kd.R_reads' HO1623.out).2.1); rintro e w28 ⟨v1625, rfl, ho0, hb⟩; refine ⟨_, rfl, ?_⟩; refine sw5 ⟨Kd.R_elder' (st HO1620.out) (Kd.R_base ho0) hb⟩ ⟨Kd.R_elder' (st HO1623.out) (Kd.R_base ho0) hb⟩ ⟨Kd.R_lower (Kd.R_new' (Kd.R_new' ho0 (Kd.R_lt (st HO1620.out))) (Kd.R_lt (st HO1623.out))) (below_size hbb)⟩ ⟨blk_below (bk BK1596.out) hb⟩ ⟨below_step hbb hb⟩ ?_; clear HO1620 HO1623 BK1596 HB; intro HO1620 HO1623 HO1626 BK1596 HB; obtain ⟨Ao29, co29, eo29⟩ := Kd.R_slice HO1620.out; subst eo29; obtain ⟨Ao30, co30, eo30⟩ := Kd.R_slice HO1626.out; subst eo30) | ((with_reducible refine gate_callee (f := 137) rfl ?_); refine goesL_ (some 36) rfl rfl Try.func137 (by kernel_rfl) rfl #[.bool t1597, .slice Ao29 t1618.length co29, .slice Ao30 t1624.length co30] rfl lx ?_; (with_reducible refine (rat_Make.calls k t1597 _ _ t1618 _ _ t1624 t1627 t1628 t1631 t1634 _ ?side1 ?side2 ?side3 ?side4 A23.out).mono ?_); (case side1 => exact cs (Kd.R_reads' HO1620.out).2.2); (case side2 => exact (Kd.R_reads' HO1620.out).2.1); (case side3 => exact cs (Kd.R_reads' HO1626.out).2.2); (case side4 => exact (Kd.R_reads' HO1626.out).2.1); rintro e w31 ⟨v1629, v1632, rfl, ho0, ho1, hb⟩; refine ⟨_, rfl, ?_⟩; refine sw7 ⟨Kd.R_mono (Kd.R_told (Kd.R_told (Kd.R_old (st HO1620.out) hb) (Kd.R_base ho0)) (Kd.R_base ho1)) (fun _ h_ => h_.1)⟩ ⟨Kd.R_mono (Kd.R_told (Kd.R_told (Kd.R_old (st HO1623.out) hb) (Kd.R_base ho0)) (Kd.R_base ho1)) (fun _ h_ => h_.1)⟩ ⟨Kd.R_mono (Kd.R_told (Kd.R_told (Kd.R_old (st HO1626.out) hb) (Kd.R_base ho0)) (Kd.R_base ho1)) (fun _ h_ => h_.1)⟩ ⟨Kd.R_lower (Kd.R_new' (Kd.R_new' (Kd.R_new' ho0 (Kd.R_lt (st HO1620.out))) (Kd.R_lt (st HO1623.out))) (Kd.R_lt (st HO1626.out))) (below_size hbb)⟩ ⟨Kd.R_lower (Kd.R_new' (Kd.R_new' (Kd.R_new' ho1 (Kd.R_lt (st HO1620.out))) (Kd.R_lt (st HO1623.out))) (Kd.R_lt (st HO1626.out))) (below_size hbb)⟩ ⟨blk_below (bk BK1596.out) hb⟩ ⟨below_step hbb hb⟩ ?_; clear HO1620 HO1623 HO1626 BK1596 HB; intro HO1620 HO1623 HO1626 HO1630 HO1633 BK1596 HB; obtain ⟨hcz32_0, hcz32_1, hcz32_2, hfz32_0, hfz32_1, hfz32_2⟩ := cz3 BK1596; obtain ⟨Ao33, co33, eo33⟩ := Kd.R_slice HO1630.out; subst eo33; obtain ⟨Ao34, co34, eo34⟩ := Kd.R_slice HO1633.out; subst eo34) | ((with_reducible refine gate_callee (f := 113) rfl ?_); refine goesL_ (some 22) rfl rfl Try.func113 (by kernel_rfl) rfl #[.int .u64 t1598] rfl lx ?_; (with_reducible refine (nat_Of.calls k t1598 t1601 _ A5.out).mono ?_); rintro e w10 ⟨v1602, rfl, ho0, hb⟩; refine ⟨_, rfl, ?_⟩; refine sw3 ⟨Kd.R_lower ho0 (below_size hbb)⟩ ⟨blk_below (bk BK1596.out) hb⟩ ⟨below_step hbb hb⟩ ?_; clear BK1596 HB; intro HO1603 BK1596 HB; obtain ⟨Ao11, co11, eo11⟩ := Kd.R_slice HO1603.out; subst eo11) | ((with_reducible refine gate_callee (f := 112) rfl ?_); refine goesL_ (some 24) rfl rfl Try.func112 (by kernel_rfl) rfl #[.slice Ao11 t1601.length co11, .int .i64 t1599] rfl lx ?_; (with_reducible refine (nat_Shl.calls k _ _ t1601 t1599 t1604 _ ?side1 ?side2 A6.out).mono ?_); (case side1 => exact cs (Kd.R_reads' HO1603.out).2.2); (case side2 => exact (Kd.R_reads' HO1603.out).2.1); rintro e w12 ⟨v1605, rfl, ho0, hb⟩; refine ⟨_, rfl, ?_⟩; refine sw4 ⟨Kd.R_elder' (st HO1603.out) (Kd.R_base ho0) hb⟩ ⟨Kd.R_lower (Kd.R_new' ho0 (Kd.R_lt (st HO1603.out))) (below_size hbb)⟩ ⟨blk_below (bk BK1596.out) hb⟩ ⟨below_step hbb hb⟩ ?_; clear HO1603 BK1596 HB; intro HO1603 HO1606 BK1596 HB) | ((with_reducible refine gate_callee (f := 113) rfl ?_); refine goesL_ (some 25) rfl rfl Try.func113 (by kernel_rfl) rfl #[.int .u64 1] rfl lx ?_; (with_reducible refine (nat_Of.calls k 1 t1607 _ A7.out).mono ?_); rintro e w13 ⟨v1608, rfl, ho0, hb⟩; refine ⟨_, rfl, ?_⟩; refine sw5 ⟨Kd.R_elder' (st HO1603.out) (Kd.R_base ho0) hb⟩ ⟨Kd.R_elder' (st HO1606.out) (Kd.R_base ho0) hb⟩ ⟨Kd.R_lower (Kd.R_new' (Kd.R_new' ho0 (Kd.R_lt (st HO1603.out))) (Kd.R_lt (st HO1606.out))) (below_size hbb)⟩ ⟨blk_below (bk BK1596.out) hb⟩ ⟨below_step hbb hb⟩ ?_; clear HO1603 HO1606 BK1596 HB; intro HO1603 HO1606 HO1609 BK1596 HB; obtain ⟨Ao14, co14, eo14⟩ := Kd.R_slice HO1606.out; subst eo14; obtain ⟨Ao15, co15, eo15⟩ := Kd.R_slice HO1609.out; subst eo15) | ((with_reducible refine gate_callee (f := 137) rfl ?_); refine goesL_ (some 26) rfl rfl Try.func137 (by kernel_rfl) rfl #[.bool t1597, .slice Ao14 t1604.length co14, .slice Ao15 t1607.length co15] rfl lx ?_; (with_reducible refine (rat_Make.calls k t1597 _ _ t1604 _ _ t1607 t1610 t1611 t1614 t1617 _ ?side1 ?side2 ?side3 ?side4 A8.out).mono ?_); (case side1 => exact cs (Kd.R_reads' HO1606.out).2.2); (case side2 => exact (Kd.R_reads' HO1606.out).2.1); (case side3 => exact cs (Kd.R_reads' HO1609.out).2.2); (case side4 => exact (Kd.R_reads' HO1609.out).2.1); rintro e w16 ⟨v1612, v1615, rfl, ho0, ho1, hb⟩; refine ⟨_, rfl, ?_⟩; refine sw7 ⟨Kd.R_mono (Kd.R_told (Kd.R_told (Kd.R_old (st HO1603.out) hb) (Kd.R_base ho0)) (Kd.R_base ho1)) (fun _ h_ => h_.1)⟩ ⟨Kd.R_mono (Kd.R_told (Kd.R_told (Kd.R_old (st HO1606.out) hb) (Kd.R_base ho0)) (Kd.R_base ho1)) (fun _ h_ => h_.1)⟩ ⟨Kd.R_mono (Kd.R_told (Kd.R_told (Kd.R_old (st HO1609.out) hb) (Kd.R_base ho0)) (Kd.R_base ho1)) (fun _ h_ => h_.1)⟩ ⟨Kd.R_lower (Kd.R_new' (Kd.R_new' (Kd.R_new' ho0 (Kd.R_lt (st HO1603.out))) (Kd.R_lt (st HO1606.out))) (Kd.R_lt (st HO1609.out))) (below_size hbb)⟩ ⟨Kd.R_lower (Kd.R_new' (Kd.R_new' (Kd.R_new' ho1 (Kd.R_lt (st HO1603.out))) (Kd.R_lt (st HO1606.out))) (Kd.R_lt (st HO1609.out))) (below_size hbb)⟩ ⟨blk_below (bk BK1596.out) hb⟩ ⟨below_step hbb hb⟩ ?_; clear HO1603 HO1606 HO1609 BK1596 HB; intro HO1603 HO1606 HO1609 HO1613 HO1616 BK1596 HB; obtain ⟨hcz17_0, hcz17_1, hcz17_2, hfz17_0, hfz17_1, hfz17_2⟩ := cz3 BK1596; obtain ⟨Ao18, co18, eo18⟩ := Kd.R_slice HO1613.out; subst eo18; obtain ⟨Ao19, co19, eo19⟩ := Kd.R_slice HO1616.out; subst eo19))
  first | (refine bodyPost_ret (results_ct rfl _ _ gb1596 32 #[.bool t1627, .slice Ao33 t1628.length co33, .slice Ao34 t1631.length co34] (0, 0) _ rfl (by (with_reducible repeat (first | refine blk_drewN ?_ _ | refine blk_drew ?_ | refine blk_alloc ?_ _)); refine blk_put (cs := #[.bool t1627, .slice Ao33 t1628.length co33, .slice none 0 0]) ?_ 2 _ rfl; (with_reducible repeat (first | refine blk_drewN ?_ _ | refine blk_drew ?_ | refine blk_alloc ?_ _)); refine blk_put (cs := #[.bool t1627, .slice none 0 0, .slice none 0 0]) ?_ 1 _ rfl; (with_reducible repeat (first | refine blk_drewN ?_ _ | refine blk_drew ?_ | refine blk_alloc ?_ _)); refine blk_put (cs := #[.bool false, .slice none 0 0, .slice none 0 0]) ?_ 0 _ rfl; (with_reducible repeat (first | refine blk_drewN ?_ _ | refine blk_drew ?_ | refine blk_alloc ?_ _)); exact BK1596.out) Try.underlying32 rfl (by kernel_rfl)) rfl ?_) | (refine bodyPost_ret (results_ct rfl _ _ gb1596 32 #[.bool t1610, .slice Ao18 t1611.length co18, .slice Ao19 t1614.length co19] (0, 0) _ rfl (by (with_reducible repeat (first | refine blk_drewN ?_ _ | refine blk_drew ?_ | refine blk_alloc ?_ _)); refine blk_put (cs := #[.bool t1610, .slice Ao18 t1611.length co18, .slice none 0 0]) ?_ 2 _ rfl; (with_reducible repeat (first | refine blk_drewN ?_ _ | refine blk_drew ?_ | refine blk_alloc ?_ _)); refine blk_put (cs := #[.bool t1610, .slice none 0 0, .slice none 0 0]) ?_ 1 _ rfl; (with_reducible repeat (first | refine blk_drewN ?_ _ | refine blk_drew ?_ | refine blk_alloc ?_ _)); refine blk_put (cs := #[.bool false, .slice none 0 0, .slice none 0 0]) ?_ 0 _ rfl; (with_reducible repeat (first | refine blk_drewN ?_ _ | refine blk_drew ?_ | refine blk_alloc ?_ _)); exact BK1596.out) Try.underlying32 rfl (by kernel_rfl)) rfl ?_) | (refine bodyPost_ret (results_ct rfl _ _ gb1596 32 #[.bool false, .slice none 0 0, .slice none 0 0] (0, 0) _ rfl (by (with_reducible repeat (first | refine blk_drewN ?_ _ | refine blk_drew ?_ | refine blk_alloc ?_ _)); refine blk_put (cs := #[.bool false, .slice none 0 0, .slice none 0 0]) ?_ 2 _ rfl; (with_reducible repeat (first | refine blk_drewN ?_ _ | refine blk_drew ?_ | refine blk_alloc ?_ _)); refine blk_put (cs := #[.bool false, .slice none 0 0, .slice none 0 0]) ?_ 1 _ rfl; (with_reducible repeat (first | refine blk_drewN ?_ _ | refine blk_drew ?_ | refine blk_alloc ?_ _)); refine blk_put (cs := #[.bool false, .slice none 0 0, .slice none 0 0]) ?_ 0 _ rfl; (with_reducible repeat (first | refine blk_drewN ?_ _ | refine blk_drew ?_ | refine blk_alloc ?_ _)); exact BK1596.out) Try.underlying32 rfl (by kernel_rfl)) rfl ?_)
  first | (exact ⟨_, _, by first | rfl | (simp [errW_none, errW_some] <;> rfl) | (simp [*, errW_none, errW_some] <;> rfl), by (with_reducible repeat (first | apply Kd.R_alloc | apply Kd.R_drewN | apply Kd.R_drew)); exact Kd.R_mono (Kd.R_far (p := ⟨gb1596, 2, none⟩) (Kd.R_far (p := ⟨gb1596, 1, none⟩) (Kd.R_far (p := ⟨gb1596, 0, none⟩) (Kd.R_types HO1630.out BK1596.out (by decide)) (fun _ hk => hk.2) (.bool t1627)) (fun _ hk => hk.2) (.slice Ao33 t1628.length co33)) (fun _ hk => hk.2) (.slice Ao34 t1631.length co34)) (fun _ hk => hk.1.1.1.1), by (with_reducible repeat (first | apply Kd.R_alloc | apply Kd.R_drewN | apply Kd.R_drew)); exact Kd.R_mono (Kd.R_far (p := ⟨gb1596, 2, none⟩) (Kd.R_far (p := ⟨gb1596, 1, none⟩) (Kd.R_far (p := ⟨gb1596, 0, none⟩) (Kd.R_types HO1633.out BK1596.out (by decide)) (fun _ hk => hk.2) (.bool t1627)) (fun _ hk => hk.2) (.slice Ao33 t1628.length co33)) (fun _ hk => hk.2) (.slice Ao34 t1631.length co34)) (fun _ hk => hk.1.1.1.1), hbb⟩) | (exact ⟨_, _, by first | rfl | (simp [errW_none, errW_some] <;> rfl) | (simp [*, errW_none, errW_some] <;> rfl), by (with_reducible repeat (first | apply Kd.R_alloc | apply Kd.R_drewN | apply Kd.R_drew)); exact Kd.R_mono (Kd.R_far (p := ⟨gb1596, 2, none⟩) (Kd.R_far (p := ⟨gb1596, 1, none⟩) (Kd.R_far (p := ⟨gb1596, 0, none⟩) (Kd.R_types HO1613.out BK1596.out (by decide)) (fun _ hk => hk.2) (.bool t1610)) (fun _ hk => hk.2) (.slice Ao18 t1611.length co18)) (fun _ hk => hk.2) (.slice Ao19 t1614.length co19)) (fun _ hk => hk.1.1.1.1), by (with_reducible repeat (first | apply Kd.R_alloc | apply Kd.R_drewN | apply Kd.R_drew)); exact Kd.R_mono (Kd.R_far (p := ⟨gb1596, 2, none⟩) (Kd.R_far (p := ⟨gb1596, 1, none⟩) (Kd.R_far (p := ⟨gb1596, 0, none⟩) (Kd.R_types HO1616.out BK1596.out (by decide)) (fun _ hk => hk.2) (.bool t1610)) (fun _ hk => hk.2) (.slice Ao18 t1611.length co18)) (fun _ hk => hk.2) (.slice Ao19 t1614.length co19)) (fun _ hk => hk.1.1.1.1), hbb⟩) | (exact ⟨_, _, by first | rfl | (simp [errW_none, errW_some] <;> rfl) | (simp [*, errW_none, errW_some] <;> rfl), by first | exact Kd.R_nil _ _ _ _ _ | exact Kd.N_nil _ _ _ _ _ | exact Kd.V_nil _ _ _ _ _ | exact Kd.Q_nil _ _ _ _ _ | exact Kd.S_nil _ _ _ _ _, by first | exact Kd.R_nil _ _ _ _ _ | exact Kd.N_nil _ _ _ _ _ | exact Kd.V_nil _ _ _ _ _ | exact Kd.Q_nil _ _ _ _ _ | exact Kd.S_nil _ _ _ _ _, hbb⟩)

end Go.Proofs.Ytbpggonjcnakgaa.P
