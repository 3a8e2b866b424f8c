/- Functions of the seat as Lean functions, and walks: written by a program for this claim. -/
import Derived.Test.YtbpggonjcnakgaaFbase
import Derived.Test.YtbpggonjcnakgaaBfbits
import Derived.Test.YtbpggonjcnakgaaBgradineref09
import Derived.Test.YtbpggonjcnakgaaFgradinelaw09same
namespace Go.Proofs.Ytbpggonjcnakgaa.P
open Go.RowKit Go.Proofs.YtbpggonjcnakgaaW.PrintWords Go.Proofs.YtbpggonjcnakgaaW.PrintLast Go.Proofs.YtbpggonjcnakgaaW.PrintMore
attribute [local go_sem] max2_int min2_int max_two min_two max_three min_three max_four min_four   -- for this text's walks alone
set_option linter.unusedVariables false
set_option linter.unusedSimpArgs false

/-! ### gradinelaw09_FbitsTells: function 6 -/
mutual
def gradinelaw09_FbitsTells.j0 : Nat → Int → Bool → Int → Int → Bool → Bool → Option (Bool)
  | 0, _, _, _, _, _, _ => none
  | k + 1, x0, x3, x4, x5, x6, x33 => if x33 = true then (some false) else (if x6 = true then ((gradineref09_Parts.f x0).bind fun bt534 => ((gradineref09_Neg.f x0).bind fun t536 => (if (x3 != t536) = true then (some false) else (if x4 = bt534.1 then (if x5 = bt534.2 then (gradinelaw09_FbitsTells.j1 k x0) else (some false)) else (some false))))) else (if x3 = true then (some false) else (if x4 = 0 then (if x5 = 0 then (gradinelaw09_FbitsTells.j1 k x0) else (some false)) else (some false))))
def gradinelaw09_FbitsTells.j1 : Nat → Int → Option (Bool)
  | 0, _ => none
  | k + 1, x0 => (fbits_Clean.f x0).bind fun t537 => ((gradineref09_Clean.f x0).bind fun t538 => (if t537 = t538 then ((fbits_Flip.f x0).bind fun t539 => ((gradineref09_Flip.f x0).bind fun t540 => (if t539 = t540 then ((gradinelaw09_same.f k).bind fun t541 => (some t541)) else (some false)))) else (some false)))
end
def gradinelaw09_FbitsTells.f (k : Nat) (a0 : Int) : Option (Bool) := (fbits_Parts.f k a0).bind fun bt525 => ((fbits_Kind.f a0).bind fun t529 => ((gradineref09_Kind.f a0).bind fun t530 => (if t529 = t530 then ((fbits_Neg.f a0).bind fun t531 => ((gradineref09_Neg.f a0).bind fun t532 => (if (t531 != t532) = true then (gradinelaw09_FbitsTells.j0 k a0 bt525.1 bt525.2.1 bt525.2.2.1 bt525.2.2.2 true) else ((gradineref09_Finite.f a0).bind fun t533 => (gradinelaw09_FbitsTells.j0 k a0 bt525.1 bt525.2.1 bt525.2.2.1 bt525.2.2.2 (bt525.2.2.2 != t533)))))) else (gradinelaw09_FbitsTells.j0 k a0 bt525.1 bt525.2.1 bt525.2.2.1 bt525.2.2.2 true))))
set_option maxHeartbeats 8000000 in
set_option maxRecDepth 100000 in
theorem gradinelaw09_FbitsTells.calls (k : Nat) (a0 : Int) (r : Bool) (w : World) (h : gradinelaw09_FbitsTells.f k a0 = some r) :
    Calls Try.prog 6 #[.int .u64 a0] w fun e w' => e = .returned (.bool r) ∧ Below w.heap.size w w' := by
  have HB := Aside0.mk (Below.refl w.heap.size w)
  have H : ((fbits_Parts.f k a0).bind fun bt525 => ((fbits_Kind.f a0).bind fun t529 => ((gradineref09_Kind.f a0).bind fun t530 => (if t529 = t530 then ((fbits_Neg.f a0).bind fun t531 => ((gradineref09_Neg.f a0).bind fun t532 => (if (t531 != t532) = true then (gradinelaw09_FbitsTells.j0 k a0 bt525.1 bt525.2.1 bt525.2.2.1 bt525.2.2.2 true) else ((gradineref09_Finite.f a0).bind fun t533 => (gradinelaw09_FbitsTells.j0 k a0 bt525.1 bt525.2.1 bt525.2.2.1 bt525.2.2.2 (bt525.2.2.2 != t533)))))) else (gradinelaw09_FbitsTells.j0 k a0 bt525.1 bt525.2.1 bt525.2.2.1 bt525.2.2.2 true))))) = some r := h
  clear h
  replace H := Option.bind_eq_some_iff.mp H
  obtain ⟨⟨t525, t526, t527, t528⟩, A20, H⟩ := H
  replace H : ((fbits_Kind.f a0).bind fun t529 => ((gradineref09_Kind.f a0).bind fun t530 => (if t529 = t530 then ((fbits_Neg.f a0).bind fun t531 => ((gradineref09_Neg.f a0).bind fun t532 => (if (t531 != t532) = true then (gradinelaw09_FbitsTells.j0 k a0 t525 t526 t527 t528 true) else ((gradineref09_Finite.f a0).bind fun t533 => (gradinelaw09_FbitsTells.j0 k a0 t525 t526 t527 t528 (t528 != t533)))))) else (gradinelaw09_FbitsTells.j0 k a0 t525 t526 t527 t528 true)))) = some r := H
  have A2 := Aside0.mk A20
  clear A20
  have HC3 := Aside0.mk H
  clear H
  go_enter Try.func6, Try.ntmps6
  go_upto_region 2 with (first | ((with_reducible refine gate_callee (f := 24) rfl ?_); refine goesL_ (some 11) rfl rfl Try.func24 (by kernel_rfl) rfl #[.int .u64 a0] rfl (by (try simp only [List.map_toArray, List.map_cons, List.map_nil]); first | done | rfl | (simp only [List.length_drop, List.length_take]; rfl) | (simp only [*]; done)) ?_; (with_reducible refine (fbits_Parts.calls k a0 t525 t526 t527 t528 _ A2.out).mono ?_); rintro e w' ⟨rfl, ⟨nd, rfl⟩⟩; refine ⟨_, rfl, ?_⟩))
  (try simp only [Act.put, List.setIfInBounds_toArray, List.set_cons_zero, List.set_cons_succ])
  go_cut [33] (fun v33 wc => ∃ (kq : Nat) (x33_2 : Bool), v33 = .bool x33_2 ∧ Aside0 (gradinelaw09_FbitsTells.j0 kq a0 t525 t526 t527 t528 x33_2 = some r) ∧ Aside0 (kq ≤ k) ∧ Aside0 (Below w.heap.size w wc))
  case first =>
    have H := HC3.out
    clear HC3
    replace H := Option.bind_eq_some_iff.mp H
    obtain ⟨t529, A40, H⟩ := H
    replace H : ((gradineref09_Kind.f a0).bind fun t530 => (if t529 = t530 then ((fbits_Neg.f a0).bind fun t531 => ((gradineref09_Neg.f a0).bind fun t532 => (if (t531 != t532) = true then (gradinelaw09_FbitsTells.j0 k a0 t525 t526 t527 t528 true) else ((gradineref09_Finite.f a0).bind fun t533 => (gradinelaw09_FbitsTells.j0 k a0 t525 t526 t527 t528 (t528 != t533)))))) else (gradinelaw09_FbitsTells.j0 k a0 t525 t526 t527 t528 true))) = some r := H
    have A4 := Aside0.mk A40
    clear A40
    replace H := Option.bind_eq_some_iff.mp H
    obtain ⟨t530, A50, H⟩ := H
    replace H : (if t529 = t530 then ((fbits_Neg.f a0).bind fun t531 => ((gradineref09_Neg.f a0).bind fun t532 => (if (t531 != t532) = true then (gradinelaw09_FbitsTells.j0 k a0 t525 t526 t527 t528 true) else ((gradineref09_Finite.f a0).bind fun t533 => (gradinelaw09_FbitsTells.j0 k a0 t525 t526 t527 t528 (t528 != t533)))))) else (gradinelaw09_FbitsTells.j0 k a0 t525 t526 t527 t528 true)) = some r := H
    have A5 := Aside0.mk A50
    clear A50
    by_cases c6 : t529 = t530
    · rw [if_pos c6] at H
      have c6b0 : (t529 == t530) = true := beq_iff_eq.mpr c6
      have c6b1 : (t529 != t530) = false := bne_eq_false_iff_eq.mpr c6
      clear c6
      (first | rw [c6b0] | (simp only [i64_w, i32_w]; rw [c6b0]) | rw [c6b1] | skip)
      replace H := Option.bind_eq_some_iff.mp H
      obtain ⟨t531, A70, H⟩ := H
      replace H : ((gradineref09_Neg.f a0).bind fun t532 => (if (t531 != t532) = true then (gradinelaw09_FbitsTells.j0 k a0 t525 t526 t527 t528 true) else ((gradineref09_Finite.f a0).bind fun t533 => (gradinelaw09_FbitsTells.j0 k a0 t525 t526 t527 t528 (t528 != t533))))) = some r := H
      have A7 := Aside0.mk A70
      clear A70
      replace H := Option.bind_eq_some_iff.mp H
      obtain ⟨t532, A80, H⟩ := H
      replace H : (if (t531 != t532) = true then (gradinelaw09_FbitsTells.j0 k a0 t525 t526 t527 t528 true) else ((gradineref09_Finite.f a0).bind fun t533 => (gradinelaw09_FbitsTells.j0 k a0 t525 t526 t527 t528 (t528 != t533)))) = some r := H
      have A8 := Aside0.mk A80
      clear A80
      by_cases c9 : (t531 != t532) = true
      · rw [if_pos c9] at H
        have c9b0 : (t531 != t532) = true := c9
        (try (have c9b1 : decide (t531 = t532) = false := by simpa using c9))
        (try (have c9b2 : (t531 == t532) = false := by simpa using c9))
        (try (have c9b3 : ¬ (t531 = t532) := by simpa using c9))
        clear c9
        have H' := Aside0.mk H
        clear H
        go_wp2_with (first | ((with_reducible refine gate_callee (f := 39) rfl ?_); refine goesL_ (some 17) rfl rfl Try.func39 (by kernel_rfl) rfl #[.int .u64 a0] rfl (by (try simp only [List.map_toArray, List.map_cons, List.map_nil]); first | done | rfl | (simp only [List.length_drop, List.length_take]; rfl) | (simp only [*]; done)) ?_; (with_reducible refine (fbits_Kind.calls a0 t529 _ A4.out).mono ?_); rintro e w' ⟨rfl, ⟨nd, rfl⟩⟩; refine ⟨_, rfl, ?_⟩) | ((with_reducible refine gate_callee (f := 40) rfl ?_); refine goesL_ (some 19) rfl rfl Try.func40 (by kernel_rfl) rfl #[.int .u64 a0] rfl (by (try simp only [List.map_toArray, List.map_cons, List.map_nil]); first | done | rfl | (simp only [List.length_drop, List.length_take]; rfl) | (simp only [*]; done)) ?_; (with_reducible refine (gradineref09_Kind.calls a0 t530 _ A5.out).mono ?_); rintro e w' ⟨rfl, ⟨nd, rfl⟩⟩; refine ⟨_, rfl, ?_⟩) | (go_at_call 41; (with_reducible refine (fbits_Neg.calls a0 t531 _ A7.out).mono ?_); rintro e w' ⟨rfl, ⟨nd, rfl⟩⟩) | (go_at_call 27; (with_reducible refine (gradineref09_Neg.calls a0 t532 _ A8.out).mono ?_); rintro e w' ⟨rfl, ⟨nd, rfl⟩⟩))
        go_meet
        case rel => exact ⟨_, (true), (by first | rfl | (simp; done) | (simp [*]; done)), H', ⟨by first | omega | exact Nat.le_refl _⟩, ⟨by repeat (first | (with_reducible first | exact HB.out | apply below_alloc | apply pw_below_drewN | apply below_drew1) | exact HB.out)⟩⟩
      · rw [if_neg c9] at H
        have c9b0 : (t531 != t532) = false := by simpa using c9
        (try (have c9b1 : decide (t531 = t532) = true := by simpa using c9))
        (try (have c9b2 : (t531 == t532) = true := by simpa using c9))
        clear c9
        replace H := Option.bind_eq_some_iff.mp H
        obtain ⟨t533, A100, H⟩ := H
        replace H : (gradinelaw09_FbitsTells.j0 k a0 t525 t526 t527 t528 (t528 != t533)) = some r := H
        have A10 := Aside0.mk A100
        clear A100
        have H' := Aside0.mk H
        clear H
        go_wp2_with (first | ((with_reducible refine gate_callee (f := 39) rfl ?_); refine goesL_ (some 17) rfl rfl Try.func39 (by kernel_rfl) rfl #[.int .u64 a0] rfl (by (try simp only [List.map_toArray, List.map_cons, List.map_nil]); first | done | rfl | (simp only [List.length_drop, List.length_take]; rfl) | (simp only [*]; done)) ?_; (with_reducible refine (fbits_Kind.calls a0 t529 _ A4.out).mono ?_); rintro e w' ⟨rfl, ⟨nd, rfl⟩⟩; refine ⟨_, rfl, ?_⟩) | ((with_reducible refine gate_callee (f := 40) rfl ?_); refine goesL_ (some 19) rfl rfl Try.func40 (by kernel_rfl) rfl #[.int .u64 a0] rfl (by (try simp only [List.map_toArray, List.map_cons, List.map_nil]); first | done | rfl | (simp only [List.length_drop, List.length_take]; rfl) | (simp only [*]; done)) ?_; (with_reducible refine (gradineref09_Kind.calls a0 t530 _ A5.out).mono ?_); rintro e w' ⟨rfl, ⟨nd, rfl⟩⟩; refine ⟨_, rfl, ?_⟩) | (go_at_call 41; (with_reducible refine (fbits_Neg.calls a0 t531 _ A7.out).mono ?_); rintro e w' ⟨rfl, ⟨nd, rfl⟩⟩) | (go_at_call 27; (with_reducible refine (gradineref09_Neg.calls a0 t532 _ A8.out).mono ?_); rintro e w' ⟨rfl, ⟨nd, rfl⟩⟩) | (go_at_call 26; (with_reducible refine (gradineref09_Finite.calls a0 t533 _ A10.out).mono ?_); rintro e w' ⟨rfl, ⟨nd, rfl⟩⟩))
        go_meet
        case rel => exact ⟨_, ((t528 != t533)), (by first | rfl | (simp; done) | (simp [*]; done)), H', ⟨by first | omega | exact Nat.le_refl _⟩, ⟨by repeat (first | (with_reducible first | exact HB.out | apply below_alloc | apply pw_below_drewN | apply below_drew1) | exact HB.out)⟩⟩
    · rw [if_neg c6] at H
      have c6b0 : (t529 == t530) = false := beq_eq_false_iff_ne.mpr c6
      have c6b1 : (t529 != t530) = true := bne_iff_ne.mpr c6
      (first | rw [c6b0] | (simp only [i64_w, i32_w]; rw [c6b0]) | rw [c6b1] | skip)
      have H' := Aside0.mk H
      clear H
      go_wp2_with (first | ((with_reducible refine gate_callee (f := 39) rfl ?_); refine goesL_ (some 17) rfl rfl Try.func39 (by kernel_rfl) rfl #[.int .u64 a0] rfl (by (try simp only [List.map_toArray, List.map_cons, List.map_nil]); first | done | rfl | (simp only [List.length_drop, List.length_take]; rfl) | (simp only [*]; done)) ?_; (with_reducible refine (fbits_Kind.calls a0 t529 _ A4.out).mono ?_); rintro e w' ⟨rfl, ⟨nd, rfl⟩⟩; refine ⟨_, rfl, ?_⟩) | ((with_reducible refine gate_callee (f := 40) rfl ?_); refine goesL_ (some 19) rfl rfl Try.func40 (by kernel_rfl) rfl #[.int .u64 a0] rfl (by (try simp only [List.map_toArray, List.map_cons, List.map_nil]); first | done | rfl | (simp only [List.length_drop, List.length_take]; rfl) | (simp only [*]; done)) ?_; (with_reducible refine (gradineref09_Kind.calls a0 t530 _ A5.out).mono ?_); rintro e w' ⟨rfl, ⟨nd, rfl⟩⟩; refine ⟨_, rfl, ?_⟩))
      go_meet
      case rel => exact ⟨_, (true), (by first | rfl | (simp; done) | (simp [*]; done)), H', ⟨by first | omega | exact Nat.le_refl _⟩, ⟨by repeat (first | (with_reducible first | exact HB.out | apply below_alloc | apply pw_below_drewN | apply below_drew1) | exact HB.out)⟩⟩
  case rest =>
    clear HC3
    try clear c2
    try clear p2
    try clear c3
    try clear c4
    try clear c6
    try clear c6b0
    try clear c6b1
    try clear c9
    try clear c9b0
    try clear c9b1
    try clear c9b2
    obtain ⟨kq, x33_2, rfl, HA, HJ2, HB⟩ := hcut
    cases kq with
    | zero => exact absurd HA.out (by simp [gradinelaw09_FbitsTells.j0])
    | succ kj2 =>
      have H := HA.out
      clear HA
      simp only [gradinelaw09_FbitsTells.j0] at H
      by_cases c11 : x33_2 = true
      · subst c11
        have H1 : (some false) = some r := by rw [if_pos rfl] at H; exact H
        clear H
        have H := H1
        clear H1
        obtain rfl := Option.some.inj H
        go_wp2
        go_ret
        exact ⟨by first | rfl | (simp [errW_none, errW_some] <;> rfl) | (simp [*, errW_none, errW_some] <;> rfl), by repeat (first | (with_reducible first | exact HB.out | apply below_alloc | apply pw_below_drewN | apply below_drew1) | exact HB.out)⟩
      · replace c11 := Bool.eq_false_iff.mpr c11
        subst c11
        have H1 : (if t528 = true then ((gradineref09_Parts.f a0).bind fun bt534 => ((gradineref09_Neg.f a0).bind fun t536 => (if (t525 != t536) = true then (some false) else (if t526 = bt534.1 then (if t527 = bt534.2 then (gradinelaw09_FbitsTells.j1 kj2 a0) else (some false)) else (some false))))) else (if t525 = true then (some false) else (if t526 = 0 then (if t527 = 0 then (gradinelaw09_FbitsTells.j1 kj2 a0) else (some false)) else (some false)))) = some r := by rw [if_neg (show ¬ (false = true) by decide)] at H; exact H
        clear H
        have H := H1
        clear H1
        have HC12 := Aside0.mk H
        clear H
        go_upto_if 34 with (fail)
        go_cut [] (fun wc => ∃ (kq : Nat), Aside0 (gradinelaw09_FbitsTells.j1 kq a0 = some r) ∧ Aside0 (kq ≤ kj2) ∧ Aside0 (Below w.heap.size w wc))
        case first =>
          have H := HC12.out
          clear HC12
          by_cases c13 : t528 = true
          · subst c13
            have H1 : ((gradineref09_Parts.f a0).bind fun bt534 => ((gradineref09_Neg.f a0).bind fun t536 => (if (t525 != t536) = true then (some false) else (if t526 = bt534.1 then (if t527 = bt534.2 then (gradinelaw09_FbitsTells.j1 kj2 a0) else (some false)) else (some false))))) = some r := by rw [if_pos rfl] at H; exact H
            clear H
            have H := H1
            clear H1
            replace H := Option.bind_eq_some_iff.mp H
            obtain ⟨⟨t534, t535⟩, A140, H⟩ := H
            replace H : ((gradineref09_Neg.f a0).bind fun t536 => (if (t525 != t536) = true then (some false) else (if t526 = t534 then (if t527 = t535 then (gradinelaw09_FbitsTells.j1 kj2 a0) else (some false)) else (some false)))) = some r := H
            have A14 := Aside0.mk A140
            clear A140
            replace H := Option.bind_eq_some_iff.mp H
            obtain ⟨t536, A150, H⟩ := H
            replace H : (if (t525 != t536) = true then (some false) else (if t526 = t534 then (if t527 = t535 then (gradinelaw09_FbitsTells.j1 kj2 a0) else (some false)) else (some false))) = some r := H
            have A15 := Aside0.mk A150
            clear A150
            by_cases c16 : (t525 != t536) = true
            · rw [if_pos c16] at H
              have c16b0 : (t525 != t536) = true := c16
              (try (have c16b1 : decide (t525 = t536) = false := by simpa using c16))
              (try (have c16b2 : (t525 == t536) = false := by simpa using c16))
              (try (have c16b3 : ¬ (t525 = t536) := by simpa using c16))
              clear c16
              (first | rw [c16b0] | (simp only [i64_w, i32_w]; rw [c16b0]) | rw [c16b1] | skip)
              obtain rfl := Option.some.inj H
              go_wp2_with (first | ((with_reducible refine gate_callee (f := 42) rfl ?_); refine goesL_ (some 37) rfl rfl Try.func42 (by kernel_rfl) rfl #[.int .u64 a0] rfl (by (try simp only [List.map_toArray, List.map_cons, List.map_nil]); first | done | rfl | (simp only [List.length_drop, List.length_take]; rfl) | (simp only [*]; done)) ?_; (with_reducible refine (gradineref09_Parts.calls a0 t534 t535 _ A14.out).mono ?_); rintro e w' ⟨rfl, ⟨nd, rfl⟩⟩; refine ⟨_, rfl, ?_⟩) | ((with_reducible refine gate_callee (f := 27) rfl ?_); refine goesL_ (some 42) rfl rfl Try.func27 (by kernel_rfl) rfl #[.int .u64 a0] rfl (by (try simp only [List.map_toArray, List.map_cons, List.map_nil]); first | done | rfl | (simp only [List.length_drop, List.length_take]; rfl) | (simp only [*]; done)) ?_; (with_reducible refine (gradineref09_Neg.calls a0 t536 _ A15.out).mono ?_); rintro e w' ⟨rfl, ⟨nd, rfl⟩⟩; refine ⟨_, rfl, ?_⟩))
              go_ret
              exact ⟨by first | rfl | (simp [errW_none, errW_some] <;> rfl) | (simp [*, errW_none, errW_some] <;> rfl), by repeat (first | (with_reducible first | exact HB.out | apply below_alloc | apply pw_below_drewN | apply below_drew1) | exact HB.out)⟩
            · rw [if_neg c16] at H
              have c16b0 : (t525 != t536) = false := by simpa using c16
              (try (have c16b1 : decide (t525 = t536) = true := by simpa using c16))
              (try (have c16b2 : (t525 == t536) = true := by simpa using c16))
              clear c16
              (first | rw [c16b0] | (simp only [i64_w, i32_w]; rw [c16b0]) | rw [c16b1] | skip)
              by_cases c17 : t526 = t534
              · rw [if_pos c17] at H
                have c17b0 : (t526 == t534) = true := beq_iff_eq.mpr c17
                have c17b1 : (t526 != t534) = false := bne_eq_false_iff_eq.mpr c17
                clear c17
                by_cases c18 : t527 = t535
                · rw [if_pos c18] at H
                  have c18b0 : (t527 == t535) = true := beq_iff_eq.mpr c18
                  have c18b1 : (t527 != t535) = false := bne_eq_false_iff_eq.mpr c18
                  clear c18
                  have H' := Aside0.mk H
                  clear H
                  go_wp2_with (first | ((with_reducible refine gate_callee (f := 42) rfl ?_); refine goesL_ (some 37) rfl rfl Try.func42 (by kernel_rfl) rfl #[.int .u64 a0] rfl (by (try simp only [List.map_toArray, List.map_cons, List.map_nil]); first | done | rfl | (simp only [List.length_drop, List.length_take]; rfl) | (simp only [*]; done)) ?_; (with_reducible refine (gradineref09_Parts.calls a0 t534 t535 _ A14.out).mono ?_); rintro e w' ⟨rfl, ⟨nd, rfl⟩⟩; refine ⟨_, rfl, ?_⟩) | ((with_reducible refine gate_callee (f := 27) rfl ?_); refine goesL_ (some 42) rfl rfl Try.func27 (by kernel_rfl) rfl #[.int .u64 a0] rfl (by (try simp only [List.map_toArray, List.map_cons, List.map_nil]); first | done | rfl | (simp only [List.length_drop, List.length_take]; rfl) | (simp only [*]; done)) ?_; (with_reducible refine (gradineref09_Neg.calls a0 t536 _ A15.out).mono ?_); rintro e w' ⟨rfl, ⟨nd, rfl⟩⟩; refine ⟨_, rfl, ?_⟩))
                  go_meet
                  case rel => exact ⟨_, H', ⟨by have := HJ2.out; first | omega | exact Nat.le_refl _⟩, ⟨by repeat (first | (with_reducible first | exact HB.out | apply below_alloc | apply pw_below_drewN | apply below_drew1) | exact HB.out)⟩⟩
                · rw [if_neg c18] at H
                  have c18b0 : (t527 == t535) = false := beq_eq_false_iff_ne.mpr c18
                  have c18b1 : (t527 != t535) = true := bne_iff_ne.mpr c18
                  obtain rfl := Option.some.inj H
                  go_wp2_with (first | ((with_reducible refine gate_callee (f := 42) rfl ?_); refine goesL_ (some 37) rfl rfl Try.func42 (by kernel_rfl) rfl #[.int .u64 a0] rfl (by (try simp only [List.map_toArray, List.map_cons, List.map_nil]); first | done | rfl | (simp only [List.length_drop, List.length_take]; rfl) | (simp only [*]; done)) ?_; (with_reducible refine (gradineref09_Parts.calls a0 t534 t535 _ A14.out).mono ?_); rintro e w' ⟨rfl, ⟨nd, rfl⟩⟩; refine ⟨_, rfl, ?_⟩) | ((with_reducible refine gate_callee (f := 27) rfl ?_); refine goesL_ (some 42) rfl rfl Try.func27 (by kernel_rfl) rfl #[.int .u64 a0] rfl (by (try simp only [List.map_toArray, List.map_cons, List.map_nil]); first | done | rfl | (simp only [List.length_drop, List.length_take]; rfl) | (simp only [*]; done)) ?_; (with_reducible refine (gradineref09_Neg.calls a0 t536 _ A15.out).mono ?_); rintro e w' ⟨rfl, ⟨nd, rfl⟩⟩; refine ⟨_, rfl, ?_⟩))
                  go_ret
                  exact ⟨by first | rfl | (simp [errW_none, errW_some] <;> rfl) | (simp [*, errW_none, errW_some] <;> rfl), by repeat (first | (with_reducible first | exact HB.out | apply below_alloc | apply pw_below_drewN | apply below_drew1) | exact HB.out)⟩
              · rw [if_neg c17] at H
                have c17b0 : (t526 == t534) = false := beq_eq_false_iff_ne.mpr c17
                have c17b1 : (t526 != t534) = true := bne_iff_ne.mpr c17
                obtain rfl := Option.some.inj H
                go_wp2_with (first | ((with_reducible refine gate_callee (f := 42) rfl ?_); refine goesL_ (some 37) rfl rfl Try.func42 (by kernel_rfl) rfl #[.int .u64 a0] rfl (by (try simp only [List.map_toArray, List.map_cons, List.map_nil]); first | done | rfl | (simp only [List.length_drop, List.length_take]; rfl) | (simp only [*]; done)) ?_; (with_reducible refine (gradineref09_Parts.calls a0 t534 t535 _ A14.out).mono ?_); rintro e w' ⟨rfl, ⟨nd, rfl⟩⟩; refine ⟨_, rfl, ?_⟩) | ((with_reducible refine gate_callee (f := 27) rfl ?_); refine goesL_ (some 42) rfl rfl Try.func27 (by kernel_rfl) rfl #[.int .u64 a0] rfl (by (try simp only [List.map_toArray, List.map_cons, List.map_nil]); first | done | rfl | (simp only [List.length_drop, List.length_take]; rfl) | (simp only [*]; done)) ?_; (with_reducible refine (gradineref09_Neg.calls a0 t536 _ A15.out).mono ?_); rintro e w' ⟨rfl, ⟨nd, rfl⟩⟩; refine ⟨_, rfl, ?_⟩))
                go_ret
                exact ⟨by first | rfl | (simp [errW_none, errW_some] <;> rfl) | (simp [*, errW_none, errW_some] <;> rfl), by repeat (first | (with_reducible first | exact HB.out | apply below_alloc | apply pw_below_drewN | apply below_drew1) | exact HB.out)⟩
          · replace c13 := Bool.eq_false_iff.mpr c13
            subst c13
            have H1 : (if t525 = true then (some false) else (if t526 = 0 then (if t527 = 0 then (gradinelaw09_FbitsTells.j1 kj2 a0) else (some false)) else (some false))) = some r := by rw [if_neg (show ¬ (false = true) by decide)] at H; exact H
            clear H
            have H := H1
            clear H1
            by_cases c19 : t525 = true
            · subst c19
              have H1 : (some false) = some r := by rw [if_pos rfl] at H; exact H
              clear H
              have H := H1
              clear H1
              obtain rfl := Option.some.inj H
              go_wp2
              go_ret
              exact ⟨by first | rfl | (simp [errW_none, errW_some] <;> rfl) | (simp [*, errW_none, errW_some] <;> rfl), by repeat (first | (with_reducible first | exact HB.out | apply below_alloc | apply pw_below_drewN | apply below_drew1) | exact HB.out)⟩
            · replace c19 := Bool.eq_false_iff.mpr c19
              subst c19
              have H1 : (if t526 = 0 then (if t527 = 0 then (gradinelaw09_FbitsTells.j1 kj2 a0) else (some false)) else (some false)) = some r := by rw [if_neg (show ¬ (false = true) by decide)] at H; exact H
              clear H
              have H := H1
              clear H1
              by_cases c20 : t526 = 0
              · rw [if_pos c20] at H
                have c20b0 : (t526 == 0) = true := beq_iff_eq.mpr c20
                have c20b1 : (t526 != 0) = false := bne_eq_false_iff_eq.mpr c20
                clear c20
                by_cases c21 : t527 = 0
                · rw [if_pos c21] at H
                  have c21b0 : (t527 == 0) = true := beq_iff_eq.mpr c21
                  have c21b1 : (t527 != 0) = false := bne_eq_false_iff_eq.mpr c21
                  clear c21
                  have H' := Aside0.mk H
                  clear H
                  go_wp2
                  go_meet
                  case rel => exact ⟨_, H', ⟨by have := HJ2.out; first | omega | exact Nat.le_refl _⟩, ⟨by repeat (first | (with_reducible first | exact HB.out | apply below_alloc | apply pw_below_drewN | apply below_drew1) | exact HB.out)⟩⟩
                · rw [if_neg c21] at H
                  have c21b0 : (t527 == 0) = false := beq_eq_false_iff_ne.mpr c21
                  have c21b1 : (t527 != 0) = true := bne_iff_ne.mpr c21
                  obtain rfl := Option.some.inj H
                  go_wp2
                  go_ret
                  exact ⟨by first | rfl | (simp [errW_none, errW_some] <;> rfl) | (simp [*, errW_none, errW_some] <;> rfl), by repeat (first | (with_reducible first | exact HB.out | apply below_alloc | apply pw_below_drewN | apply below_drew1) | exact HB.out)⟩
              · rw [if_neg c20] at H
                have c20b0 : (t526 == 0) = false := beq_eq_false_iff_ne.mpr c20
                have c20b1 : (t526 != 0) = true := bne_iff_ne.mpr c20
                obtain rfl := Option.some.inj H
                go_wp2
                go_ret
                exact ⟨by first | rfl | (simp [errW_none, errW_some] <;> rfl) | (simp [*, errW_none, errW_some] <;> rfl), by repeat (first | (with_reducible first | exact HB.out | apply below_alloc | apply pw_below_drewN | apply below_drew1) | exact HB.out)⟩
        case rest =>
          clear HC12
          try clear c1
          try clear c2
          try clear p2
          try clear c3
          try clear c4
          try clear c6
          try clear c6b0
          try clear c6b1
          try clear c9
          try clear c9b0
          try clear c9b1
          try clear c9b2
          try clear c11
          try clear c13
          try clear c16
          try clear c16b0
          try clear c16b1
          try clear c16b2
          try clear c17
          try clear c17b0
          try clear c17b1
          try clear c18
          try clear c18b0
          try clear c18b1
          try clear c19
          try clear c20
          try clear c20b0
          try clear c20b1
          try clear c21
          try clear c21b0
          try clear c21b1
          try clear p2
          obtain ⟨kq, HA, HJ11, HB⟩ := hcut
          cases kq with
          | zero => exact absurd HA.out (by simp [gradinelaw09_FbitsTells.j1])
          | succ kj11 =>
            have H := HA.out
            clear HA
            simp only [gradinelaw09_FbitsTells.j1] at H
            replace H := Option.bind_eq_some_iff.mp H
            obtain ⟨t537, A220, H⟩ := H
            replace H : ((gradineref09_Clean.f a0).bind fun t538 => (if t537 = t538 then ((fbits_Flip.f a0).bind fun t539 => ((gradineref09_Flip.f a0).bind fun t540 => (if t539 = t540 then ((gradinelaw09_same.f kj11).bind fun t541 => (some t541)) else (some false)))) else (some false))) = some r := H
            have A22 := Aside0.mk A220
            clear A220
            replace H := Option.bind_eq_some_iff.mp H
            obtain ⟨t538, A230, H⟩ := H
            replace H : (if t537 = t538 then ((fbits_Flip.f a0).bind fun t539 => ((gradineref09_Flip.f a0).bind fun t540 => (if t539 = t540 then ((gradinelaw09_same.f kj11).bind fun t541 => (some t541)) else (some false)))) else (some false)) = some r := H
            have A23 := Aside0.mk A230
            clear A230
            by_cases c24 : t537 = t538
            · rw [if_pos c24] at H
              have c24b0 : (t537 == t538) = true := beq_iff_eq.mpr c24
              have c24b1 : (t537 != t538) = false := bne_eq_false_iff_eq.mpr c24
              clear c24
              replace H := Option.bind_eq_some_iff.mp H
              obtain ⟨t539, A250, H⟩ := H
              replace H : ((gradineref09_Flip.f a0).bind fun t540 => (if t539 = t540 then ((gradinelaw09_same.f kj11).bind fun t541 => (some t541)) else (some false))) = some r := H
              have A25 := Aside0.mk A250
              clear A250
              replace H := Option.bind_eq_some_iff.mp H
              obtain ⟨t540, A260, H⟩ := H
              replace H : (if t539 = t540 then ((gradinelaw09_same.f kj11).bind fun t541 => (some t541)) else (some false)) = some r := H
              have A26 := Aside0.mk A260
              clear A260
              by_cases c27 : t539 = t540
              · rw [if_pos c27] at H
                have c27b0 : (t539 == t540) = true := beq_iff_eq.mpr c27
                have c27b1 : (t539 != t540) = false := bne_eq_false_iff_eq.mpr c27
                clear c27
                replace H := Option.bind_eq_some_iff.mp H
                obtain ⟨t541, A280, H⟩ := H
                replace H : (some t541) = some r := H
                have A28 := Aside0.mk A280
                clear A280
                obtain rfl := Option.some.inj H
                go_wp2_with (first | ((with_reducible refine gate_callee (f := 43) rfl ?_); refine goesL_ (some 64) rfl rfl Try.func43 (by kernel_rfl) rfl #[.int .u64 a0] rfl (by (try simp only [List.map_toArray, List.map_cons, List.map_nil]); first | done | rfl | (simp only [List.length_drop, List.length_take]; rfl) | (simp only [*]; done)) ?_; (with_reducible refine (fbits_Clean.calls a0 t537 _ A22.out).mono ?_); rintro e w' ⟨rfl, ⟨nd, rfl⟩⟩; refine ⟨_, rfl, ?_⟩) | ((with_reducible refine gate_callee (f := 44) rfl ?_); refine goesL_ (some 66) rfl rfl Try.func44 (by kernel_rfl) rfl #[.int .u64 a0] rfl (by (try simp only [List.map_toArray, List.map_cons, List.map_nil]); first | done | rfl | (simp only [List.length_drop, List.length_take]; rfl) | (simp only [*]; done)) ?_; (with_reducible refine (gradineref09_Clean.calls a0 t538 _ A23.out).mono ?_); rintro e w' ⟨rfl, ⟨nd, rfl⟩⟩; refine ⟨_, rfl, ?_⟩) | (go_at_call 45; (with_reducible refine (fbits_Flip.calls a0 t539 _ A25.out).mono ?_); rintro e w' ⟨rfl, ⟨nd, rfl⟩⟩) | (go_at_call 46; (with_reducible refine (gradineref09_Flip.calls a0 t540 _ A26.out).mono ?_); rintro e w' ⟨rfl, ⟨nd, rfl⟩⟩) | (go_at_call 28; (with_reducible refine (gradinelaw09_same.calls kj11  t541 _ A28.out).mono ?_); rintro e w29 ⟨rfl, hb⟩; have n0_ := Aside0.mk (below_step (by repeat (first | (with_reducible first | exact HB.out | apply below_alloc | apply pw_below_drewN | apply below_drew1) | exact HB.out)) hb); clear HB; have HB := n0_; clear n0_; (try clear hb); (try clear hb2); (try clear hk); (try clear hi)))
                go_ret
                exact ⟨by first | rfl | (simp [errW_none, errW_some] <;> rfl) | (simp [*, errW_none, errW_some] <;> rfl), by repeat (first | (with_reducible first | exact HB.out | apply below_alloc | apply pw_below_drewN | apply below_drew1) | exact HB.out)⟩
              · rw [if_neg c27] at H
                have c27b0 : (t539 == t540) = false := beq_eq_false_iff_ne.mpr c27
                have c27b1 : (t539 != t540) = true := bne_iff_ne.mpr c27
                obtain rfl := Option.some.inj H
                go_wp2_with (first | ((with_reducible refine gate_callee (f := 43) rfl ?_); refine goesL_ (some 64) rfl rfl Try.func43 (by kernel_rfl) rfl #[.int .u64 a0] rfl (by (try simp only [List.map_toArray, List.map_cons, List.map_nil]); first | done | rfl | (simp only [List.length_drop, List.length_take]; rfl) | (simp only [*]; done)) ?_; (with_reducible refine (fbits_Clean.calls a0 t537 _ A22.out).mono ?_); rintro e w' ⟨rfl, ⟨nd, rfl⟩⟩; refine ⟨_, rfl, ?_⟩) | ((with_reducible refine gate_callee (f := 44) rfl ?_); refine goesL_ (some 66) rfl rfl Try.func44 (by kernel_rfl) rfl #[.int .u64 a0] rfl (by (try simp only [List.map_toArray, List.map_cons, List.map_nil]); first | done | rfl | (simp only [List.length_drop, List.length_take]; rfl) | (simp only [*]; done)) ?_; (with_reducible refine (gradineref09_Clean.calls a0 t538 _ A23.out).mono ?_); rintro e w' ⟨rfl, ⟨nd, rfl⟩⟩; refine ⟨_, rfl, ?_⟩) | (go_at_call 45; (with_reducible refine (fbits_Flip.calls a0 t539 _ A25.out).mono ?_); rintro e w' ⟨rfl, ⟨nd, rfl⟩⟩) | (go_at_call 46; (with_reducible refine (gradineref09_Flip.calls a0 t540 _ A26.out).mono ?_); rintro e w' ⟨rfl, ⟨nd, rfl⟩⟩))
                go_ret
                exact ⟨by first | rfl | (simp [errW_none, errW_some] <;> rfl) | (simp [*, errW_none, errW_some] <;> rfl), by repeat (first | (with_reducible first | exact HB.out | apply below_alloc | apply pw_below_drewN | apply below_drew1) | exact HB.out)⟩
            · rw [if_neg c24] at H
              have c24b0 : (t537 == t538) = false := beq_eq_false_iff_ne.mpr c24
              have c24b1 : (t537 != t538) = true := bne_iff_ne.mpr c24
              obtain rfl := Option.some.inj H
              go_wp2_with (first | ((with_reducible refine gate_callee (f := 43) rfl ?_); refine goesL_ (some 64) rfl rfl Try.func43 (by kernel_rfl) rfl #[.int .u64 a0] rfl (by (try simp only [List.map_toArray, List.map_cons, List.map_nil]); first | done | rfl | (simp only [List.length_drop, List.length_take]; rfl) | (simp only [*]; done)) ?_; (with_reducible refine (fbits_Clean.calls a0 t537 _ A22.out).mono ?_); rintro e w' ⟨rfl, ⟨nd, rfl⟩⟩; refine ⟨_, rfl, ?_⟩) | ((with_reducible refine gate_callee (f := 44) rfl ?_); refine goesL_ (some 66) rfl rfl Try.func44 (by kernel_rfl) rfl #[.int .u64 a0] rfl (by (try simp only [List.map_toArray, List.map_cons, List.map_nil]); first | done | rfl | (simp only [List.length_drop, List.length_take]; rfl) | (simp only [*]; done)) ?_; (with_reducible refine (gradineref09_Clean.calls a0 t538 _ A23.out).mono ?_); rintro e w' ⟨rfl, ⟨nd, rfl⟩⟩; refine ⟨_, rfl, ?_⟩))
              go_ret
              exact ⟨by first | rfl | (simp [errW_none, errW_some] <;> rfl) | (simp [*, errW_none, errW_some] <;> rfl), by repeat (first | (with_reducible first | exact HB.out | apply below_alloc | apply pw_below_drewN | apply below_drew1) | exact HB.out)⟩

/-- THE ONE PURE STATEMENT of gradinelaw09_FbitsTells: yours. -/
def gradinelaw09_FbitsTells.Pure : Prop := ∀ (a0 : Int), (Lit.int .u64 a0).wf = true → ∃ k, gradinelaw09_FbitsTells.f k a0 = some true
theorem gradinelaw09_FbitsTells.walk (P : gradinelaw09_FbitsTells.Pure) (a0 : Int) (w : World) (w0 : (Lit.int .u64 a0).wf = true) :
    Calls Try.prog 6 #[.int .u64 a0] w fun e w' => e = .returned (.bool true) ∧ Below w.heap.size w w' := by
  obtain ⟨k, h⟩ := P a0 w0
  refine (gradinelaw09_FbitsTells.calls k a0 true w h).mono ?_
  rintro e w' ⟨rfl, hd⟩
  exact ⟨rfl, hd⟩

end Go.Proofs.Ytbpggonjcnakgaa.P
