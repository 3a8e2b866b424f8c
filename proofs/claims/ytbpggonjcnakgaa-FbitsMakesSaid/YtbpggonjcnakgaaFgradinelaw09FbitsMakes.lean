/- Functions of the seat as Lean functions, and walks: written by a program for this claim. -/
import Derived.Test.YtbpggonjcnakgaaFbase
import Derived.Test.YtbpggonjcnakgaaBfbits
import Derived.Test.YtbpggonjcnakgaaFgradinelaw09same
import Derived.Test.YtbpggonjcnakgaaBgradineref09
namespace Go.Proofs.Ytbpggonjcnakgaa.P
open Go.RowKit Go.Proofs.YtbpggonjcnakgaaW.PrintWords Go.Proofs.YtbpggonjcnakgaaW.PrintLast Go.Proofs.YtbpggonjcnakgaaW.PrintMore
attribute [local go_sem] max2_int min2_int max_two min_two max_three min_three max_four min_four   -- for this text's walks alone
set_option linter.unusedVariables false
set_option linter.unusedSimpArgs false

/-! ### gradinelaw09_FbitsMakes: function 4 -/
def gradinelaw09_FbitsMakes.f (k : Nat) (a0 : Bool) (a1 : Int) (a2 : Int) : Option (Bool) := (fbits_Make.f k a0 a1 a2).bind fun bt504 => ((gradineref09_Make.f k a0 a1 a2).bind fun bt506 => (if bt504.1 = bt506.1 then (if (bt504.2 == bt506.2) = true then ((fbits_Nan.f).bind fun t508 => ((gradineref09_Nan.f).bind fun t509 => (if t508 = t509 then ((fbits_Inf.f a0).bind fun t510 => ((gradineref09_Inf.f a0).bind fun t511 => (if t510 = t511 then ((gradinelaw09_same.f k).bind fun t512 => (some t512)) else (some false)))) else (some false)))) else (some false)) else (some false)))
set_option maxHeartbeats 8000000 in
set_option maxRecDepth 100000 in
theorem gradinelaw09_FbitsMakes.calls (k : Nat) (a0 : Bool) (a1 : Int) (a2 : Int) (r : Bool) (w : World) (h : gradinelaw09_FbitsMakes.f k a0 a1 a2 = some r) :
    Calls Try.prog 4 #[.bool a0, .int .u64 a1, .int .i64 a2] w fun e w' => e = .returned (.bool r) ∧ Below w.heap.size w w' := by
  have HB := Aside0.mk (Below.refl w.heap.size w)
  have H : ((fbits_Make.f k a0 a1 a2).bind fun bt504 => ((gradineref09_Make.f k a0 a1 a2).bind fun bt506 => (if bt504.1 = bt506.1 then (if (bt504.2 == bt506.2) = true then ((fbits_Nan.f).bind fun t508 => ((gradineref09_Nan.f).bind fun t509 => (if t508 = t509 then ((fbits_Inf.f a0).bind fun t510 => ((gradineref09_Inf.f a0).bind fun t511 => (if t510 = t511 then ((gradinelaw09_same.f k).bind fun t512 => (some t512)) else (some false)))) else (some false)))) else (some false)) else (some false)))) = some r := h
  clear h
  replace H := Option.bind_eq_some_iff.mp H
  obtain ⟨⟨t504, t505⟩, A40, H⟩ := H
  replace H : ((gradineref09_Make.f k a0 a1 a2).bind fun bt506 => (if t504 = bt506.1 then (if (t505 == bt506.2) = true then ((fbits_Nan.f).bind fun t508 => ((gradineref09_Nan.f).bind fun t509 => (if t508 = t509 then ((fbits_Inf.f a0).bind fun t510 => ((gradineref09_Inf.f a0).bind fun t511 => (if t510 = t511 then ((gradinelaw09_same.f k).bind fun t512 => (some t512)) else (some false)))) else (some false)))) else (some false)) else (some false))) = some r := H
  have A4 := Aside0.mk A40
  clear A40
  replace H := Option.bind_eq_some_iff.mp H
  obtain ⟨⟨t506, t507⟩, A50, H⟩ := H
  replace H : (if t504 = t506 then (if (t505 == t507) = true then ((fbits_Nan.f).bind fun t508 => ((gradineref09_Nan.f).bind fun t509 => (if t508 = t509 then ((fbits_Inf.f a0).bind fun t510 => ((gradineref09_Inf.f a0).bind fun t511 => (if t510 = t511 then ((gradinelaw09_same.f k).bind fun t512 => (some t512)) else (some false)))) else (some false)))) else (some false)) else (some false)) = some r := H
  have A5 := Aside0.mk A50
  clear A50
  by_cases c6 : t504 = t506
  · rw [if_pos c6] at H
    have c6b0 : (t504 == t506) = true := beq_iff_eq.mpr c6
    have c6b1 : (t504 != t506) = false := bne_eq_false_iff_eq.mpr c6
    clear c6
    by_cases c7 : (t505 == t507) = true
    · rw [if_pos c7] at H
      have c7b0 : (t505 == t507) = true := c7
      (try (have c7b1 : decide (t505 = t507) = true := by simpa using c7))
      (try (have c7b2 : (t505 == t507) = true := by simpa using c7))
      clear c7
      replace H := Option.bind_eq_some_iff.mp H
      obtain ⟨t508, A80, H⟩ := H
      replace H : ((gradineref09_Nan.f).bind fun t509 => (if t508 = t509 then ((fbits_Inf.f a0).bind fun t510 => ((gradineref09_Inf.f a0).bind fun t511 => (if t510 = t511 then ((gradinelaw09_same.f k).bind fun t512 => (some t512)) else (some false)))) else (some false))) = some r := H
      have A8 := Aside0.mk A80
      clear A80
      replace H := Option.bind_eq_some_iff.mp H
      obtain ⟨t509, A90, H⟩ := H
      replace H : (if t508 = t509 then ((fbits_Inf.f a0).bind fun t510 => ((gradineref09_Inf.f a0).bind fun t511 => (if t510 = t511 then ((gradinelaw09_same.f k).bind fun t512 => (some t512)) else (some false)))) else (some false)) = some r := H
      have A9 := Aside0.mk A90
      clear A90
      by_cases c10 : t508 = t509
      · rw [if_pos c10] at H
        have c10b0 : (t508 == t509) = true := beq_iff_eq.mpr c10
        have c10b1 : (t508 != t509) = false := bne_eq_false_iff_eq.mpr c10
        clear c10
        replace H := Option.bind_eq_some_iff.mp H
        obtain ⟨t510, A110, H⟩ := H
        replace H : ((gradineref09_Inf.f a0).bind fun t511 => (if t510 = t511 then ((gradinelaw09_same.f k).bind fun t512 => (some t512)) else (some false))) = some r := H
        have A11 := Aside0.mk A110
        clear A110
        replace H := Option.bind_eq_some_iff.mp H
        obtain ⟨t511, A120, H⟩ := H
        replace H : (if t510 = t511 then ((gradinelaw09_same.f k).bind fun t512 => (some t512)) else (some false)) = some r := H
        have A12 := Aside0.mk A120
        clear A120
        by_cases c13 : t510 = t511
        · rw [if_pos c13] at H
          have c13b0 : (t510 == t511) = true := beq_iff_eq.mpr c13
          have c13b1 : (t510 != t511) = false := bne_eq_false_iff_eq.mpr c13
          clear c13
          replace H := Option.bind_eq_some_iff.mp H
          obtain ⟨t512, A140, H⟩ := H
          replace H : (some t512) = some r := H
          have A14 := Aside0.mk A140
          clear A140
          obtain rfl := Option.some.inj H
          go_enter Try.func4, Try.ntmps4
          go_wp2_with (first | ((with_reducible refine gate_callee (f := 25) rfl ?_); refine goesL_ (some 15) rfl rfl Try.func25 (by kernel_rfl) rfl #[.bool a0, .int .u64 a1, .int .i64 a2] rfl (by (try simp only [List.map_toArray, List.map_cons, List.map_nil]); first | done | rfl | (simp only [List.length_drop, List.length_take]; rfl) | (simp only [*]; done)) ?_; (with_reducible refine (fbits_Make.calls k a0 a1 a2 t504 t505 _ A4.out).mono ?_); rintro e w15 ⟨rfl, hb⟩; refine ⟨_, rfl, ?_⟩; have n0_ := Aside0.mk (below_step (by repeat (first | (with_reducible first | exact HB.out | apply below_alloc | apply pw_below_drewN | apply below_drew1) | exact HB.out)) hb); clear HB; have HB := n0_; clear n0_; (try clear hb); (try clear hb2); (try clear hk); (try clear hi)) | ((with_reducible refine gate_callee (f := 31) rfl ?_); refine goesL_ (some 22) rfl rfl Try.func31 (by kernel_rfl) rfl #[.bool a0, .int .u64 a1, .int .i64 a2] rfl (by (try simp only [List.map_toArray, List.map_cons, List.map_nil]); first | done | rfl | (simp only [List.length_drop, List.length_take]; rfl) | (simp only [*]; done)) ?_; (with_reducible refine (gradineref09_Make.calls k a0 a1 a2 t506 t507 _ A5.out).mono ?_); rintro e w' ⟨rfl, ⟨nd, rfl⟩⟩; refine ⟨_, rfl, ?_⟩) | (go_at_call 32; (with_reducible refine (fbits_Nan.calls  t508 _ A8.out).mono ?_); rintro e w' ⟨rfl, ⟨nd, rfl⟩⟩) | (go_at_call 33; (with_reducible refine (gradineref09_Nan.calls  t509 _ A9.out).mono ?_); rintro e w' ⟨rfl, ⟨nd, rfl⟩⟩) | (go_at_call 34; (with_reducible refine (fbits_Inf.calls a0 t510 _ A11.out).mono ?_); rintro e w' ⟨rfl, ⟨nd, rfl⟩⟩) | (go_at_call 35; (with_reducible refine (gradineref09_Inf.calls a0 t511 _ A12.out).mono ?_); rintro e w' ⟨rfl, ⟨nd, rfl⟩⟩) | (go_at_call 28; (with_reducible refine (gradinelaw09_same.calls k  t512 _ A14.out).mono ?_); rintro e w16 ⟨rfl, hb⟩; have n0_ := Aside0.mk (below_step (by repeat (first | (with_reducible first | exact HB.out | apply below_alloc | apply pw_below_drewN | apply below_drew1) | exact HB.out)) hb); clear HB; have HB := n0_; clear n0_; (try clear hb); (try clear hb2); (try clear hk); (try clear hi)))
          go_ret
          exact ⟨by first | rfl | (simp [errW_none, errW_some] <;> rfl) | (simp [*, errW_none, errW_some] <;> rfl), by repeat (first | (with_reducible first | exact HB.out | apply below_alloc | apply pw_below_drewN | apply below_drew1) | exact HB.out)⟩
        · rw [if_neg c13] at H
          have c13b0 : (t510 == t511) = false := beq_eq_false_iff_ne.mpr c13
          have c13b1 : (t510 != t511) = true := bne_iff_ne.mpr c13
          obtain rfl := Option.some.inj H
          go_enter Try.func4, Try.ntmps4
          go_wp2_with (first | ((with_reducible refine gate_callee (f := 25) rfl ?_); refine goesL_ (some 15) rfl rfl Try.func25 (by kernel_rfl) rfl #[.bool a0, .int .u64 a1, .int .i64 a2] rfl (by (try simp only [List.map_toArray, List.map_cons, List.map_nil]); first | done | rfl | (simp only [List.length_drop, List.length_take]; rfl) | (simp only [*]; done)) ?_; (with_reducible refine (fbits_Make.calls k a0 a1 a2 t504 t505 _ A4.out).mono ?_); rintro e w17 ⟨rfl, hb⟩; refine ⟨_, rfl, ?_⟩; have n0_ := Aside0.mk (below_step (by repeat (first | (with_reducible first | exact HB.out | apply below_alloc | apply pw_below_drewN | apply below_drew1) | exact HB.out)) hb); clear HB; have HB := n0_; clear n0_; (try clear hb); (try clear hb2); (try clear hk); (try clear hi)) | ((with_reducible refine gate_callee (f := 31) rfl ?_); refine goesL_ (some 22) rfl rfl Try.func31 (by kernel_rfl) rfl #[.bool a0, .int .u64 a1, .int .i64 a2] rfl (by (try simp only [List.map_toArray, List.map_cons, List.map_nil]); first | done | rfl | (simp only [List.length_drop, List.length_take]; rfl) | (simp only [*]; done)) ?_; (with_reducible refine (gradineref09_Make.calls k a0 a1 a2 t506 t507 _ A5.out).mono ?_); rintro e w' ⟨rfl, ⟨nd, rfl⟩⟩; refine ⟨_, rfl, ?_⟩) | (go_at_call 32; (with_reducible refine (fbits_Nan.calls  t508 _ A8.out).mono ?_); rintro e w' ⟨rfl, ⟨nd, rfl⟩⟩) | (go_at_call 33; (with_reducible refine (gradineref09_Nan.calls  t509 _ A9.out).mono ?_); rintro e w' ⟨rfl, ⟨nd, rfl⟩⟩) | (go_at_call 34; (with_reducible refine (fbits_Inf.calls a0 t510 _ A11.out).mono ?_); rintro e w' ⟨rfl, ⟨nd, rfl⟩⟩) | (go_at_call 35; (with_reducible refine (gradineref09_Inf.calls a0 t511 _ A12.out).mono ?_); rintro e w' ⟨rfl, ⟨nd, rfl⟩⟩))
          go_ret
          exact ⟨by first | rfl | (simp [errW_none, errW_some] <;> rfl) | (simp [*, errW_none, errW_some] <;> rfl), by repeat (first | (with_reducible first | exact HB.out | apply below_alloc | apply pw_below_drewN | apply below_drew1) | exact HB.out)⟩
      · rw [if_neg c10] at H
        have c10b0 : (t508 == t509) = false := beq_eq_false_iff_ne.mpr c10
        have c10b1 : (t508 != t509) = true := bne_iff_ne.mpr c10
        obtain rfl := Option.some.inj H
        go_enter Try.func4, Try.ntmps4
        go_wp2_with (first | ((with_reducible refine gate_callee (f := 25) rfl ?_); refine goesL_ (some 15) rfl rfl Try.func25 (by kernel_rfl) rfl #[.bool a0, .int .u64 a1, .int .i64 a2] rfl (by (try simp only [List.map_toArray, List.map_cons, List.map_nil]); first | done | rfl | (simp only [List.length_drop, List.length_take]; rfl) | (simp only [*]; done)) ?_; (with_reducible refine (fbits_Make.calls k a0 a1 a2 t504 t505 _ A4.out).mono ?_); rintro e w18 ⟨rfl, hb⟩; refine ⟨_, rfl, ?_⟩; have n0_ := Aside0.mk (below_step (by repeat (first | (with_reducible first | exact HB.out | apply below_alloc | apply pw_below_drewN | apply below_drew1) | exact HB.out)) hb); clear HB; have HB := n0_; clear n0_; (try clear hb); (try clear hb2); (try clear hk); (try clear hi)) | ((with_reducible refine gate_callee (f := 31) rfl ?_); refine goesL_ (some 22) rfl rfl Try.func31 (by kernel_rfl) rfl #[.bool a0, .int .u64 a1, .int .i64 a2] rfl (by (try simp only [List.map_toArray, List.map_cons, List.map_nil]); first | done | rfl | (simp only [List.length_drop, List.length_take]; rfl) | (simp only [*]; done)) ?_; (with_reducible refine (gradineref09_Make.calls k a0 a1 a2 t506 t507 _ A5.out).mono ?_); rintro e w' ⟨rfl, ⟨nd, rfl⟩⟩; refine ⟨_, rfl, ?_⟩) | (go_at_call 32; (with_reducible refine (fbits_Nan.calls  t508 _ A8.out).mono ?_); rintro e w' ⟨rfl, ⟨nd, rfl⟩⟩) | (go_at_call 33; (with_reducible refine (gradineref09_Nan.calls  t509 _ A9.out).mono ?_); rintro e w' ⟨rfl, ⟨nd, rfl⟩⟩))
        go_ret
        exact ⟨by first | rfl | (simp [errW_none, errW_some] <;> rfl) | (simp [*, errW_none, errW_some] <;> rfl), by repeat (first | (with_reducible first | exact HB.out | apply below_alloc | apply pw_below_drewN | apply below_drew1) | exact HB.out)⟩
    · rw [if_neg c7] at H
      have c7b0 : (t505 == t507) = false := by simpa using c7
      (try (have c7b1 : decide (t505 = t507) = false := by simpa using c7))
      (try (have c7b2 : (t505 == t507) = false := by simpa using c7))
      (try (have c7b3 : ¬ (t505 = t507) := by simpa using c7))
      clear c7
      obtain rfl := Option.some.inj H
      go_enter Try.func4, Try.ntmps4
      go_wp2_with (first | ((with_reducible refine gate_callee (f := 25) rfl ?_); refine goesL_ (some 15) rfl rfl Try.func25 (by kernel_rfl) rfl #[.bool a0, .int .u64 a1, .int .i64 a2] rfl (by (try simp only [List.map_toArray, List.map_cons, List.map_nil]); first | done | rfl | (simp only [List.length_drop, List.length_take]; rfl) | (simp only [*]; done)) ?_; (with_reducible refine (fbits_Make.calls k a0 a1 a2 t504 t505 _ A4.out).mono ?_); rintro e w19 ⟨rfl, hb⟩; refine ⟨_, rfl, ?_⟩; have n0_ := Aside0.mk (below_step (by repeat (first | (with_reducible first | exact HB.out | apply below_alloc | apply pw_below_drewN | apply below_drew1) | exact HB.out)) hb); clear HB; have HB := n0_; clear n0_; (try clear hb); (try clear hb2); (try clear hk); (try clear hi)) | ((with_reducible refine gate_callee (f := 31) rfl ?_); refine goesL_ (some 22) rfl rfl Try.func31 (by kernel_rfl) rfl #[.bool a0, .int .u64 a1, .int .i64 a2] rfl (by (try simp only [List.map_toArray, List.map_cons, List.map_nil]); first | done | rfl | (simp only [List.length_drop, List.length_take]; rfl) | (simp only [*]; done)) ?_; (with_reducible refine (gradineref09_Make.calls k a0 a1 a2 t506 t507 _ A5.out).mono ?_); rintro e w' ⟨rfl, ⟨nd, rfl⟩⟩; refine ⟨_, rfl, ?_⟩))
      go_ret
      exact ⟨by first | rfl | (simp [errW_none, errW_some] <;> rfl) | (simp [*, errW_none, errW_some] <;> rfl), by repeat (first | (with_reducible first | exact HB.out | apply below_alloc | apply pw_below_drewN | apply below_drew1) | exact HB.out)⟩
  · rw [if_neg c6] at H
    have c6b0 : (t504 == t506) = false := beq_eq_false_iff_ne.mpr c6
    have c6b1 : (t504 != t506) = true := bne_iff_ne.mpr c6
    obtain rfl := Option.some.inj H
    go_enter Try.func4, Try.ntmps4
    go_wp2_with (first | ((with_reducible refine gate_callee (f := 25) rfl ?_); refine goesL_ (some 15) rfl rfl Try.func25 (by kernel_rfl) rfl #[.bool a0, .int .u64 a1, .int .i64 a2] rfl (by (try simp only [List.map_toArray, List.map_cons, List.map_nil]); first | done | rfl | (simp only [List.length_drop, List.length_take]; rfl) | (simp only [*]; done)) ?_; (with_reducible refine (fbits_Make.calls k a0 a1 a2 t504 t505 _ A4.out).mono ?_); rintro e w20 ⟨rfl, hb⟩; refine ⟨_, rfl, ?_⟩; have n0_ := Aside0.mk (below_step (by repeat (first | (with_reducible first | exact HB.out | apply below_alloc | apply pw_below_drewN | apply below_drew1) | exact HB.out)) hb); clear HB; have HB := n0_; clear n0_; (try clear hb); (try clear hb2); (try clear hk); (try clear hi)) | ((with_reducible refine gate_callee (f := 31) rfl ?_); refine goesL_ (some 22) rfl rfl Try.func31 (by kernel_rfl) rfl #[.bool a0, .int .u64 a1, .int .i64 a2] rfl (by (try simp only [List.map_toArray, List.map_cons, List.map_nil]); first | done | rfl | (simp only [List.length_drop, List.length_take]; rfl) | (simp only [*]; done)) ?_; (with_reducible refine (gradineref09_Make.calls k a0 a1 a2 t506 t507 _ A5.out).mono ?_); rintro e w' ⟨rfl, ⟨nd, rfl⟩⟩; refine ⟨_, rfl, ?_⟩))
    go_ret
    exact ⟨by first | rfl | (simp [errW_none, errW_some] <;> rfl) | (simp [*, errW_none, errW_some] <;> rfl), by repeat (first | (with_reducible first | exact HB.out | apply below_alloc | apply pw_below_drewN | apply below_drew1) | exact HB.out)⟩

/-- THE ONE PURE STATEMENT of gradinelaw09_FbitsMakes: yours. -/
def gradinelaw09_FbitsMakes.Pure : Prop := ∀ (a0 : Bool) (a1 : Int) (a2 : Int), (Lit.int .u64 a1).wf = true → (Lit.int .i64 a2).wf = true → ∃ k, gradinelaw09_FbitsMakes.f k a0 a1 a2 = some true
theorem gradinelaw09_FbitsMakes.walk (P : gradinelaw09_FbitsMakes.Pure) (a0 : Bool) (a1 : Int) (a2 : Int) (w : World) (w1 : (Lit.int .u64 a1).wf = true) (w2 : (Lit.int .i64 a2).wf = true) :
    Calls Try.prog 4 #[.bool a0, .int .u64 a1, .int .i64 a2] w fun e w' => e = .returned (.bool true) ∧ Below w.heap.size w w' := by
  obtain ⟨k, h⟩ := P a0 a1 a2 w1 w2
  refine (gradinelaw09_FbitsMakes.calls k a0 a1 a2 true w h).mono ?_
  rintro e w' ⟨rfl, hd⟩
  exact ⟨rfl, hd⟩

end Go.Proofs.Ytbpggonjcnakgaa.P
