/- Functions of one package as Lean functions, and walks: written by a program for this claim. -/
import Derived.Test.YtbpggonjcnakgaaFbase
namespace Go.Proofs.Ytbpggonjcnakgaa.P
open Go.RowKit Go.Proofs.YtbpggonjcnakgaaW.PrintWords Go.Proofs.YtbpggonjcnakgaaW.PrintLast Go.Proofs.YtbpggonjcnakgaaW.PrintMore
attribute [local go_sem] max2_int min2_int max_two min_two max_three min_three max_four min_four   -- for this text's walks alone
set_option linter.unusedVariables false
set_option linter.unusedSimpArgs false

def gradineref09_Field.f (a0 : Int) : Option (Int) := some (wrap64 (Go.bits .and .u64 (a0 / 4503599627370496) 2047))
set_option maxHeartbeats 8000000 in
set_option maxRecDepth 100000 in
theorem gradineref09_Field.calls (a0 : Int) (r : Int) (w : World) (h : gradineref09_Field.f a0 = some r) :
  Calls Try.prog 88 #[.int .u64 a0] w fun e w' => e = .returned (.int .i64 r) ∧ Drawn0 w w' := by
 have H : (some (wrap64 (Go.bits .and .u64 (a0 / 4503599627370496) 2047))) = some r := h
 clear h
 obtain rfl := Option.some.inj H
 go_enter Try.func88, Try.ntmps88
 go_wp2
 go_ret
 exact ⟨by first | rfl | (simp; done) | (simp [*]; done), by repeat (first | exact Drawn0.refl _ | apply Drawn0.step)⟩

def gradineref09_Finite.f (a0 : Int) : Option (Bool) := (gradineref09_Field.f a0).bind fun t110 => (some (decide (t110 < 2047)))
set_option maxHeartbeats 8000000 in
set_option maxRecDepth 100000 in
theorem gradineref09_Finite.calls (a0 : Int) (r : Bool) (w : World) (h : gradineref09_Finite.f a0 = some r) :
  Calls Try.prog 26 #[.int .u64 a0] w fun e w' => e = .returned (.bool r) ∧ Drawn0 w w' := by
 have H : ((gradineref09_Field.f a0).bind fun t110 => (some (decide (t110 < 2047)))) = some r := h
 clear h
 replace H := Option.bind_eq_some_iff.mp H
 obtain ⟨t110, A20, H⟩ := H
 replace H : (some (decide (t110 < 2047))) = some r := H
 have A2 := Aside0.mk A20
 clear A20
 obtain rfl := Option.some.inj H
 go_enter Try.func26, Try.ntmps26
 go_wp2_with (first | ((with_reducible refine gate_callee (f := 88) rfl ?_); refine goesL_ (some 4) rfl rfl Try.func88 (by kernel_rfl) rfl #[.int .u64 a0] rfl (by (try simp only [List.map_toArray, List.map_cons, List.map_nil]); first | done | rfl | (simp only [List.length_drop, List.length_take]; rfl) | (simp only [*]; done)) ?_; (with_reducible refine (gradineref09_Field.calls a0 t110 _ A2.out).mono ?_); rintro e w' ⟨rfl, ⟨nd, rfl⟩⟩; refine ⟨_, rfl, ?_⟩))
 go_ret
 exact ⟨by first | rfl | (simp; done) | (simp [*]; done), by repeat (first | exact Drawn0.refl _ | apply Drawn0.step)⟩

def gradineref09_Neg.f (a0 : Int) : Option (Bool) := some ((a0 / 9223372036854775808) == 1)
set_option maxHeartbeats 8000000 in
set_option maxRecDepth 100000 in
theorem gradineref09_Neg.calls (a0 : Int) (r : Bool) (w : World) (h : gradineref09_Neg.f a0 = some r) :
  Calls Try.prog 27 #[.int .u64 a0] w fun e w' => e = .returned (.bool r) ∧ Drawn0 w w' := by
 have H : (some ((a0 / 9223372036854775808) == 1)) = some r := h
 clear h
 obtain rfl := Option.some.inj H
 go_enter Try.func27, Try.ntmps27
 go_wp2
 go_ret
 exact ⟨by first | rfl | (simp; done) | (simp [*]; done), by repeat (first | exact Drawn0.refl _ | apply Drawn0.step)⟩

def gradineref09_Rest.f (a0 : Int) : Option (Int) := some (Go.bits .and .u64 a0 4503599627370495)
set_option maxHeartbeats 8000000 in
set_option maxRecDepth 100000 in
theorem gradineref09_Rest.calls (a0 : Int) (r : Int) (w : World) (h : gradineref09_Rest.f a0 = some r) :
  Calls Try.prog 96 #[.int .u64 a0] w fun e w' => e = .returned (.int .u64 r) ∧ Drawn0 w w' := by
 have H : (some (Go.bits .and .u64 a0 4503599627370495)) = some r := h
 clear h
 obtain rfl := Option.some.inj H
 go_enter Try.func96, Try.ntmps96
 go_wp2
 go_ret
 exact ⟨by first | rfl | (simp; done) | (simp [*]; done), by repeat (first | exact Drawn0.refl _ | apply Drawn0.step)⟩

def gradineref09_Parts.f (a0 : Int) : Option (Int × Int) := (gradineref09_Field.f a0).bind fun t445 => (if t445 = 0 then ((gradineref09_Rest.f a0).bind fun t446 => (some (t446, (-1074)))) else ((gradineref09_Rest.f a0).bind fun t447 => ((gradineref09_Field.f a0).bind fun t448 => (some (IntKind.u64.wrap (t447 + 4503599627370496), wrap64 (t448 - 1075))))))
set_option maxHeartbeats 8000000 in
set_option maxRecDepth 100000 in
theorem gradineref09_Parts.calls (a0 : Int) (r1 : Int) (r2 : Int) (w : World) (h : gradineref09_Parts.f a0 = some (r1, r2)) :
  Calls Try.prog 42 #[.int .u64 a0] w fun e w' => e = .returned (.tuple #[.int .u64 r1, .int .i64 r2]) ∧ Drawn0 w w' := by
 have H : ((gradineref09_Field.f a0).bind fun t445 => (if t445 = 0 then ((gradineref09_Rest.f a0).bind fun t446 => (some (t446, (-1074)))) else ((gradineref09_Rest.f a0).bind fun t447 => ((gradineref09_Field.f a0).bind fun t448 => (some (IntKind.u64.wrap (t447 + 4503599627370496), wrap64 (t448 - 1075))))))) = some (r1, r2) := h
 clear h
 replace H := Option.bind_eq_some_iff.mp H
 obtain ⟨t445, A20, H⟩ := H
 replace H : (if t445 = 0 then ((gradineref09_Rest.f a0).bind fun t446 => (some (t446, (-1074)))) else ((gradineref09_Rest.f a0).bind fun t447 => ((gradineref09_Field.f a0).bind fun t448 => (some (IntKind.u64.wrap (t447 + 4503599627370496), wrap64 (t448 - 1075)))))) = some (r1, r2) := H
 have A2 := Aside0.mk A20
 clear A20
 by_cases c3 : t445 = 0
 ·rw [if_pos c3] at H
  have c3b0 : (t445 == 0) = true := beq_iff_eq.mpr c3
  have c3b1 : (t445 != 0) = false := bne_eq_false_iff_eq.mpr c3
  clear c3
  replace H := Option.bind_eq_some_iff.mp H
  obtain ⟨t446, A40, H⟩ := H
  replace H : (some (t446, (-1074))) = some (r1, r2) := H
  have A4 := Aside0.mk A40
  clear A40
  simp only [Option.some.injEq, Prod.mk.injEq] at H
  obtain ⟨rfl, rfl⟩ := H
  go_enter Try.func42, Try.ntmps42
  go_wp2_with (first | ((with_reducible refine gate_callee (f := 88) rfl ?_); refine goesL_ (some 5) rfl rfl Try.func88 (by kernel_rfl) rfl #[.int .u64 a0] rfl (by (try simp only [List.map_toArray, List.map_cons, List.map_nil]); first | done | rfl | (simp only [List.length_drop, List.length_take]; rfl) | (simp only [*]; done)) ?_; (with_reducible refine (gradineref09_Field.calls a0 t445 _ A2.out).mono ?_); rintro e w' ⟨rfl, ⟨nd, rfl⟩⟩; refine ⟨_, rfl, ?_⟩) | ((with_reducible refine gate_callee (f := 96) rfl ?_); refine goesL_ (some 8) rfl rfl Try.func96 (by kernel_rfl) rfl #[.int .u64 a0] rfl (by (try simp only [List.map_toArray, List.map_cons, List.map_nil]); first | done | rfl | (simp only [List.length_drop, List.length_take]; rfl) | (simp only [*]; done)) ?_; (with_reducible refine (gradineref09_Rest.calls a0 t446 _ A4.out).mono ?_); rintro e w' ⟨rfl, ⟨nd, rfl⟩⟩; refine ⟨_, rfl, ?_⟩))
  go_ret2
  exact ⟨by first | rfl | (simp; done) | (simp [*]; done), by repeat (first | exact Drawn0.refl _ | apply Drawn0.step)⟩
 ·rw [if_neg c3] at H
  have c3b0 : (t445 == 0) = false := beq_eq_false_iff_ne.mpr c3
  have c3b1 : (t445 != 0) = true := bne_iff_ne.mpr c3
  replace H := Option.bind_eq_some_iff.mp H
  obtain ⟨t447, A50, H⟩ := H
  replace H : ((gradineref09_Field.f a0).bind fun t448 => (some (IntKind.u64.wrap (t447 + 4503599627370496), wrap64 (t448 - 1075)))) = some (r1, r2) := H
  have A5 := Aside0.mk A50
  clear A50
  replace H := Option.bind_eq_some_iff.mp H
  obtain ⟨t448, A60, H⟩ := H
  replace H : (some (IntKind.u64.wrap (t447 + 4503599627370496), wrap64 (t448 - 1075))) = some (r1, r2) := H
  have A6 := Aside0.mk A60
  clear A60
  simp only [Option.some.injEq, Prod.mk.injEq] at H
  obtain ⟨rfl, rfl⟩ := H
  go_enter Try.func42, Try.ntmps42
  go_wp2_with (first | ((with_reducible refine gate_callee (f := 88) rfl ?_); refine goesL_ (some 5) rfl rfl Try.func88 (by kernel_rfl) rfl #[.int .u64 a0] rfl (by (try simp only [List.map_toArray, List.map_cons, List.map_nil]); first | done | rfl | (simp only [List.length_drop, List.length_take]; rfl) | (simp only [*]; done)) ?_; (with_reducible refine (gradineref09_Field.calls a0 t445 _ A2.out).mono ?_); rintro e w' ⟨rfl, ⟨nd, rfl⟩⟩; refine ⟨_, rfl, ?_⟩) | ((with_reducible refine gate_callee (f := 96) rfl ?_); refine goesL_ (some 10) rfl rfl Try.func96 (by kernel_rfl) rfl #[.int .u64 a0] rfl (by (try simp only [List.map_toArray, List.map_cons, List.map_nil]); first | done | rfl | (simp only [List.length_drop, List.length_take]; rfl) | (simp only [*]; done)) ?_; (with_reducible refine (gradineref09_Rest.calls a0 t447 _ A5.out).mono ?_); rintro e w' ⟨rfl, ⟨nd, rfl⟩⟩; refine ⟨_, rfl, ?_⟩) | ((with_reducible refine gate_callee (f := 88) rfl ?_); refine goesL_ (some 13) rfl rfl Try.func88 (by kernel_rfl) rfl #[.int .u64 a0] rfl (by (try simp only [List.map_toArray, List.map_cons, List.map_nil]); first | done | rfl | (simp only [List.length_drop, List.length_take]; rfl) | (simp only [*]; done)) ?_; (with_reducible refine (gradineref09_Field.calls a0 t448 _ A6.out).mono ?_); rintro e w' ⟨rfl, ⟨nd, rfl⟩⟩; refine ⟨_, rfl, ?_⟩))
  go_ret2
  exact ⟨by first | rfl | (simp; done) | (simp [*]; done), by repeat (first | exact Drawn0.refl _ | apply Drawn0.step)⟩

end Go.Proofs.Ytbpggonjcnakgaa.P
