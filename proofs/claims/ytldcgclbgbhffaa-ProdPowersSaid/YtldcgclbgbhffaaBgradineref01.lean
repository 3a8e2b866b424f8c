/- Functions of one package as Lean functions, and walks: written by a program for this claim. -/
import Derived.Test.YtldcgclbgbhffaaFbase
namespace Go.Proofs.Ytldcgclbgbhffaa.P
open Go.RowKit Go.Proofs.YtldcgclbgbhffaaW.PrintWords Go.Proofs.YtldcgclbgbhffaaW.PrintLast Go.Proofs.YtldcgclbgbhffaaW.PrintMore
attribute [local go_sem] max2_int min2_int max_two min_two max_three min_three max_four min_four   -- for this text's walks alone
set_option linter.unusedVariables false
set_option linter.unusedSimpArgs false

/-! ### gradineref01_Add: function 41 -/
def gradineref01_Add.f (a0 : Int) (a1 : Int) (a2 : Int) : Option (Int × Int) := some (Go.bits .or .u64 (IntKind.u64.wrap ((IntKind.u64.wrap ((IntKind.u64.wrap ((IntKind.u64.wrap ((a0 / 4294967296) + (a1 / 4294967296))) + (a2 / 4294967296))) + ((IntKind.u64.wrap ((IntKind.u64.wrap ((Go.bits .and .u64 a0 4294967295) + (Go.bits .and .u64 a1 4294967295))) + (Go.bits .and .u64 a2 4294967295))) / 4294967296))) * 4294967296)) (Go.bits .and .u64 (IntKind.u64.wrap ((IntKind.u64.wrap ((Go.bits .and .u64 a0 4294967295) + (Go.bits .and .u64 a1 4294967295))) + (Go.bits .and .u64 a2 4294967295))) 4294967295), (IntKind.u64.wrap ((IntKind.u64.wrap ((IntKind.u64.wrap ((a0 / 4294967296) + (a1 / 4294967296))) + (a2 / 4294967296))) + ((IntKind.u64.wrap ((IntKind.u64.wrap ((Go.bits .and .u64 a0 4294967295) + (Go.bits .and .u64 a1 4294967295))) + (Go.bits .and .u64 a2 4294967295))) / 4294967296))) / 4294967296)
set_option maxHeartbeats 8000000 in
set_option maxRecDepth 100000 in
theorem gradineref01_Add.calls (a0 : Int) (a1 : Int) (a2 : Int) (r1 : Int) (r2 : Int) (w : World) (h : gradineref01_Add.f a0 a1 a2 = some (r1, r2)) :
    Calls Try.prog 41 #[.int .u64 a0, .int .u64 a1, .int .u64 a2] w fun e w' => e = .returned (.tuple #[.int .u64 r1, .int .u64 r2]) ∧ Drawn0 w w' := by
  have H : (some (Go.bits .or .u64 (IntKind.u64.wrap ((IntKind.u64.wrap ((IntKind.u64.wrap ((IntKind.u64.wrap ((a0 / 4294967296) + (a1 / 4294967296))) + (a2 / 4294967296))) + ((IntKind.u64.wrap ((IntKind.u64.wrap ((Go.bits .and .u64 a0 4294967295) + (Go.bits .and .u64 a1 4294967295))) + (Go.bits .and .u64 a2 4294967295))) / 4294967296))) * 4294967296)) (Go.bits .and .u64 (IntKind.u64.wrap ((IntKind.u64.wrap ((Go.bits .and .u64 a0 4294967295) + (Go.bits .and .u64 a1 4294967295))) + (Go.bits .and .u64 a2 4294967295))) 4294967295), (IntKind.u64.wrap ((IntKind.u64.wrap ((IntKind.u64.wrap ((a0 / 4294967296) + (a1 / 4294967296))) + (a2 / 4294967296))) + ((IntKind.u64.wrap ((IntKind.u64.wrap ((Go.bits .and .u64 a0 4294967295) + (Go.bits .and .u64 a1 4294967295))) + (Go.bits .and .u64 a2 4294967295))) / 4294967296))) / 4294967296)) = some (r1, r2) := h
  clear h
  simp only [Option.some.injEq, Prod.mk.injEq] at H
  obtain ⟨rfl, rfl⟩ := H
  go_enter Try.func41, Try.ntmps41
  go_wp2
  go_ret2
  exact ⟨by first | rfl | (simp; done) | (simp [*]; done), by repeat (first | exact Drawn0.refl _ | apply Drawn0.step)⟩

/-! ### gradineref01_Sub: function 43 -/
def gradineref01_Sub.f (a0 : Int) (a1 : Int) (a2 : Int) : Option (Int × Int) := if a1 > a0 then (if a2 > (IntKind.u64.wrap (a0 - a1)) then (some (IntKind.u64.wrap ((IntKind.u64.wrap (a0 - a1)) - a2), (0 + 1) + 1)) else (some (IntKind.u64.wrap ((IntKind.u64.wrap (a0 - a1)) - a2), 0 + 1))) else (if a2 > (IntKind.u64.wrap (a0 - a1)) then (some (IntKind.u64.wrap ((IntKind.u64.wrap (a0 - a1)) - a2), 0 + 1)) else (some (IntKind.u64.wrap ((IntKind.u64.wrap (a0 - a1)) - a2), 0)))
set_option maxHeartbeats 8000000 in
set_option maxRecDepth 100000 in
theorem gradineref01_Sub.calls (a0 : Int) (a1 : Int) (a2 : Int) (r1 : Int) (r2 : Int) (w : World) (h : gradineref01_Sub.f a0 a1 a2 = some (r1, r2)) :
    Calls Try.prog 43 #[.int .u64 a0, .int .u64 a1, .int .u64 a2] w fun e w' => e = .returned (.tuple #[.int .u64 r1, .int .u64 r2]) ∧ Drawn0 w w' := by
  have H : (if a1 > a0 then (if a2 > (IntKind.u64.wrap (a0 - a1)) then (some (IntKind.u64.wrap ((IntKind.u64.wrap (a0 - a1)) - a2), (0 + 1) + 1)) else (some (IntKind.u64.wrap ((IntKind.u64.wrap (a0 - a1)) - a2), 0 + 1))) else (if a2 > (IntKind.u64.wrap (a0 - a1)) then (some (IntKind.u64.wrap ((IntKind.u64.wrap (a0 - a1)) - a2), 0 + 1)) else (some (IntKind.u64.wrap ((IntKind.u64.wrap (a0 - a1)) - a2), 0)))) = some (r1, r2) := h
  clear h
  by_cases c4 : a1 > a0
  · rw [if_pos c4] at H
    have c4b0 : decide (a0 < a1) = true := decide_eq_true c4
    clear c4
    by_cases c5 : a2 > (IntKind.u64.wrap (a0 - a1))
    · rw [if_pos c5] at H
      have c5b0 : decide ((IntKind.u64.wrap (a0 - a1)) < a2) = true := decide_eq_true c5
      clear c5
      simp only [Option.some.injEq, Prod.mk.injEq] at H
      obtain ⟨rfl, rfl⟩ := H
      go_enter Try.func43, Try.ntmps43
      go_wp2
      go_ret2
      exact ⟨by first | rfl | (simp; done) | (simp [*]; done), by repeat (first | exact Drawn0.refl _ | apply Drawn0.step)⟩
    · rw [if_neg c5] at H
      have c5b0 : decide ((IntKind.u64.wrap (a0 - a1)) < a2) = false := decide_eq_false c5
      clear c5
      simp only [Option.some.injEq, Prod.mk.injEq] at H
      obtain ⟨rfl, rfl⟩ := H
      go_enter Try.func43, Try.ntmps43
      go_wp2
      go_ret2
      exact ⟨by first | rfl | (simp; done) | (simp [*]; done), by repeat (first | exact Drawn0.refl _ | apply Drawn0.step)⟩
  · rw [if_neg c4] at H
    have c4b0 : decide (a0 < a1) = false := decide_eq_false c4
    clear c4
    by_cases c6 : a2 > (IntKind.u64.wrap (a0 - a1))
    · rw [if_pos c6] at H
      have c6b0 : decide ((IntKind.u64.wrap (a0 - a1)) < a2) = true := decide_eq_true c6
      clear c6
      simp only [Option.some.injEq, Prod.mk.injEq] at H
      obtain ⟨rfl, rfl⟩ := H
      go_enter Try.func43, Try.ntmps43
      go_wp2
      go_ret2
      exact ⟨by first | rfl | (simp; done) | (simp [*]; done), by repeat (first | exact Drawn0.refl _ | apply Drawn0.step)⟩
    · rw [if_neg c6] at H
      have c6b0 : decide ((IntKind.u64.wrap (a0 - a1)) < a2) = false := decide_eq_false c6
      clear c6
      simp only [Option.some.injEq, Prod.mk.injEq] at H
      obtain ⟨rfl, rfl⟩ := H
      go_enter Try.func43, Try.ntmps43
      go_wp2
      go_ret2
      exact ⟨by first | rfl | (simp; done) | (simp [*]; done), by repeat (first | exact Drawn0.refl _ | apply Drawn0.step)⟩

/-! ### gradineref01_Twice: function 138 -/
def gradineref01_Twice.f (a0 : Int) (a1 : Int) (a2 : Int) : Option (Int × Int × Bool) := some (Go.bits .or .u64 (IntKind.u64.wrap (a0 * 2)) (a1 / 9223372036854775808), Go.bits .or .u64 (IntKind.u64.wrap (a1 * 2)) a2, ((a0 / 9223372036854775808) == 1))
set_option maxHeartbeats 8000000 in
set_option maxRecDepth 100000 in
theorem gradineref01_Twice.calls (a0 : Int) (a1 : Int) (a2 : Int) (r1 : Int) (r2 : Int) (r3 : Bool) (w : World) (h : gradineref01_Twice.f a0 a1 a2 = some (r1, r2, r3)) :
    Calls Try.prog 138 #[.int .u64 a0, .int .u64 a1, .int .u64 a2] w fun e w' => e = .returned (.tuple #[.int .u64 r1, .int .u64 r2, .bool r3]) ∧ Drawn0 w w' := by
  have H : (some (Go.bits .or .u64 (IntKind.u64.wrap (a0 * 2)) (a1 / 9223372036854775808), Go.bits .or .u64 (IntKind.u64.wrap (a1 * 2)) a2, ((a0 / 9223372036854775808) == 1))) = some (r1, r2, r3) := h
  clear h
  simp only [Option.some.injEq, Prod.mk.injEq] at H
  obtain ⟨rfl, rfl, rfl⟩ := H
  go_enter Try.func138, Try.ntmps138
  go_wp2
  go_ret3
  exact ⟨by first | rfl | (simp; done) | (simp [*]; done), by repeat (first | exact Drawn0.refl _ | apply Drawn0.step)⟩

/-! ### gradineref01_Mul: function 34 -/
def gradineref01_Mul.l0 : Nat → Int → Int → Int → Int → Int → Option (Int × Int)
  | 0, _, _, _, _, _ => none
  | k + 1, x0, x1, x6, x7, x8 => if x8 ≥ 0 then ((gradineref01_Twice.f x6 x7 0).bind fun bt101 => (if 0 ≤ (IntKind.u64.wrap (x8)) then (if (Go.bits .and .u64 (shr .u64 x1 (IntKind.u64.wrap (x8))) 1) = 1 then (if (IntKind.u64.wrap (bt101.2.1 + x0)) < bt101.2.1 then (gradineref01_Mul.l0 k x0 x1 (IntKind.u64.wrap (bt101.1 + 1)) (IntKind.u64.wrap (bt101.2.1 + x0)) (wrap64 (x8 - 1))) else (gradineref01_Mul.l0 k x0 x1 bt101.1 (IntKind.u64.wrap (bt101.2.1 + x0)) (wrap64 (x8 - 1)))) else (gradineref01_Mul.l0 k x0 x1 bt101.1 bt101.2.1 (wrap64 (x8 - 1)))) else (none))) else (some (x6, x7))
def gradineref01_Mul.f (k : Nat) (a0 : Int) (a1 : Int) : Option (Int × Int) := gradineref01_Mul.l0 k a0 a1 0 0 63
set_option maxHeartbeats 8000000 in
set_option maxRecDepth 100000 in
theorem gradineref01_Mul.calls (k : Nat) (a0 : Int) (a1 : Int) (r1 : Int) (r2 : Int) (w : World) (h : gradineref01_Mul.f k a0 a1 = some (r1, r2)) :
    Calls Try.prog 34 #[.int .u64 a0, .int .u64 a1] w fun e w' => e = .returned (.tuple #[.int .u64 r1, .int .u64 r2]) ∧ Drawn0 w w' := by
  have H : (gradineref01_Mul.l0 k a0 a1 0 0 63) = some (r1, r2) := h
  clear h
  have H' := Aside0.mk H
  clear H
  go_enter Try.func34, Try.ntmps34
  go_wp2
  go_loopg [6, 7, 8] k (fun kq v6 v7 v8 w' => ∃ (x6_1 : Int) (x7_1 : Int) (x8_1 : Int), v6 = .int .u64 x6_1 ∧ v7 = .int .u64 x7_1 ∧ v8 = .int .i64 x8_1 ∧ Aside0 (gradineref01_Mul.l0 kq a0 a1 x6_1 x7_1 x8_1 = some (r1, r2)) ∧ Aside0 (kq ≤ k) ∧ Drawn0 w w')
  case atStart => exact ⟨(0), (0), (63), (by first | rfl | (simp; done) | (simp [*]; done)), (by first | rfl | (simp; done) | (simp [*]; done)), (by first | rfl | (simp; done) | (simp [*]; done)), H', ⟨Nat.le_refl _⟩, by repeat (first | exact Drawn0.refl _ | apply Drawn0.step)⟩
  case round =>
    clear H'
    try clear p2
    obtain ⟨x6_1, x7_1, x8_1, rfl, rfl, rfl, HA, HK1, ⟨m1, rfl⟩⟩ := hrel
    cases gk with
    | zero => exact absurd HA.out (by simp [gradineref01_Mul.l0])
    | succ k1 =>
      have H := HA.out
      clear HA
      simp only [gradineref01_Mul.l0] at H
      by_cases c3 : x8_1 ≥ 0
      · rw [if_pos c3] at H
        have c3b0 : decide (0 ≤ x8_1) = true := decide_eq_true c3
        clear c3
        replace H := Option.bind_eq_some_iff.mp H
        obtain ⟨⟨t101, t102, t103⟩, A40, H⟩ := H
        replace H : (if 0 ≤ (IntKind.u64.wrap (x8_1)) then (if (Go.bits .and .u64 (shr .u64 a1 (IntKind.u64.wrap (x8_1))) 1) = 1 then (if (IntKind.u64.wrap (t102 + a0)) < t102 then (gradineref01_Mul.l0 k1 a0 a1 (IntKind.u64.wrap (t101 + 1)) (IntKind.u64.wrap (t102 + a0)) (wrap64 (x8_1 - 1))) else (gradineref01_Mul.l0 k1 a0 a1 t101 (IntKind.u64.wrap (t102 + a0)) (wrap64 (x8_1 - 1)))) else (gradineref01_Mul.l0 k1 a0 a1 t101 t102 (wrap64 (x8_1 - 1)))) else (none)) = some (r1, r2) := H
        have A4 := Aside0.mk A40
        clear A40
        obtain ⟨ji5, hji5⟩ : ∃ j_ : Int, (IntKind.u64.wrap (x8_1)) = j_ := ⟨_, rfl⟩
        replace H : (if 0 ≤ (ji5) then (if (Go.bits .and .u64 (shr .u64 a1 (ji5)) 1) = 1 then (if (IntKind.u64.wrap (t102 + a0)) < t102 then (gradineref01_Mul.l0 k1 a0 a1 (IntKind.u64.wrap (t101 + 1)) (IntKind.u64.wrap (t102 + a0)) (wrap64 (x8_1 - 1))) else (gradineref01_Mul.l0 k1 a0 a1 t101 (IntKind.u64.wrap (t102 + a0)) (wrap64 (x8_1 - 1)))) else (gradineref01_Mul.l0 k1 a0 a1 t101 t102 (wrap64 (x8_1 - 1)))) else (none)) = some (r1, r2) := by first | (rw [hji5] at H; exact H) | (simp only [hji5] at H ⊢; exact H)
        (try rw [hji5] at A4)
        by_cases c6 : 0 ≤ (ji5)
        · rw [if_pos c6] at H
          have c6b0 := eq_true c6
          have c6b1 : decide (0 ≤ (ji5)) = true := decide_eq_true c6
          clear c6
          obtain ⟨ji7, hji7⟩ : ∃ j_ : Int, (shr .u64 a1 (ji5)) = j_ := ⟨_, rfl⟩
          replace H : (if (Go.bits .and .u64 (ji7) 1) = 1 then (if (IntKind.u64.wrap (t102 + a0)) < t102 then (gradineref01_Mul.l0 k1 a0 a1 (IntKind.u64.wrap (t101 + 1)) (IntKind.u64.wrap (t102 + a0)) (wrap64 (x8_1 - 1))) else (gradineref01_Mul.l0 k1 a0 a1 t101 (IntKind.u64.wrap (t102 + a0)) (wrap64 (x8_1 - 1)))) else (gradineref01_Mul.l0 k1 a0 a1 t101 t102 (wrap64 (x8_1 - 1)))) = some (r1, r2) := by first | (rw [hji7] at H; exact H) | (simp only [hji7] at H ⊢; exact H)
          (try rw [hji7] at A4)
          have hji7_ : (a1 / 2 ^ min (ji5).toNat 64) = ji7 := hji7
          have hji7z : (ji5) ≤ 64 → (a1 / 2 ^ (ji5).toNat) = ji7 := shr_small hji7
          by_cases c8 : (Go.bits .and .u64 (ji7) 1) = 1
          · rw [if_pos c8] at H
            have c8b0 : ((Go.bits .and .u64 (ji7) 1) == 1) = true := beq_iff_eq.mpr c8
            have c8b1 : ((Go.bits .and .u64 (ji7) 1) != 1) = false := bne_eq_false_iff_eq.mpr c8
            clear c8
            by_cases c9 : (IntKind.u64.wrap (t102 + a0)) < t102
            · rw [if_pos c9] at H
              have c9b0 : decide ((IntKind.u64.wrap (t102 + a0)) < t102) = true := decide_eq_true c9
              clear c9
              have H' := Aside0.mk H
              clear H
              go_wp2_with (first | ((with_reducible refine gate_callee (f := 138) rfl ?_); refine goesL_ (some 17) rfl rfl Try.func138 (by kernel_rfl) rfl #[.int .u64 x6_1, .int .u64 x7_1, .int .u64 0] rfl (by (try simp only [List.map_toArray, List.map_cons, List.map_nil]); first | done | rfl | (simp only [List.length_drop, List.length_take]; rfl) | (simp only [*]; done)) ?_; (with_reducible refine (gradineref01_Twice.calls x6_1 x7_1 0 t101 t102 t103 _ A4.out).mono ?_); rintro e w' ⟨rfl, ⟨nd, rfl⟩⟩; refine ⟨_, rfl, ?_⟩))
              go_roundg k1
              case measure => have := HK1.out; omega
              case rel => exact ⟨(IntKind.u64.wrap (t101 + 1)), (IntKind.u64.wrap (t102 + a0)), (wrap64 (x8_1 - 1)), (by first | rfl | (simp; done) | (simp [*]; done)), (by first | rfl | (simp; done) | (simp [*]; done)), (by first | rfl | (simp; done) | (simp [*]; done)), H', ⟨by have := HK1.out; omega⟩, by repeat (first | exact Drawn0.refl _ | apply Drawn0.step)⟩
            · rw [if_neg c9] at H
              have c9b0 : decide ((IntKind.u64.wrap (t102 + a0)) < t102) = false := decide_eq_false c9
              clear c9
              have H' := Aside0.mk H
              clear H
              go_wp2_with (first | ((with_reducible refine gate_callee (f := 138) rfl ?_); refine goesL_ (some 17) rfl rfl Try.func138 (by kernel_rfl) rfl #[.int .u64 x6_1, .int .u64 x7_1, .int .u64 0] rfl (by (try simp only [List.map_toArray, List.map_cons, List.map_nil]); first | done | rfl | (simp only [List.length_drop, List.length_take]; rfl) | (simp only [*]; done)) ?_; (with_reducible refine (gradineref01_Twice.calls x6_1 x7_1 0 t101 t102 t103 _ A4.out).mono ?_); rintro e w' ⟨rfl, ⟨nd, rfl⟩⟩; refine ⟨_, rfl, ?_⟩))
              go_roundg k1
              case measure => have := HK1.out; omega
              case rel => exact ⟨(t101), (IntKind.u64.wrap (t102 + a0)), (wrap64 (x8_1 - 1)), (by first | rfl | (simp; done) | (simp [*]; done)), (by first | rfl | (simp; done) | (simp [*]; done)), (by first | rfl | (simp; done) | (simp [*]; done)), H', ⟨by have := HK1.out; omega⟩, by repeat (first | exact Drawn0.refl _ | apply Drawn0.step)⟩
          · rw [if_neg c8] at H
            have c8b0 : ((Go.bits .and .u64 (ji7) 1) == 1) = false := beq_eq_false_iff_ne.mpr c8
            have c8b1 : ((Go.bits .and .u64 (ji7) 1) != 1) = true := bne_iff_ne.mpr c8
            have H' := Aside0.mk H
            clear H
            go_wp2_with (first | ((with_reducible refine gate_callee (f := 138) rfl ?_); refine goesL_ (some 17) rfl rfl Try.func138 (by kernel_rfl) rfl #[.int .u64 x6_1, .int .u64 x7_1, .int .u64 0] rfl (by (try simp only [List.map_toArray, List.map_cons, List.map_nil]); first | done | rfl | (simp only [List.length_drop, List.length_take]; rfl) | (simp only [*]; done)) ?_; (with_reducible refine (gradineref01_Twice.calls x6_1 x7_1 0 t101 t102 t103 _ A4.out).mono ?_); rintro e w' ⟨rfl, ⟨nd, rfl⟩⟩; refine ⟨_, rfl, ?_⟩))
            go_roundg k1
            case measure => have := HK1.out; omega
            case rel => exact ⟨(t101), (t102), (wrap64 (x8_1 - 1)), (by first | rfl | (simp; done) | (simp [*]; done)), (by first | rfl | (simp; done) | (simp [*]; done)), (by first | rfl | (simp; done) | (simp [*]; done)), H', ⟨by have := HK1.out; omega⟩, by repeat (first | exact Drawn0.refl _ | apply Drawn0.step)⟩
        · rw [if_neg c6] at H
          exact absurd H (by simp)
      · rw [if_neg c3] at H
        have c3b0 : decide (0 ≤ x8_1) = false := decide_eq_false c3
        clear c3
        simp only [Option.some.injEq, Prod.mk.injEq] at H
        obtain ⟨rfl, rfl⟩ := H
        go_wp2
        go_ret2
        exact ⟨by first | rfl | (simp; done) | (simp [*]; done), by repeat (first | exact Drawn0.refl _ | apply Drawn0.step)⟩

/-! ### gradineref01_Div: function 36 -/
def gradineref01_Div.l0 : Nat → Int → Int → Int → Int → Int → Option (Int × Int × Bool)
  | 0, _, _, _, _, _ => none
  | k + 1, x1, x2, x9, x10, x11 => if x11 ≥ 0 then (if 0 ≤ (IntKind.u64.wrap (x11)) then (if (x10 / 9223372036854775808) = 1 then (gradineref01_Div.l0 k x1 x2 (Go.bits .or .u64 (IntKind.u64.wrap (x9 * 2)) 1) (IntKind.u64.wrap ((Go.bits .or .u64 (IntKind.u64.wrap (x10 * 2)) (Go.bits .and .u64 (shr .u64 x1 (IntKind.u64.wrap (x11))) 1)) - x2)) (wrap64 (x11 - 1))) else (if (Go.bits .or .u64 (IntKind.u64.wrap (x10 * 2)) (Go.bits .and .u64 (shr .u64 x1 (IntKind.u64.wrap (x11))) 1)) ≥ x2 then (gradineref01_Div.l0 k x1 x2 (Go.bits .or .u64 (IntKind.u64.wrap (x9 * 2)) 1) (IntKind.u64.wrap ((Go.bits .or .u64 (IntKind.u64.wrap (x10 * 2)) (Go.bits .and .u64 (shr .u64 x1 (IntKind.u64.wrap (x11))) 1)) - x2)) (wrap64 (x11 - 1))) else (gradineref01_Div.l0 k x1 x2 (IntKind.u64.wrap (x9 * 2)) (Go.bits .or .u64 (IntKind.u64.wrap (x10 * 2)) (Go.bits .and .u64 (shr .u64 x1 (IntKind.u64.wrap (x11))) 1)) (wrap64 (x11 - 1))))) else (none)) else (some (x9, x10, true))
def gradineref01_Div.f (k : Nat) (a0 : Int) (a1 : Int) (a2 : Int) : Option (Int × Int × Bool) := if a0 ≥ a2 then (some (0, 0, false)) else (gradineref01_Div.l0 k a1 a2 0 a0 63)
set_option maxHeartbeats 8000000 in
set_option maxRecDepth 100000 in
theorem gradineref01_Div.calls (k : Nat) (a0 : Int) (a1 : Int) (a2 : Int) (r1 : Int) (r2 : Int) (r3 : Bool) (w : World) (h : gradineref01_Div.f k a0 a1 a2 = some (r1, r2, r3)) :
    Calls Try.prog 36 #[.int .u64 a0, .int .u64 a1, .int .u64 a2] w fun e w' => e = .returned (.tuple #[.int .u64 r1, .int .u64 r2, .bool r3]) ∧ Drawn0 w w' := by
  have H : (if a0 ≥ a2 then (some (0, 0, false)) else (gradineref01_Div.l0 k a1 a2 0 a0 63)) = some (r1, r2, r3) := h
  clear h
  by_cases c4 : a0 ≥ a2
  · rw [if_pos c4] at H
    have c4b0 : decide (a2 ≤ a0) = true := decide_eq_true c4
    clear c4
    simp only [Option.some.injEq, Prod.mk.injEq] at H
    obtain ⟨rfl, rfl, rfl⟩ := H
    go_enter Try.func36, Try.ntmps36
    go_wp2
    go_ret3
    exact ⟨by first | rfl | (simp; done) | (simp [*]; done), by repeat (first | exact Drawn0.refl _ | apply Drawn0.step)⟩
  · rw [if_neg c4] at H
    have c4b0 : decide (a2 ≤ a0) = false := decide_eq_false c4
    clear c4
    have H' := Aside0.mk H
    clear H
    go_enter Try.func36, Try.ntmps36
    go_wp2
    go_loopg [9, 10, 11] k (fun kq v9 v10 v11 w' => ∃ (x9_1 : Int) (x10_1 : Int) (x11_1 : Int), v9 = .int .u64 x9_1 ∧ v10 = .int .u64 x10_1 ∧ v11 = .int .i64 x11_1 ∧ Aside0 (gradineref01_Div.l0 kq a1 a2 x9_1 x10_1 x11_1 = some (r1, r2, r3)) ∧ Aside0 (kq ≤ k) ∧ Drawn0 w w')
    case atStart => exact ⟨(0), (a0), (63), (by first | rfl | (simp; done) | (simp [*]; done)), (by first | rfl | (simp; done) | (simp [*]; done)), (by first | rfl | (simp; done) | (simp [*]; done)), H', ⟨Nat.le_refl _⟩, by repeat (first | exact Drawn0.refl _ | apply Drawn0.step)⟩
    case round =>
      clear H'
      try clear p2
      try clear c3
      try clear c4
      try clear c4b0
      obtain ⟨x9_1, x10_1, x11_1, rfl, rfl, rfl, HA, HK1, ⟨m1, rfl⟩⟩ := hrel
      cases gk with
      | zero => exact absurd HA.out (by simp [gradineref01_Div.l0])
      | succ k1 =>
        have H := HA.out
        clear HA
        simp only [gradineref01_Div.l0] at H
        by_cases c5 : x11_1 ≥ 0
        · rw [if_pos c5] at H
          have c5b0 : decide (0 ≤ x11_1) = true := decide_eq_true c5
          clear c5
          obtain ⟨ji6, hji6⟩ : ∃ j_ : Int, (IntKind.u64.wrap (x11_1)) = j_ := ⟨_, rfl⟩
          replace H : (if 0 ≤ (ji6) then (if (x10_1 / 9223372036854775808) = 1 then (gradineref01_Div.l0 k1 a1 a2 (Go.bits .or .u64 (IntKind.u64.wrap (x9_1 * 2)) 1) (IntKind.u64.wrap ((Go.bits .or .u64 (IntKind.u64.wrap (x10_1 * 2)) (Go.bits .and .u64 (shr .u64 a1 (ji6)) 1)) - a2)) (wrap64 (x11_1 - 1))) else (if (Go.bits .or .u64 (IntKind.u64.wrap (x10_1 * 2)) (Go.bits .and .u64 (shr .u64 a1 (ji6)) 1)) ≥ a2 then (gradineref01_Div.l0 k1 a1 a2 (Go.bits .or .u64 (IntKind.u64.wrap (x9_1 * 2)) 1) (IntKind.u64.wrap ((Go.bits .or .u64 (IntKind.u64.wrap (x10_1 * 2)) (Go.bits .and .u64 (shr .u64 a1 (ji6)) 1)) - a2)) (wrap64 (x11_1 - 1))) else (gradineref01_Div.l0 k1 a1 a2 (IntKind.u64.wrap (x9_1 * 2)) (Go.bits .or .u64 (IntKind.u64.wrap (x10_1 * 2)) (Go.bits .and .u64 (shr .u64 a1 (ji6)) 1)) (wrap64 (x11_1 - 1))))) else (none)) = some (r1, r2, r3) := by first | (rw [hji6] at H; exact H) | (simp only [hji6] at H ⊢; exact H)
          by_cases c7 : 0 ≤ (ji6)
          · rw [if_pos c7] at H
            have c7b0 := eq_true c7
            have c7b1 : decide (0 ≤ (ji6)) = true := decide_eq_true c7
            clear c7
            obtain ⟨ji8, hji8⟩ : ∃ j_ : Int, (shr .u64 a1 (ji6)) = j_ := ⟨_, rfl⟩
            replace H : (if (x10_1 / 9223372036854775808) = 1 then (gradineref01_Div.l0 k1 a1 a2 (Go.bits .or .u64 (IntKind.u64.wrap (x9_1 * 2)) 1) (IntKind.u64.wrap ((Go.bits .or .u64 (IntKind.u64.wrap (x10_1 * 2)) (Go.bits .and .u64 (ji8) 1)) - a2)) (wrap64 (x11_1 - 1))) else (if (Go.bits .or .u64 (IntKind.u64.wrap (x10_1 * 2)) (Go.bits .and .u64 (ji8) 1)) ≥ a2 then (gradineref01_Div.l0 k1 a1 a2 (Go.bits .or .u64 (IntKind.u64.wrap (x9_1 * 2)) 1) (IntKind.u64.wrap ((Go.bits .or .u64 (IntKind.u64.wrap (x10_1 * 2)) (Go.bits .and .u64 (ji8) 1)) - a2)) (wrap64 (x11_1 - 1))) else (gradineref01_Div.l0 k1 a1 a2 (IntKind.u64.wrap (x9_1 * 2)) (Go.bits .or .u64 (IntKind.u64.wrap (x10_1 * 2)) (Go.bits .and .u64 (ji8) 1)) (wrap64 (x11_1 - 1))))) = some (r1, r2, r3) := by first | (rw [hji8] at H; exact H) | (simp only [hji8] at H ⊢; exact H)
            have hji8_ : (a1 / 2 ^ min (ji6).toNat 64) = ji8 := hji8
            have hji8z : (ji6) ≤ 64 → (a1 / 2 ^ (ji6).toNat) = ji8 := shr_small hji8
            by_cases c9 : (x10_1 / 9223372036854775808) = 1
            · rw [if_pos c9] at H
              have c9b0 : ((x10_1 / 9223372036854775808) == 1) = true := beq_iff_eq.mpr c9
              have c9b1 : ((x10_1 / 9223372036854775808) != 1) = false := bne_eq_false_iff_eq.mpr c9
              clear c9
              have H' := Aside0.mk H
              clear H
              go_wp2
              go_roundg k1
              case measure => have := HK1.out; omega
              case rel => exact ⟨(Go.bits .or .u64 (IntKind.u64.wrap (x9_1 * 2)) 1), (IntKind.u64.wrap ((Go.bits .or .u64 (IntKind.u64.wrap (x10_1 * 2)) (Go.bits .and .u64 (ji8) 1)) - a2)), (wrap64 (x11_1 - 1)), (by first | rfl | (simp; done) | (simp [*]; done)), (by first | rfl | (simp; done) | (simp only [← hji8] <;> (first | rfl | simp)) | (simp [*]; done)), (by first | rfl | (simp; done) | (simp [*]; done)), H', ⟨by have := HK1.out; omega⟩, by repeat (first | exact Drawn0.refl _ | apply Drawn0.step)⟩
            · rw [if_neg c9] at H
              have c9b0 : ((x10_1 / 9223372036854775808) == 1) = false := beq_eq_false_iff_ne.mpr c9
              have c9b1 : ((x10_1 / 9223372036854775808) != 1) = true := bne_iff_ne.mpr c9
              by_cases c10 : (Go.bits .or .u64 (IntKind.u64.wrap (x10_1 * 2)) (Go.bits .and .u64 (ji8) 1)) ≥ a2
              · rw [if_pos c10] at H
                have c10b0 : decide (a2 ≤ (Go.bits .or .u64 (IntKind.u64.wrap (x10_1 * 2)) (Go.bits .and .u64 (ji8) 1))) = true := decide_eq_true c10
                clear c10
                have H' := Aside0.mk H
                clear H
                go_wp2
                go_roundg k1
                case measure => have := HK1.out; omega
                case rel => exact ⟨(Go.bits .or .u64 (IntKind.u64.wrap (x9_1 * 2)) 1), (IntKind.u64.wrap ((Go.bits .or .u64 (IntKind.u64.wrap (x10_1 * 2)) (Go.bits .and .u64 (ji8) 1)) - a2)), (wrap64 (x11_1 - 1)), (by first | rfl | (simp; done) | (simp [*]; done)), (by first | rfl | (simp; done) | (simp only [← hji8] <;> (first | rfl | simp)) | (simp [*]; done)), (by first | rfl | (simp; done) | (simp [*]; done)), H', ⟨by have := HK1.out; omega⟩, by repeat (first | exact Drawn0.refl _ | apply Drawn0.step)⟩
              · rw [if_neg c10] at H
                have c10b0 : decide (a2 ≤ (Go.bits .or .u64 (IntKind.u64.wrap (x10_1 * 2)) (Go.bits .and .u64 (ji8) 1))) = false := decide_eq_false c10
                clear c10
                have H' := Aside0.mk H
                clear H
                go_wp2
                go_roundg k1
                case measure => have := HK1.out; omega
                case rel => exact ⟨(IntKind.u64.wrap (x9_1 * 2)), (Go.bits .or .u64 (IntKind.u64.wrap (x10_1 * 2)) (Go.bits .and .u64 (ji8) 1)), (wrap64 (x11_1 - 1)), (by first | rfl | (simp; done) | (simp [*]; done)), (by first | rfl | (simp; done) | (simp only [← hji8] <;> (first | rfl | simp)) | (simp [*]; done)), (by first | rfl | (simp; done) | (simp [*]; done)), H', ⟨by have := HK1.out; omega⟩, by repeat (first | exact Drawn0.refl _ | apply Drawn0.step)⟩
          · rw [if_neg c7] at H
            exact absurd H (by simp)
        · rw [if_neg c5] at H
          have c5b0 : decide (0 ≤ x11_1) = false := decide_eq_false c5
          clear c5
          simp only [Option.some.injEq, Prod.mk.injEq] at H
          obtain ⟨rfl, rfl, rfl⟩ := H
          go_wp2
          go_ret3
          exact ⟨by first | rfl | (simp; done) | (simp [*]; done), by repeat (first | exact Drawn0.refl _ | apply Drawn0.step)⟩

/-! ### gradineref01_Len: function 38 -/
def gradineref01_Len.l0 : Nat → Int → Int → Option (Int)
  | 0, _, _ => none
  | k + 1, x0, x3 => if x0 > 0 then (gradineref01_Len.l0 k (x0 / 2) (wrap64 (x3 + 1))) else (some x3)
def gradineref01_Len.f (k : Nat) (a0 : Int) : Option (Int) := gradineref01_Len.l0 k a0 0
set_option maxHeartbeats 8000000 in
set_option maxRecDepth 100000 in
theorem gradineref01_Len.calls (k : Nat) (a0 : Int) (r : Int) (w : World) (h : gradineref01_Len.f k a0 = some r) :
    Calls Try.prog 38 #[.int .u64 a0] w fun e w' => e = .returned (.int .i64 r) ∧ Drawn0 w w' := by
  have H : (gradineref01_Len.l0 k a0 0) = some r := h
  clear h
  have H' := Aside0.mk H
  clear H
  go_enter Try.func38, Try.ntmps38
  go_wp2
  go_loopg [0, 3] k (fun kq v0 v3 w' => ∃ (x0_1 : Int) (x3_1 : Int), v0 = .int .u64 x0_1 ∧ v3 = .int .i64 x3_1 ∧ Aside0 (gradineref01_Len.l0 kq x0_1 x3_1 = some r) ∧ Aside0 (kq ≤ k) ∧ Drawn0 w w')
  case atStart => exact ⟨(a0), (0), (by first | rfl | (simp; done) | (simp [*]; done)), (by first | rfl | (simp; done) | (simp [*]; done)), H', ⟨Nat.le_refl _⟩, by repeat (first | exact Drawn0.refl _ | apply Drawn0.step)⟩
  case round =>
    clear H'
    obtain ⟨x0_1, x3_1, rfl, rfl, HA, HK1, ⟨m1, rfl⟩⟩ := hrel
    cases gk with
    | zero => exact absurd HA.out (by simp [gradineref01_Len.l0])
    | succ k1 =>
      have H := HA.out
      clear HA
      simp only [gradineref01_Len.l0] at H
      by_cases c2 : x0_1 > 0
      · rw [if_pos c2] at H
        have c2b0 : decide (0 < x0_1) = true := decide_eq_true c2
        clear c2
        have H' := Aside0.mk H
        clear H
        go_wp2
        go_roundg k1
        case measure => have := HK1.out; omega
        case rel => exact ⟨(x0_1 / 2), (wrap64 (x3_1 + 1)), (by first | rfl | (simp; done) | (simp [*]; done)), (by first | rfl | (simp; done) | (simp [*]; done)), H', ⟨by have := HK1.out; omega⟩, by repeat (first | exact Drawn0.refl _ | apply Drawn0.step)⟩
      · rw [if_neg c2] at H
        have c2b0 : decide (0 < x0_1) = false := decide_eq_false c2
        clear c2
        obtain rfl := Option.some.inj H
        go_wp2
        go_ret
        exact ⟨by first | rfl | (simp; done) | (simp [*]; done), by repeat (first | exact Drawn0.refl _ | apply Drawn0.step)⟩

end Go.Proofs.Ytldcgclbgbhffaa.P
