/- Functions of the seat as Lean functions, and walks: written by a program for this claim. -/
import Derived.Test.YtldcgclbgbhffaaFbase
namespace Go.Proofs.Ytldcgclbgbhffaa.P
open Go.RowKit Go.Proofs.YtldcgclbgbhffaaW.PrintWords Go.Proofs.YtldcgclbgbhffaaW.PrintLast Go.Proofs.YtldcgclbgbhffaaW.PrintMore
attribute [local go_sem] max2_int min2_int max_two min_two max_three min_three max_four min_four   -- for this text's walks alone
set_option linter.unusedVariables false
set_option linter.unusedSimpArgs false

/-! ### limb_digit: function 139 -/
mutual
def limb_digit.l0 : Nat → Int → Int → Int → Int → Int → Int → Int → Option (Int × Int)
  | 0, _, _, _, _, _, _, _ => none
  | k + 1, x0, x1, x2, x8, x9, x10, x11 => if x10 > 4294967295 then (limb_digit.j1 k x0 x1 x2 x8 x9 x10 x11 true) else (limb_digit.j1 k x0 x1 x2 x8 x9 x10 x11 (decide ((IntKind.u64.wrap (x10 * x8)) > (Go.bits .or .u64 (IntKind.u64.wrap (x11 * 4294967296)) x1))))
def limb_digit.j1 : Nat → Int → Int → Int → Int → Int → Int → Int → Bool → Option (Int × Int)
  | 0, _, _, _, _, _, _, _, _ => none
  | k + 1, x0, x1, x2, x8, x9, x10, x11, x33 => if x33 = true then (if (IntKind.u64.wrap (x11 + x9)) > 4294967295 then (some (IntKind.u64.wrap (x10 - 1), IntKind.u64.wrap ((IntKind.u64.wrap ((IntKind.u64.wrap (x0 * 4294967296)) + x1)) - (IntKind.u64.wrap ((IntKind.u64.wrap (x10 - 1)) * x2))))) else (limb_digit.l0 k x0 x1 x2 x8 x9 (IntKind.u64.wrap (x10 - 1)) (IntKind.u64.wrap (x11 + x9)))) else (some (x10, IntKind.u64.wrap ((IntKind.u64.wrap ((IntKind.u64.wrap (x0 * 4294967296)) + x1)) - (IntKind.u64.wrap (x10 * x2)))))
end
def limb_digit.f (k : Nat) (a0 : Int) (a1 : Int) (a2 : Int) : Option (Int × Int) := if (a2 / 4294967296) = 0 then (none) else (limb_digit.l0 k a0 a1 a2 (Go.bits .and .u64 a2 4294967295) (a2 / 4294967296) (IntKind.u64.wrap (Int.tdiv a0 (a2 / 4294967296))) (Int.tmod a0 (a2 / 4294967296)))
set_option maxHeartbeats 8000000 in
set_option maxRecDepth 100000 in
theorem limb_digit.calls (k : Nat) (a0 : Int) (a1 : Int) (a2 : Int) (r1 : Int) (r2 : Int) (w : World) (h : limb_digit.f k a0 a1 a2 = some (r1, r2)) :
    Calls Try.prog 139 #[.int .u64 a0, .int .u64 a1, .int .u64 a2] w fun e w' => e = .returned (.tuple #[.int .u64 r1, .int .u64 r2]) ∧ Drawn0 w w' := by
  have H : (if (a2 / 4294967296) = 0 then (none) else (limb_digit.l0 k a0 a1 a2 (Go.bits .and .u64 a2 4294967295) (a2 / 4294967296) (IntKind.u64.wrap (Int.tdiv a0 (a2 / 4294967296))) (Int.tmod a0 (a2 / 4294967296)))) = some (r1, r2) := h
  clear h
  by_cases c4 : (a2 / 4294967296) = 0
  · rw [if_pos c4] at H
    exact absurd H (by simp)
  · rw [if_neg c4] at H
    have c4b0 : ((a2 / 4294967296) == 0) = false := beq_eq_false_iff_ne.mpr c4
    have c4b1 : ((a2 / 4294967296) != 0) = true := bne_iff_ne.mpr c4
    have H' := Aside0.mk H
    clear H
    go_enter Try.func139, Try.ntmps139
    go_wp2
    go_loopg [10, 11] k (fun kq v10 v11 w' => ∃ (x10_1 : Int) (x11_1 : Int), v10 = .int .u64 x10_1 ∧ v11 = .int .u64 x11_1 ∧ Aside0 (limb_digit.l0 kq a0 a1 a2 (Go.bits .and .u64 a2 4294967295) (a2 / 4294967296) x10_1 x11_1 = some (r1, r2)) ∧ Aside0 (kq ≤ k) ∧ Drawn0 w w')
    case atStart => exact ⟨(IntKind.u64.wrap (Int.tdiv a0 (a2 / 4294967296))), (Int.tmod a0 (a2 / 4294967296)), (by first | rfl | (simp; done) | (simp [*]; done)), (by first | rfl | (simp; done) | (simp [*]; done)), H', ⟨Nat.le_refl _⟩, by repeat (first | exact Drawn0.refl _ | apply Drawn0.step)⟩
    case round =>
      clear H'
      try clear c1
      try clear p2
      try clear c4
      try clear c4b0
      try clear c4b1
      obtain ⟨x10_1, x11_1, rfl, rfl, HA, HK1, ⟨m1, rfl⟩⟩ := hrel
      cases gk with
      | zero => exact absurd HA.out (by simp [limb_digit.l0])
      | succ k1 =>
        have H := HA.out
        clear HA
        simp only [limb_digit.l0] at H
        have HC5 := Aside0.mk H
        clear H
        go_upto_region 4 with (fail)
        go_cut [33] (fun v33 wc => ∃ (kq : Nat) (x33_4 : Bool), v33 = .bool x33_4 ∧ Aside0 (limb_digit.j1 kq a0 a1 a2 (Go.bits .and .u64 a2 4294967295) (a2 / 4294967296) x10_1 x11_1 x33_4 = some (r1, r2)) ∧ Aside0 (kq ≤ k1) ∧ Drawn0 w wc)
        case first =>
          have H := HC5.out
          clear HC5
          by_cases c6 : x10_1 > 4294967295
          · rw [if_pos c6] at H
            have c6b0 : decide (4294967295 < x10_1) = true := decide_eq_true c6
            clear c6
            (first | rw [c6b0] | (simp only [i64_w, i32_w]; rw [c6b0]) | skip)
            have H' := Aside0.mk H
            clear H
            go_wp2
            go_meet
            case rel => exact ⟨_, (true), (by first | rfl | (simp; done) | (simp [*]; done)), H', ⟨by have := HK1.out; first | omega | exact Nat.le_refl _⟩, by repeat (first | exact Drawn0.refl _ | apply Drawn0.step)⟩
          · rw [if_neg c6] at H
            have c6b0 : decide (4294967295 < x10_1) = false := decide_eq_false c6
            clear c6
            (first | rw [c6b0] | (simp only [i64_w, i32_w]; rw [c6b0]) | skip)
            have H' := Aside0.mk H
            clear H
            go_wp2
            go_meet
            case rel => exact ⟨_, (decide ((IntKind.u64.wrap (x10_1 * (Go.bits .and .u64 a2 4294967295))) > (Go.bits .or .u64 (IntKind.u64.wrap (x11_1 * 4294967296)) a1))), (by first | rfl | (simp; done) | (simp [*]; done)), H', ⟨by have := HK1.out; first | omega | exact Nat.le_refl _⟩, by repeat (first | exact Drawn0.refl _ | apply Drawn0.step)⟩
        case rest =>
          clear HC5
          try clear c1
          try clear p2
          try clear c4
          try clear c4b0
          try clear c4b1
          try clear c6
          try clear c6b0
          try clear p2
          obtain ⟨kq, x33_4, rfl, HA, HJ4, ⟨mc4, rfl⟩⟩ := hcut
          cases kq with
          | zero => exact absurd HA.out (by simp [limb_digit.j1])
          | succ kj4 =>
            have H := HA.out
            clear HA
            simp only [limb_digit.j1] at H
            by_cases c7 : x33_4 = true
            · subst c7
              have H1 : (if (IntKind.u64.wrap (x11_1 + (a2 / 4294967296))) > 4294967295 then (some (IntKind.u64.wrap (x10_1 - 1), IntKind.u64.wrap ((IntKind.u64.wrap ((IntKind.u64.wrap (a0 * 4294967296)) + a1)) - (IntKind.u64.wrap ((IntKind.u64.wrap (x10_1 - 1)) * a2))))) else (limb_digit.l0 kj4 a0 a1 a2 (Go.bits .and .u64 a2 4294967295) (a2 / 4294967296) (IntKind.u64.wrap (x10_1 - 1)) (IntKind.u64.wrap (x11_1 + (a2 / 4294967296))))) = some (r1, r2) := by rw [if_pos rfl] at H; exact H
              clear H
              have H := H1
              clear H1
              by_cases c8 : (IntKind.u64.wrap (x11_1 + (a2 / 4294967296))) > 4294967295
              · rw [if_pos c8] at H
                have c8b0 : decide (4294967295 < (IntKind.u64.wrap (x11_1 + (a2 / 4294967296)))) = true := decide_eq_true c8
                clear c8
                simp only [Option.some.injEq, Prod.mk.injEq] at H
                obtain ⟨rfl, rfl⟩ := H
                go_wp2
                go_ret2
                exact ⟨by first | rfl | (simp; done) | (simp [*]; done), by repeat (first | exact Drawn0.refl _ | apply Drawn0.step)⟩
              · rw [if_neg c8] at H
                have c8b0 : decide (4294967295 < (IntKind.u64.wrap (x11_1 + (a2 / 4294967296)))) = false := decide_eq_false c8
                clear c8
                have H' := Aside0.mk H
                clear H
                go_wp2
                go_roundg kj4
                case measure => have := HK1.out; have := HJ4.out; omega
                case rel => exact ⟨(IntKind.u64.wrap (x10_1 - 1)), (IntKind.u64.wrap (x11_1 + (a2 / 4294967296))), (by first | rfl | (simp; done) | (simp [*]; done)), (by first | rfl | (simp; done) | (simp [*]; done)), H', ⟨by have := HK1.out; have := HJ4.out; omega⟩, by repeat (first | exact Drawn0.refl _ | apply Drawn0.step)⟩
            · replace c7 := Bool.eq_false_iff.mpr c7
              subst c7
              have H1 : (some (x10_1, IntKind.u64.wrap ((IntKind.u64.wrap ((IntKind.u64.wrap (a0 * 4294967296)) + a1)) - (IntKind.u64.wrap (x10_1 * a2))))) = some (r1, r2) := by rw [if_neg (show ¬ (false = true) by decide)] at H; exact H
              clear H
              have H := H1
              clear H1
              simp only [Option.some.injEq, Prod.mk.injEq] at H
              obtain ⟨rfl, rfl⟩ := H
              go_wp2
              go_ret2
              exact ⟨by first | rfl | (simp; done) | (simp [*]; done), by repeat (first | exact Drawn0.refl _ | apply Drawn0.step)⟩

end Go.Proofs.Ytldcgclbgbhffaa.P
