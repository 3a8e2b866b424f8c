/- Functions of one package as Lean functions, and walks: written by a program for this claim. -/
import Derived.Test.YtldcgclbgbhffaaFbase
namespace Go.Proofs.Ytldcgclbgbhffaa.P
open Go.RowKit Go.Proofs.YtldcgclbgbhffaaW.PrintWords Go.Proofs.YtldcgclbgbhffaaW.PrintLast Go.Proofs.YtldcgclbgbhffaaW.PrintMore
attribute [local go_sem] max2_int min2_int max_two min_two max_three min_three max_four min_four   -- for this text's walks alone
set_option linter.unusedVariables false
set_option linter.unusedSimpArgs false

/-! ### limb_Mul: function 33 -/
def limb_Mul.f (a0 : Int) (a1 : Int) : Option (Int × Int) := some (IntKind.u64.wrap ((IntKind.u64.wrap ((IntKind.u64.wrap ((a0 / 4294967296) * (a1 / 4294967296))) + ((IntKind.u64.wrap ((IntKind.u64.wrap ((Go.bits .and .u64 a0 4294967295) * (a1 / 4294967296))) + ((IntKind.u64.wrap ((Go.bits .and .u64 a0 4294967295) * (Go.bits .and .u64 a1 4294967295))) / 4294967296))) / 4294967296))) + ((IntKind.u64.wrap ((IntKind.u64.wrap ((a0 / 4294967296) * (Go.bits .and .u64 a1 4294967295))) + (Go.bits .and .u64 (IntKind.u64.wrap ((IntKind.u64.wrap ((Go.bits .and .u64 a0 4294967295) * (a1 / 4294967296))) + ((IntKind.u64.wrap ((Go.bits .and .u64 a0 4294967295) * (Go.bits .and .u64 a1 4294967295))) / 4294967296))) 4294967295))) / 4294967296)), Go.bits .or .u64 (IntKind.u64.wrap ((IntKind.u64.wrap ((IntKind.u64.wrap ((a0 / 4294967296) * (Go.bits .and .u64 a1 4294967295))) + (Go.bits .and .u64 (IntKind.u64.wrap ((IntKind.u64.wrap ((Go.bits .and .u64 a0 4294967295) * (a1 / 4294967296))) + ((IntKind.u64.wrap ((Go.bits .and .u64 a0 4294967295) * (Go.bits .and .u64 a1 4294967295))) / 4294967296))) 4294967295))) * 4294967296)) (Go.bits .and .u64 (IntKind.u64.wrap ((Go.bits .and .u64 a0 4294967295) * (Go.bits .and .u64 a1 4294967295))) 4294967295))
set_option maxHeartbeats 8000000 in
set_option maxRecDepth 100000 in
theorem limb_Mul.calls (a0 : Int) (a1 : Int) (r1 : Int) (r2 : Int) (w : World) (h : limb_Mul.f a0 a1 = some (r1, r2)) :
    Calls Try.prog 33 #[.int .u64 a0, .int .u64 a1] w fun e w' => e = .returned (.tuple #[.int .u64 r1, .int .u64 r2]) ∧ Drawn0 w w' := by
  have H : (some (IntKind.u64.wrap ((IntKind.u64.wrap ((IntKind.u64.wrap ((a0 / 4294967296) * (a1 / 4294967296))) + ((IntKind.u64.wrap ((IntKind.u64.wrap ((Go.bits .and .u64 a0 4294967295) * (a1 / 4294967296))) + ((IntKind.u64.wrap ((Go.bits .and .u64 a0 4294967295) * (Go.bits .and .u64 a1 4294967295))) / 4294967296))) / 4294967296))) + ((IntKind.u64.wrap ((IntKind.u64.wrap ((a0 / 4294967296) * (Go.bits .and .u64 a1 4294967295))) + (Go.bits .and .u64 (IntKind.u64.wrap ((IntKind.u64.wrap ((Go.bits .and .u64 a0 4294967295) * (a1 / 4294967296))) + ((IntKind.u64.wrap ((Go.bits .and .u64 a0 4294967295) * (Go.bits .and .u64 a1 4294967295))) / 4294967296))) 4294967295))) / 4294967296)), Go.bits .or .u64 (IntKind.u64.wrap ((IntKind.u64.wrap ((IntKind.u64.wrap ((a0 / 4294967296) * (Go.bits .and .u64 a1 4294967295))) + (Go.bits .and .u64 (IntKind.u64.wrap ((IntKind.u64.wrap ((Go.bits .and .u64 a0 4294967295) * (a1 / 4294967296))) + ((IntKind.u64.wrap ((Go.bits .and .u64 a0 4294967295) * (Go.bits .and .u64 a1 4294967295))) / 4294967296))) 4294967295))) * 4294967296)) (Go.bits .and .u64 (IntKind.u64.wrap ((Go.bits .and .u64 a0 4294967295) * (Go.bits .and .u64 a1 4294967295))) 4294967295))) = some (r1, r2) := h
  clear h
  simp only [Option.some.injEq, Prod.mk.injEq] at H
  obtain ⟨rfl, rfl⟩ := H
  go_enter Try.func33, Try.ntmps33
  go_wp2
  go_ret2
  exact ⟨by first | rfl | (simp; done) | (simp [*]; done), by repeat (first | exact Drawn0.refl _ | apply Drawn0.step)⟩

/-! ### limb_Add: function 40 -/
def limb_Add.f (a0 : Int) (a1 : Int) (a2 : Int) : Option (Int × Int) := if (IntKind.u64.wrap (a0 + a1)) < a0 then (if (IntKind.u64.wrap ((IntKind.u64.wrap (a0 + a1)) + a2)) < (IntKind.u64.wrap (a0 + a1)) then (some (IntKind.u64.wrap ((IntKind.u64.wrap (a0 + a1)) + a2), (0 + 1) + 1)) else (some (IntKind.u64.wrap ((IntKind.u64.wrap (a0 + a1)) + a2), 0 + 1))) else (if (IntKind.u64.wrap ((IntKind.u64.wrap (a0 + a1)) + a2)) < (IntKind.u64.wrap (a0 + a1)) then (some (IntKind.u64.wrap ((IntKind.u64.wrap (a0 + a1)) + a2), 0 + 1)) else (some (IntKind.u64.wrap ((IntKind.u64.wrap (a0 + a1)) + a2), 0)))
set_option maxHeartbeats 8000000 in
set_option maxRecDepth 100000 in
theorem limb_Add.calls (a0 : Int) (a1 : Int) (a2 : Int) (r1 : Int) (r2 : Int) (w : World) (h : limb_Add.f a0 a1 a2 = some (r1, r2)) :
    Calls Try.prog 40 #[.int .u64 a0, .int .u64 a1, .int .u64 a2] w fun e w' => e = .returned (.tuple #[.int .u64 r1, .int .u64 r2]) ∧ Drawn0 w w' := by
  have H : (if (IntKind.u64.wrap (a0 + a1)) < a0 then (if (IntKind.u64.wrap ((IntKind.u64.wrap (a0 + a1)) + a2)) < (IntKind.u64.wrap (a0 + a1)) then (some (IntKind.u64.wrap ((IntKind.u64.wrap (a0 + a1)) + a2), (0 + 1) + 1)) else (some (IntKind.u64.wrap ((IntKind.u64.wrap (a0 + a1)) + a2), 0 + 1))) else (if (IntKind.u64.wrap ((IntKind.u64.wrap (a0 + a1)) + a2)) < (IntKind.u64.wrap (a0 + a1)) then (some (IntKind.u64.wrap ((IntKind.u64.wrap (a0 + a1)) + a2), 0 + 1)) else (some (IntKind.u64.wrap ((IntKind.u64.wrap (a0 + a1)) + a2), 0)))) = some (r1, r2) := h
  clear h
  by_cases c4 : (IntKind.u64.wrap (a0 + a1)) < a0
  · rw [if_pos c4] at H
    have c4b0 : decide ((IntKind.u64.wrap (a0 + a1)) < a0) = true := decide_eq_true c4
    clear c4
    by_cases c5 : (IntKind.u64.wrap ((IntKind.u64.wrap (a0 + a1)) + a2)) < (IntKind.u64.wrap (a0 + a1))
    · rw [if_pos c5] at H
      have c5b0 : decide ((IntKind.u64.wrap ((IntKind.u64.wrap (a0 + a1)) + a2)) < (IntKind.u64.wrap (a0 + a1))) = true := decide_eq_true c5
      clear c5
      simp only [Option.some.injEq, Prod.mk.injEq] at H
      obtain ⟨rfl, rfl⟩ := H
      go_enter Try.func40, Try.ntmps40
      go_wp2
      go_ret2
      exact ⟨by first | rfl | (simp; done) | (simp [*]; done), by repeat (first | exact Drawn0.refl _ | apply Drawn0.step)⟩
    · rw [if_neg c5] at H
      have c5b0 : decide ((IntKind.u64.wrap ((IntKind.u64.wrap (a0 + a1)) + a2)) < (IntKind.u64.wrap (a0 + a1))) = false := decide_eq_false c5
      clear c5
      simp only [Option.some.injEq, Prod.mk.injEq] at H
      obtain ⟨rfl, rfl⟩ := H
      go_enter Try.func40, Try.ntmps40
      go_wp2
      go_ret2
      exact ⟨by first | rfl | (simp; done) | (simp [*]; done), by repeat (first | exact Drawn0.refl _ | apply Drawn0.step)⟩
  · rw [if_neg c4] at H
    have c4b0 : decide ((IntKind.u64.wrap (a0 + a1)) < a0) = false := decide_eq_false c4
    clear c4
    by_cases c6 : (IntKind.u64.wrap ((IntKind.u64.wrap (a0 + a1)) + a2)) < (IntKind.u64.wrap (a0 + a1))
    · rw [if_pos c6] at H
      have c6b0 : decide ((IntKind.u64.wrap ((IntKind.u64.wrap (a0 + a1)) + a2)) < (IntKind.u64.wrap (a0 + a1))) = true := decide_eq_true c6
      clear c6
      simp only [Option.some.injEq, Prod.mk.injEq] at H
      obtain ⟨rfl, rfl⟩ := H
      go_enter Try.func40, Try.ntmps40
      go_wp2
      go_ret2
      exact ⟨by first | rfl | (simp; done) | (simp [*]; done), by repeat (first | exact Drawn0.refl _ | apply Drawn0.step)⟩
    · rw [if_neg c6] at H
      have c6b0 : decide ((IntKind.u64.wrap ((IntKind.u64.wrap (a0 + a1)) + a2)) < (IntKind.u64.wrap (a0 + a1))) = false := decide_eq_false c6
      clear c6
      simp only [Option.some.injEq, Prod.mk.injEq] at H
      obtain ⟨rfl, rfl⟩ := H
      go_enter Try.func40, Try.ntmps40
      go_wp2
      go_ret2
      exact ⟨by first | rfl | (simp; done) | (simp [*]; done), by repeat (first | exact Drawn0.refl _ | apply Drawn0.step)⟩

/-! ### limb_Len: function 37 -/
def limb_Len.l0 : Nat → Int → Int → Int → Option (Int)
  | 0, _, _, _ => none
  | k + 1, x0, x3, x4 => if x4 > 0 then (if 0 ≤ x4 then (if (shr .u64 x0 x4) > 0 then (limb_Len.l0 k (shr .u64 x0 x4) (wrap64 (x3 + x4)) (x4 / 2)) else (limb_Len.l0 k x0 x3 (x4 / 2))) else (none)) else (some (wrap64 (x3 + (wrap64 (x0)))))
def limb_Len.f (k : Nat) (a0 : Int) : Option (Int) := limb_Len.l0 k a0 0 32
set_option maxHeartbeats 8000000 in
set_option maxRecDepth 100000 in
theorem limb_Len.calls (k : Nat) (a0 : Int) (r : Int) (w : World) (h : limb_Len.f k a0 = some r) :
    Calls Try.prog 37 #[.int .u64 a0] w fun e w' => e = .returned (.int .i64 r) ∧ Drawn0 w w' := by
  have H : (limb_Len.l0 k a0 0 32) = some r := h
  clear h
  have H' := Aside0.mk H
  clear H
  go_enter Try.func37, Try.ntmps37
  go_wp2
  go_loopg [0, 3, 4] k (fun kq v0 v3 v4 w' => ∃ (x0_1 : Int) (x3_1 : Int) (x4_1 : Int), v0 = .int .u64 x0_1 ∧ v3 = .int .i64 x3_1 ∧ v4 = .int .i64 x4_1 ∧ Aside0 (limb_Len.l0 kq x0_1 x3_1 x4_1 = some r) ∧ Aside0 (kq ≤ k) ∧ Drawn0 w w')
  case atStart => exact ⟨(a0), (0), (32), (by first | rfl | (simp; done) | (simp [*]; done)), (by first | rfl | (simp; done) | (simp [*]; done)), (by first | rfl | (simp; done) | (simp [*]; done)), H', ⟨Nat.le_refl _⟩, by repeat (first | exact Drawn0.refl _ | apply Drawn0.step)⟩
  case round =>
    clear H'
    obtain ⟨x0_1, x3_1, x4_1, rfl, rfl, rfl, HA, HK1, ⟨m1, rfl⟩⟩ := hrel
    cases gk with
    | zero => exact absurd HA.out (by simp [limb_Len.l0])
    | succ k1 =>
      have H := HA.out
      clear HA
      simp only [limb_Len.l0] at H
      by_cases c2 : x4_1 > 0
      · rw [if_pos c2] at H
        have c2b0 : decide (0 < x4_1) = true := decide_eq_true c2
        clear c2
        by_cases c3 : 0 ≤ x4_1
        · rw [if_pos c3] at H
          have c3b0 := eq_true c3
          have c3b1 : decide (0 ≤ x4_1) = true := decide_eq_true c3
          clear c3
          obtain ⟨ji4, hji4⟩ : ∃ j_ : Int, (shr .u64 x0_1 x4_1) = j_ := ⟨_, rfl⟩
          replace H : (if (ji4) > 0 then (limb_Len.l0 k1 ji4 (wrap64 (x3_1 + x4_1)) (x4_1 / 2)) else (limb_Len.l0 k1 x0_1 x3_1 (x4_1 / 2))) = some r := by first | (rw [hji4] at H; exact H) | (simp only [hji4] at H ⊢; exact H)
          have hji4_ : (x0_1 / 2 ^ min x4_1.toNat 64) = ji4 := hji4
          have hji4z : x4_1 ≤ 64 → (x0_1 / 2 ^ x4_1.toNat) = ji4 := shr_small hji4
          by_cases c5 : (ji4) > 0
          · rw [if_pos c5] at H
            have c5b0 : decide (0 < (ji4)) = true := decide_eq_true c5
            clear c5
            have c6b0 := eq_true (of_decide_eq_true (by first | (with_reducible assumption) | assumption) : 0 ≤ x4_1)
            have H' := Aside0.mk H
            clear H
            go_wp2
            go_roundg k1
            case measure => have := HK1.out; omega
            case rel => exact ⟨(ji4), (wrap64 (x3_1 + x4_1)), (x4_1 / 2), (by first | rfl | (simp; done) | (simp only [← hji4] <;> (first | rfl | simp)) | (simp [*]; done)), (by first | rfl | (simp; done) | (simp [*]; done)), (by first | rfl | (simp; done) | (simp [*]; done)), H', ⟨by have := HK1.out; omega⟩, by repeat (first | exact Drawn0.refl _ | apply Drawn0.step)⟩
          · rw [if_neg c5] at H
            have c5b0 : decide (0 < (ji4)) = false := decide_eq_false c5
            clear c5
            have H' := Aside0.mk H
            clear H
            go_wp2
            go_roundg k1
            case measure => have := HK1.out; omega
            case rel => exact ⟨(x0_1), (x3_1), (x4_1 / 2), (by first | rfl | (simp; done) | (simp [*]; done)), (by first | rfl | (simp; done) | (simp [*]; done)), (by first | rfl | (simp; done) | (simp [*]; done)), H', ⟨by have := HK1.out; omega⟩, by repeat (first | exact Drawn0.refl _ | apply Drawn0.step)⟩
        · rw [if_neg c3] at H
          exact absurd H (by simp)
      · rw [if_neg c2] at H
        have c2b0 : decide (0 < x4_1) = false := decide_eq_false c2
        clear c2
        obtain rfl := Option.some.inj H
        go_wp2
        go_ret
        exact ⟨by first | rfl | (simp; done) | (simp [*]; done), by repeat (first | exact Drawn0.refl _ | apply Drawn0.step)⟩

/-! ### limb_digit: function 139 -/
mutual
def limb_digit.l0 : Nat → Int → Int → Int → Int → Int → Int → Int → Option (Int × Int)
  | 0, _, _, _, _, _, _, _ => none
  | k + 1, x0, x1, x2, x8, x9, x10, x11 => if x10 > 4294967295 then (limb_digit.j1 k x0 x1 x2 x8 x9 x10 x11 true) else (limb_digit.j1 k x0 x1 x2 x8 x9 x10 x11 (decide ((IntKind.u64.wrap (x10 * x8)) > (Go.bits .or .u64 (IntKind.u64.wrap (x11 * 4294967296)) x1))))
def limb_digit.j1 : Nat → Int → Int → Int → Int → Int → Int → Int → Bool → Option (Int × Int)
  | 0, _, _, _, _, _, _, _, _ => none
  | k + 1, x0, x1, x2, x8, x9, x10, x11, x33 => if x33 = true then (if (IntKind.u64.wrap (x11 + x9)) > 4294967295 then (some (IntKind.u64.wrap (x10 - 1), IntKind.u64.wrap ((IntKind.u64.wrap ((IntKind.u64.wrap (x0 * 4294967296)) + x1)) - (IntKind.u64.wrap ((IntKind.u64.wrap (x10 - 1)) * x2))))) else (limb_digit.l0 k x0 x1 x2 x8 x9 (IntKind.u64.wrap (x10 - 1)) (IntKind.u64.wrap (x11 + x9)))) else (some (x10, IntKind.u64.wrap ((IntKind.u64.wrap ((IntKind.u64.wrap (x0 * 4294967296)) + x1)) - (IntKind.u64.wrap (x10 * x2)))))
end
def limb_digit.f (k : Nat) (a0 : Int) (a1 : Int) (a2 : Int) : Option (Int × Int) := if (a2 / 4294967296) = 0 then (none) else (limb_digit.l0 k a0 a1 a2 (Go.bits .and .u64 a2 4294967295) (a2 / 4294967296) (IntKind.u64.wrap (Int.tdiv a0 (a2 / 4294967296))) (Int.tmod a0 (a2 / 4294967296)))
set_option maxHeartbeats 8000000 in
set_option maxRecDepth 100000 in
theorem limb_digit.calls (k : Nat) (a0 : Int) (a1 : Int) (a2 : Int) (r1 : Int) (r2 : Int) (w : World) (h : limb_digit.f k a0 a1 a2 = some (r1, r2)) :
    Calls Try.prog 139 #[.int .u64 a0, .int .u64 a1, .int .u64 a2] w fun e w' => e = .returned (.tuple #[.int .u64 r1, .int .u64 r2]) ∧ Drawn0 w w' := by
  have H : (if (a2 / 4294967296) = 0 then (none) else (limb_digit.l0 k a0 a1 a2 (Go.bits .and .u64 a2 4294967295) (a2 / 4294967296) (IntKind.u64.wrap (Int.tdiv a0 (a2 / 4294967296))) (Int.tmod a0 (a2 / 4294967296)))) = some (r1, r2) := h
  clear h
  by_cases c4 : (a2 / 4294967296) = 0
  · rw [if_pos c4] at H
    exact absurd H (by simp)
  · rw [if_neg c4] at H
    have c4b0 : ((a2 / 4294967296) == 0) = false := beq_eq_false_iff_ne.mpr c4
    have c4b1 : ((a2 / 4294967296) != 0) = true := bne_iff_ne.mpr c4
    have H' := Aside0.mk H
    clear H
    go_enter Try.func139, Try.ntmps139
    go_wp2
    go_loopg [10, 11] k (fun kq v10 v11 w' => ∃ (x10_1 : Int) (x11_1 : Int), v10 = .int .u64 x10_1 ∧ v11 = .int .u64 x11_1 ∧ Aside0 (limb_digit.l0 kq a0 a1 a2 (Go.bits .and .u64 a2 4294967295) (a2 / 4294967296) x10_1 x11_1 = some (r1, r2)) ∧ Aside0 (kq ≤ k) ∧ Drawn0 w w')
    case atStart => exact ⟨(IntKind.u64.wrap (Int.tdiv a0 (a2 / 4294967296))), (Int.tmod a0 (a2 / 4294967296)), (by first | rfl | (simp; done) | (simp [*]; done)), (by first | rfl | (simp; done) | (simp [*]; done)), H', ⟨Nat.le_refl _⟩, by repeat (first | exact Drawn0.refl _ | apply Drawn0.step)⟩
    case round =>
      clear H'
      try clear c1
      try clear p2
      try clear c4
      try clear c4b0
      try clear c4b1
      obtain ⟨x10_1, x11_1, rfl, rfl, HA, HK1, ⟨m1, rfl⟩⟩ := hrel
      cases gk with
      | zero => exact absurd HA.out (by simp [limb_digit.l0])
      | succ k1 =>
        have H := HA.out
        clear HA
        simp only [limb_digit.l0] at H
        have HC5 := Aside0.mk H
        clear H
        go_upto_region 4 with (fail)
        go_cut [33] (fun v33 wc => ∃ (kq : Nat) (x33_4 : Bool), v33 = .bool x33_4 ∧ Aside0 (limb_digit.j1 kq a0 a1 a2 (Go.bits .and .u64 a2 4294967295) (a2 / 4294967296) x10_1 x11_1 x33_4 = some (r1, r2)) ∧ Aside0 (kq ≤ k1) ∧ Drawn0 w wc)
        case first =>
          have H := HC5.out
          clear HC5
          by_cases c6 : x10_1 > 4294967295
          · rw [if_pos c6] at H
            have c6b0 : decide (4294967295 < x10_1) = true := decide_eq_true c6
            clear c6
            (first | rw [c6b0] | (simp only [i64_w, i32_w]; rw [c6b0]) | skip)
            have H' := Aside0.mk H
            clear H
            go_wp2
            go_meet
            case rel => exact ⟨_, (true), (by first | rfl | (simp; done) | (simp [*]; done)), H', ⟨by have := HK1.out; first | omega | exact Nat.le_refl _⟩, by repeat (first | exact Drawn0.refl _ | apply Drawn0.step)⟩
          · rw [if_neg c6] at H
            have c6b0 : decide (4294967295 < x10_1) = false := decide_eq_false c6
            clear c6
            (first | rw [c6b0] | (simp only [i64_w, i32_w]; rw [c6b0]) | skip)
            have H' := Aside0.mk H
            clear H
            go_wp2
            go_meet
            case rel => exact ⟨_, (decide ((IntKind.u64.wrap (x10_1 * (Go.bits .and .u64 a2 4294967295))) > (Go.bits .or .u64 (IntKind.u64.wrap (x11_1 * 4294967296)) a1))), (by first | rfl | (simp; done) | (simp [*]; done)), H', ⟨by have := HK1.out; first | omega | exact Nat.le_refl _⟩, by repeat (first | exact Drawn0.refl _ | apply Drawn0.step)⟩
        case rest =>
          clear HC5
          try clear c1
          try clear p2
          try clear c4
          try clear c4b0
          try clear c4b1
          try clear c6
          try clear c6b0
          try clear p2
          obtain ⟨kq, x33_4, rfl, HA, HJ4, ⟨mc4, rfl⟩⟩ := hcut
          cases kq with
          | zero => exact absurd HA.out (by simp [limb_digit.j1])
          | succ kj4 =>
            have H := HA.out
            clear HA
            simp only [limb_digit.j1] at H
            by_cases c7 : x33_4 = true
            · subst c7
              have H1 : (if (IntKind.u64.wrap (x11_1 + (a2 / 4294967296))) > 4294967295 then (some (IntKind.u64.wrap (x10_1 - 1), IntKind.u64.wrap ((IntKind.u64.wrap ((IntKind.u64.wrap (a0 * 4294967296)) + a1)) - (IntKind.u64.wrap ((IntKind.u64.wrap (x10_1 - 1)) * a2))))) else (limb_digit.l0 kj4 a0 a1 a2 (Go.bits .and .u64 a2 4294967295) (a2 / 4294967296) (IntKind.u64.wrap (x10_1 - 1)) (IntKind.u64.wrap (x11_1 + (a2 / 4294967296))))) = some (r1, r2) := by rw [if_pos rfl] at H; exact H
              clear H
              have H := H1
              clear H1
              by_cases c8 : (IntKind.u64.wrap (x11_1 + (a2 / 4294967296))) > 4294967295
              · rw [if_pos c8] at H
                have c8b0 : decide (4294967295 < (IntKind.u64.wrap (x11_1 + (a2 / 4294967296)))) = true := decide_eq_true c8
                clear c8
                simp only [Option.some.injEq, Prod.mk.injEq] at H
                obtain ⟨rfl, rfl⟩ := H
                go_wp2
                go_ret2
                exact ⟨by first | rfl | (simp; done) | (simp [*]; done), by repeat (first | exact Drawn0.refl _ | apply Drawn0.step)⟩
              · rw [if_neg c8] at H
                have c8b0 : decide (4294967295 < (IntKind.u64.wrap (x11_1 + (a2 / 4294967296)))) = false := decide_eq_false c8
                clear c8
                have H' := Aside0.mk H
                clear H
                go_wp2
                go_roundg kj4
                case measure => have := HK1.out; have := HJ4.out; omega
                case rel => exact ⟨(IntKind.u64.wrap (x10_1 - 1)), (IntKind.u64.wrap (x11_1 + (a2 / 4294967296))), (by first | rfl | (simp; done) | (simp [*]; done)), (by first | rfl | (simp; done) | (simp [*]; done)), H', ⟨by have := HK1.out; have := HJ4.out; omega⟩, by repeat (first | exact Drawn0.refl _ | apply Drawn0.step)⟩
            · replace c7 := Bool.eq_false_iff.mpr c7
              subst c7
              have H1 : (some (x10_1, IntKind.u64.wrap ((IntKind.u64.wrap ((IntKind.u64.wrap (a0 * 4294967296)) + a1)) - (IntKind.u64.wrap (x10_1 * a2))))) = some (r1, r2) := by rw [if_neg (show ¬ (false = true) by decide)] at H; exact H
              clear H
              have H := H1
              clear H1
              simp only [Option.some.injEq, Prod.mk.injEq] at H
              obtain ⟨rfl, rfl⟩ := H
              go_wp2
              go_ret2
              exact ⟨by first | rfl | (simp; done) | (simp [*]; done), by repeat (first | exact Drawn0.refl _ | apply Drawn0.step)⟩

/-! ### limb_Div: function 35 -/
def limb_Div.f (k : Nat) (a0 : Int) (a1 : Int) (a2 : Int) : Option (Int × Int × Bool) := if a0 ≥ a2 then (some (0, 0, false)) else ((limb_Len.f k a2).bind fun t104 => (if 0 ≤ (wrap64 (64 - t104)) then (if 0 ≤ (wrap64 (63 - (wrap64 (64 - t104)))) then ((limb_digit.f k (Go.bits .or .u64 (shl .u64 a0 (wrap64 (64 - t104))) (shr .u64 (a1 / 2) (wrap64 (63 - (wrap64 (64 - t104)))))) ((shl .u64 a1 (wrap64 (64 - t104))) / 4294967296) (shl .u64 a2 (wrap64 (64 - t104)))).bind fun bt105 => ((limb_digit.f k bt105.2 (Go.bits .and .u64 (shl .u64 a1 (wrap64 (64 - t104))) 4294967295) (shl .u64 a2 (wrap64 (64 - t104)))).bind fun bt107 => (some (Go.bits .or .u64 (IntKind.u64.wrap (bt105.1 * 4294967296)) bt107.1, shr .u64 bt107.2 (wrap64 (64 - t104)), true)))) else (none)) else (none)))
set_option maxHeartbeats 8000000 in
set_option maxRecDepth 100000 in
theorem limb_Div.calls (k : Nat) (a0 : Int) (a1 : Int) (a2 : Int) (r1 : Int) (r2 : Int) (r3 : Bool) (w : World) (h : limb_Div.f k a0 a1 a2 = some (r1, r2, r3)) :
    Calls Try.prog 35 #[.int .u64 a0, .int .u64 a1, .int .u64 a2] w fun e w' => e = .returned (.tuple #[.int .u64 r1, .int .u64 r2, .bool r3]) ∧ Drawn0 w w' := by
  have H : (if a0 ≥ a2 then (some (0, 0, false)) else ((limb_Len.f k a2).bind fun t104 => (if 0 ≤ (wrap64 (64 - t104)) then (if 0 ≤ (wrap64 (63 - (wrap64 (64 - t104)))) then ((limb_digit.f k (Go.bits .or .u64 (shl .u64 a0 (wrap64 (64 - t104))) (shr .u64 (a1 / 2) (wrap64 (63 - (wrap64 (64 - t104)))))) ((shl .u64 a1 (wrap64 (64 - t104))) / 4294967296) (shl .u64 a2 (wrap64 (64 - t104)))).bind fun bt105 => ((limb_digit.f k bt105.2 (Go.bits .and .u64 (shl .u64 a1 (wrap64 (64 - t104))) 4294967295) (shl .u64 a2 (wrap64 (64 - t104)))).bind fun bt107 => (some (Go.bits .or .u64 (IntKind.u64.wrap (bt105.1 * 4294967296)) bt107.1, shr .u64 bt107.2 (wrap64 (64 - t104)), true)))) else (none)) else (none)))) = some (r1, r2, r3) := h
  clear h
  by_cases c4 : a0 ≥ a2
  · rw [if_pos c4] at H
    have c4b0 : decide (a2 ≤ a0) = true := decide_eq_true c4
    clear c4
    simp only [Option.some.injEq, Prod.mk.injEq] at H
    obtain ⟨rfl, rfl, rfl⟩ := H
    go_enter Try.func35, Try.ntmps35
    go_wp2
    repeat (go_quiet (fail); try go_wp2)
    go_ret3
    exact ⟨by first | rfl | (simp; done) | (simp [*]; done), by repeat (first | exact Drawn0.refl _ | apply Drawn0.step)⟩
  · rw [if_neg c4] at H
    have c4b0 : decide (a2 ≤ a0) = false := decide_eq_false c4
    clear c4
    replace H := Option.bind_eq_some_iff.mp H
    obtain ⟨t104, A50, H⟩ := H
    replace H : (if 0 ≤ (wrap64 (64 - t104)) then (if 0 ≤ (wrap64 (63 - (wrap64 (64 - t104)))) then ((limb_digit.f k (Go.bits .or .u64 (shl .u64 a0 (wrap64 (64 - t104))) (shr .u64 (a1 / 2) (wrap64 (63 - (wrap64 (64 - t104)))))) ((shl .u64 a1 (wrap64 (64 - t104))) / 4294967296) (shl .u64 a2 (wrap64 (64 - t104)))).bind fun bt105 => ((limb_digit.f k bt105.2 (Go.bits .and .u64 (shl .u64 a1 (wrap64 (64 - t104))) 4294967295) (shl .u64 a2 (wrap64 (64 - t104)))).bind fun bt107 => (some (Go.bits .or .u64 (IntKind.u64.wrap (bt105.1 * 4294967296)) bt107.1, shr .u64 bt107.2 (wrap64 (64 - t104)), true)))) else (none)) else (none)) = some (r1, r2, r3) := H
    have A5 := Aside0.mk A50
    clear A50
    obtain ⟨ji6, hji6⟩ : ∃ j_ : Int, (wrap64 (64 - t104)) = j_ := ⟨_, rfl⟩
    replace H : (if 0 ≤ (ji6) then (if 0 ≤ (wrap64 (63 - (ji6))) then ((limb_digit.f k (Go.bits .or .u64 (shl .u64 a0 (ji6)) (shr .u64 (a1 / 2) (wrap64 (63 - (ji6))))) ((shl .u64 a1 (ji6)) / 4294967296) (shl .u64 a2 (ji6))).bind fun bt105 => ((limb_digit.f k bt105.2 (Go.bits .and .u64 (shl .u64 a1 (ji6)) 4294967295) (shl .u64 a2 (ji6))).bind fun bt107 => (some (Go.bits .or .u64 (IntKind.u64.wrap (bt105.1 * 4294967296)) bt107.1, shr .u64 bt107.2 (ji6), true)))) else (none)) else (none)) = some (r1, r2, r3) := by first | (rw [hji6] at H; exact H) | (simp only [hji6] at H ⊢; exact H)
    (try rw [hji6] at A5)
    have hji6w : (IntKind.i64.wrap (64 - t104)) = ji6 := (i64_w _).trans hji6
    by_cases c7 : 0 ≤ (ji6)
    · rw [if_pos c7] at H
      have c7b0 := eq_true c7
      have c7b1 : decide (0 ≤ (ji6)) = true := decide_eq_true c7
      clear c7
      obtain ⟨ji8, hji8⟩ : ∃ j_ : Int, (shl .u64 a2 (ji6)) = j_ := ⟨_, rfl⟩
      replace H : (if 0 ≤ (wrap64 (63 - (ji6))) then ((limb_digit.f k (Go.bits .or .u64 (shl .u64 a0 (ji6)) (shr .u64 (a1 / 2) (wrap64 (63 - (ji6))))) ((shl .u64 a1 (ji6)) / 4294967296) (ji8)).bind fun bt105 => ((limb_digit.f k bt105.2 (Go.bits .and .u64 (shl .u64 a1 (ji6)) 4294967295) (ji8)).bind fun bt107 => (some (Go.bits .or .u64 (IntKind.u64.wrap (bt105.1 * 4294967296)) bt107.1, shr .u64 bt107.2 (ji6), true)))) else (none)) = some (r1, r2, r3) := by first | (rw [hji8] at H; exact H) | (simp only [hji8] at H ⊢; exact H)
      (try rw [hji8] at A5)
      have hji8_ : (IntKind.u64.wrap (a2 * 2 ^ min (ji6).toNat 64)) = ji8 := hji8
      have hji8z : (ji6) ≤ 64 → (IntKind.u64.wrap (a2 * 2 ^ (ji6).toNat)) = ji8 := shl_small hji8
      have c9b0 := eq_true (of_decide_eq_true (by first | (with_reducible assumption) | assumption) : 0 ≤ (ji6))
      obtain ⟨ji10, hji10⟩ : ∃ j_ : Int, (shl .u64 a0 (ji6)) = j_ := ⟨_, rfl⟩
      replace H : (if 0 ≤ (wrap64 (63 - (ji6))) then ((limb_digit.f k (Go.bits .or .u64 (ji10) (shr .u64 (a1 / 2) (wrap64 (63 - (ji6))))) ((shl .u64 a1 (ji6)) / 4294967296) (ji8)).bind fun bt105 => ((limb_digit.f k bt105.2 (Go.bits .and .u64 (shl .u64 a1 (ji6)) 4294967295) (ji8)).bind fun bt107 => (some (Go.bits .or .u64 (IntKind.u64.wrap (bt105.1 * 4294967296)) bt107.1, shr .u64 bt107.2 (ji6), true)))) else (none)) = some (r1, r2, r3) := by first | (rw [hji10] at H; exact H) | (simp only [hji10] at H ⊢; exact H)
      (try rw [hji10] at A5)
      have hji10_ : (IntKind.u64.wrap (a0 * 2 ^ min (ji6).toNat 64)) = ji10 := hji10
      have hji10z : (ji6) ≤ 64 → (IntKind.u64.wrap (a0 * 2 ^ (ji6).toNat)) = ji10 := shl_small hji10
      obtain ⟨ji11, hji11⟩ : ∃ j_ : Int, (wrap64 (63 - (ji6))) = j_ := ⟨_, rfl⟩
      replace H : (if 0 ≤ (ji11) then ((limb_digit.f k (Go.bits .or .u64 (ji10) (shr .u64 (a1 / 2) (ji11))) ((shl .u64 a1 (ji6)) / 4294967296) (ji8)).bind fun bt105 => ((limb_digit.f k bt105.2 (Go.bits .and .u64 (shl .u64 a1 (ji6)) 4294967295) (ji8)).bind fun bt107 => (some (Go.bits .or .u64 (IntKind.u64.wrap (bt105.1 * 4294967296)) bt107.1, shr .u64 bt107.2 (ji6), true)))) else (none)) = some (r1, r2, r3) := by first | (rw [hji11] at H; exact H) | (simp only [hji11] at H ⊢; exact H)
      (try rw [hji11] at A5)
      have hji11w : (IntKind.i64.wrap (63 - (ji6))) = ji11 := (i64_w _).trans hji11
      by_cases c12 : 0 ≤ (ji11)
      · rw [if_pos c12] at H
        have c12b0 := eq_true c12
        have c12b1 : decide (0 ≤ (ji11)) = true := decide_eq_true c12
        clear c12
        obtain ⟨ji13, hji13⟩ : ∃ j_ : Int, (shr .u64 (a1 / 2) (ji11)) = j_ := ⟨_, rfl⟩
        replace H : ((limb_digit.f k (Go.bits .or .u64 (ji10) (ji13)) ((shl .u64 a1 (ji6)) / 4294967296) (ji8)).bind fun bt105 => ((limb_digit.f k bt105.2 (Go.bits .and .u64 (shl .u64 a1 (ji6)) 4294967295) (ji8)).bind fun bt107 => (some (Go.bits .or .u64 (IntKind.u64.wrap (bt105.1 * 4294967296)) bt107.1, shr .u64 bt107.2 (ji6), true)))) = some (r1, r2, r3) := by first | (rw [hji13] at H; exact H) | (simp only [hji13] at H ⊢; exact H)
        (try rw [hji13] at A5)
        have hji13_ : ((a1 / 2) / 2 ^ min (ji11).toNat 64) = ji13 := hji13
        have hji13z : (ji11) ≤ 64 → ((a1 / 2) / 2 ^ (ji11).toNat) = ji13 := shr_small hji13
        have c14b0 := eq_true (of_decide_eq_true (by first | (with_reducible assumption) | assumption) : 0 ≤ (ji6))
        obtain ⟨ji15, hji15⟩ : ∃ j_ : Int, (shl .u64 a1 (ji6)) = j_ := ⟨_, rfl⟩
        replace H : ((limb_digit.f k (Go.bits .or .u64 (ji10) (ji13)) ((ji15) / 4294967296) (ji8)).bind fun bt105 => ((limb_digit.f k bt105.2 (Go.bits .and .u64 (ji15) 4294967295) (ji8)).bind fun bt107 => (some (Go.bits .or .u64 (IntKind.u64.wrap (bt105.1 * 4294967296)) bt107.1, shr .u64 bt107.2 (ji6), true)))) = some (r1, r2, r3) := by first | (rw [hji15] at H; exact H) | (simp only [hji15] at H ⊢; exact H)
        (try rw [hji15] at A5)
        have hji15_ : (IntKind.u64.wrap (a1 * 2 ^ min (ji6).toNat 64)) = ji15 := hji15
        have hji15z : (ji6) ≤ 64 → (IntKind.u64.wrap (a1 * 2 ^ (ji6).toNat)) = ji15 := shl_small hji15
        replace H := Option.bind_eq_some_iff.mp H
        obtain ⟨⟨t105, t106⟩, A160, H⟩ := H
        replace H : ((limb_digit.f k t106 (Go.bits .and .u64 (ji15) 4294967295) (ji8)).bind fun bt107 => (some (Go.bits .or .u64 (IntKind.u64.wrap (t105 * 4294967296)) bt107.1, shr .u64 bt107.2 (ji6), true))) = some (r1, r2, r3) := H
        have A16 := Aside0.mk A160
        clear A160
        replace H := Option.bind_eq_some_iff.mp H
        obtain ⟨⟨t107, t108⟩, A170, H⟩ := H
        replace H : (some (Go.bits .or .u64 (IntKind.u64.wrap (t105 * 4294967296)) t107, shr .u64 t108 (ji6), true)) = some (r1, r2, r3) := H
        have A17 := Aside0.mk A170
        clear A170
        have c18b0 := eq_true (of_decide_eq_true (by first | (with_reducible assumption) | assumption) : 0 ≤ (ji6))
        obtain ⟨ji19, hji19⟩ : ∃ j_ : Int, (shr .u64 t108 (ji6)) = j_ := ⟨_, rfl⟩
        replace H : (some (Go.bits .or .u64 (IntKind.u64.wrap (t105 * 4294967296)) t107, ji19, true)) = some (r1, r2, r3) := by first | (rw [hji19] at H; exact H) | (simp only [hji19] at H ⊢; exact H)
        (try rw [hji19] at A5)
        (try rw [hji19] at A16)
        (try rw [hji19] at A17)
        have hji19_ : (t108 / 2 ^ min (ji6).toNat 64) = ji19 := hji19
        have hji19z : (ji6) ≤ 64 → (t108 / 2 ^ (ji6).toNat) = ji19 := shr_small hji19
        simp only [Option.some.injEq, Prod.mk.injEq] at H
        obtain ⟨rfl, rfl, rfl⟩ := H
        go_enter Try.func35, Try.ntmps35
        go_wp2_with (first | (go_at_call 37; (with_reducible refine (limb_Len.calls k a2 t104 _ A5.out).mono ?_); rintro e w' ⟨rfl, ⟨nd, rfl⟩⟩; (try first | exact ⟨rfl, _, World.drewN_drewN _ _ _⟩ | exact ⟨rfl, _, Eq.trans (World.drewN_drewN _ _ _) (congrArg (World.drewN _) (Nat.add_assoc _ _ _))⟩)) | (go_at_call 139; (with_reducible refine (limb_digit.calls k (Go.bits .or .u64 (ji10) (ji13)) ((ji15) / 4294967296) ji8 t105 t106 _ A16.out).mono ?_); rintro e w' ⟨rfl, ⟨nd, rfl⟩⟩; (try first | exact ⟨rfl, _, World.drewN_drewN _ _ _⟩ | exact ⟨rfl, _, Eq.trans (World.drewN_drewN _ _ _) (congrArg (World.drewN _) (Nat.add_assoc _ _ _))⟩)) | (go_at_call 139; (with_reducible refine (limb_digit.calls k t106 (Go.bits .and .u64 (ji15) 4294967295) ji8 t107 t108 _ A17.out).mono ?_); rintro e w' ⟨rfl, ⟨nd, rfl⟩⟩; (try first | exact ⟨rfl, _, World.drewN_drewN _ _ _⟩ | exact ⟨rfl, _, Eq.trans (World.drewN_drewN _ _ _) (congrArg (World.drewN _) (Nat.add_assoc _ _ _))⟩)))
        repeat (go_quiet (first | (go_at_call 37; (with_reducible refine (limb_Len.calls k a2 t104 _ A5.out).mono ?_); rintro e w' ⟨rfl, ⟨nd, rfl⟩⟩; (try first | exact ⟨rfl, _, World.drewN_drewN _ _ _⟩ | exact ⟨rfl, _, Eq.trans (World.drewN_drewN _ _ _) (congrArg (World.drewN _) (Nat.add_assoc _ _ _))⟩)) | (go_at_call 139; (with_reducible refine (limb_digit.calls k (Go.bits .or .u64 (ji10) (ji13)) ((ji15) / 4294967296) ji8 t105 t106 _ A16.out).mono ?_); rintro e w' ⟨rfl, ⟨nd, rfl⟩⟩; (try first | exact ⟨rfl, _, World.drewN_drewN _ _ _⟩ | exact ⟨rfl, _, Eq.trans (World.drewN_drewN _ _ _) (congrArg (World.drewN _) (Nat.add_assoc _ _ _))⟩)) | (go_at_call 139; (with_reducible refine (limb_digit.calls k t106 (Go.bits .and .u64 (ji15) 4294967295) ji8 t107 t108 _ A17.out).mono ?_); rintro e w' ⟨rfl, ⟨nd, rfl⟩⟩; (try first | exact ⟨rfl, _, World.drewN_drewN _ _ _⟩ | exact ⟨rfl, _, Eq.trans (World.drewN_drewN _ _ _) (congrArg (World.drewN _) (Nat.add_assoc _ _ _))⟩))); try go_wp2_with (first | (go_at_call 37; (with_reducible refine (limb_Len.calls k a2 t104 _ A5.out).mono ?_); rintro e w' ⟨rfl, ⟨nd, rfl⟩⟩; (try first | exact ⟨rfl, _, World.drewN_drewN _ _ _⟩ | exact ⟨rfl, _, Eq.trans (World.drewN_drewN _ _ _) (congrArg (World.drewN _) (Nat.add_assoc _ _ _))⟩)) | (go_at_call 139; (with_reducible refine (limb_digit.calls k (Go.bits .or .u64 (ji10) (ji13)) ((ji15) / 4294967296) ji8 t105 t106 _ A16.out).mono ?_); rintro e w' ⟨rfl, ⟨nd, rfl⟩⟩; (try first | exact ⟨rfl, _, World.drewN_drewN _ _ _⟩ | exact ⟨rfl, _, Eq.trans (World.drewN_drewN _ _ _) (congrArg (World.drewN _) (Nat.add_assoc _ _ _))⟩)) | (go_at_call 139; (with_reducible refine (limb_digit.calls k t106 (Go.bits .and .u64 (ji15) 4294967295) ji8 t107 t108 _ A17.out).mono ?_); rintro e w' ⟨rfl, ⟨nd, rfl⟩⟩; (try first | exact ⟨rfl, _, World.drewN_drewN _ _ _⟩ | exact ⟨rfl, _, Eq.trans (World.drewN_drewN _ _ _) (congrArg (World.drewN _) (Nat.add_assoc _ _ _))⟩))))
        go_ret3
        exact ⟨by first | rfl | (simp; done) | (simp only [← hji6, ← hji8, ← hji10, ← hji11, ← hji13, ← hji15, ← hji19] <;> (first | rfl | simp)) | (simp [*]; done), by repeat (first | exact Drawn0.refl _ | apply Drawn0.step)⟩
      · rw [if_neg c12] at H
        exact absurd H (by simp)
    · rw [if_neg c7] at H
      exact absurd H (by simp)

/-! ### limb_Sub: function 42 -/
def limb_Sub.f (a0 : Int) (a1 : Int) (a2 : Int) : Option (Int × Int) := if a0 < a1 then (if (IntKind.u64.wrap (a0 - a1)) < a2 then (some (IntKind.u64.wrap ((IntKind.u64.wrap (a0 - a1)) - a2), (0 + 1) + 1)) else (some (IntKind.u64.wrap ((IntKind.u64.wrap (a0 - a1)) - a2), 0 + 1))) else (if (IntKind.u64.wrap (a0 - a1)) < a2 then (some (IntKind.u64.wrap ((IntKind.u64.wrap (a0 - a1)) - a2), 0 + 1)) else (some (IntKind.u64.wrap ((IntKind.u64.wrap (a0 - a1)) - a2), 0)))
set_option maxHeartbeats 8000000 in
set_option maxRecDepth 100000 in
theorem limb_Sub.calls (a0 : Int) (a1 : Int) (a2 : Int) (r1 : Int) (r2 : Int) (w : World) (h : limb_Sub.f a0 a1 a2 = some (r1, r2)) :
    Calls Try.prog 42 #[.int .u64 a0, .int .u64 a1, .int .u64 a2] w fun e w' => e = .returned (.tuple #[.int .u64 r1, .int .u64 r2]) ∧ Drawn0 w w' := by
  have H : (if a0 < a1 then (if (IntKind.u64.wrap (a0 - a1)) < a2 then (some (IntKind.u64.wrap ((IntKind.u64.wrap (a0 - a1)) - a2), (0 + 1) + 1)) else (some (IntKind.u64.wrap ((IntKind.u64.wrap (a0 - a1)) - a2), 0 + 1))) else (if (IntKind.u64.wrap (a0 - a1)) < a2 then (some (IntKind.u64.wrap ((IntKind.u64.wrap (a0 - a1)) - a2), 0 + 1)) else (some (IntKind.u64.wrap ((IntKind.u64.wrap (a0 - a1)) - a2), 0)))) = some (r1, r2) := h
  clear h
  by_cases c4 : a0 < a1
  · rw [if_pos c4] at H
    have c4b0 : decide (a0 < a1) = true := decide_eq_true c4
    clear c4
    by_cases c5 : (IntKind.u64.wrap (a0 - a1)) < a2
    · rw [if_pos c5] at H
      have c5b0 : decide ((IntKind.u64.wrap (a0 - a1)) < a2) = true := decide_eq_true c5
      clear c5
      simp only [Option.some.injEq, Prod.mk.injEq] at H
      obtain ⟨rfl, rfl⟩ := H
      go_enter Try.func42, Try.ntmps42
      go_wp2
      go_ret2
      exact ⟨by first | rfl | (simp; done) | (simp [*]; done), by repeat (first | exact Drawn0.refl _ | apply Drawn0.step)⟩
    · rw [if_neg c5] at H
      have c5b0 : decide ((IntKind.u64.wrap (a0 - a1)) < a2) = false := decide_eq_false c5
      clear c5
      simp only [Option.some.injEq, Prod.mk.injEq] at H
      obtain ⟨rfl, rfl⟩ := H
      go_enter Try.func42, Try.ntmps42
      go_wp2
      go_ret2
      exact ⟨by first | rfl | (simp; done) | (simp [*]; done), by repeat (first | exact Drawn0.refl _ | apply Drawn0.step)⟩
  · rw [if_neg c4] at H
    have c4b0 : decide (a0 < a1) = false := decide_eq_false c4
    clear c4
    by_cases c6 : (IntKind.u64.wrap (a0 - a1)) < a2
    · rw [if_pos c6] at H
      have c6b0 : decide ((IntKind.u64.wrap (a0 - a1)) < a2) = true := decide_eq_true c6
      clear c6
      simp only [Option.some.injEq, Prod.mk.injEq] at H
      obtain ⟨rfl, rfl⟩ := H
      go_enter Try.func42, Try.ntmps42
      go_wp2
      go_ret2
      exact ⟨by first | rfl | (simp; done) | (simp [*]; done), by repeat (first | exact Drawn0.refl _ | apply Drawn0.step)⟩
    · rw [if_neg c6] at H
      have c6b0 : decide ((IntKind.u64.wrap (a0 - a1)) < a2) = false := decide_eq_false c6
      clear c6
      simp only [Option.some.injEq, Prod.mk.injEq] at H
      obtain ⟨rfl, rfl⟩ := H
      go_enter Try.func42, Try.ntmps42
      go_wp2
      go_ret2
      exact ⟨by first | rfl | (simp; done) | (simp [*]; done), by repeat (first | exact Drawn0.refl _ | apply Drawn0.step)⟩

end Go.Proofs.Ytldcgclbgbhffaa.P
