/- Functions of one package as Lean functions, and walks: written by a program for this claim. -/
import Derived.Test.YtbpggonjcnakgaaFbase
import Derived.Test.YtbpggonjcnakgaaBfbits
import Derived.Test.YtbpggonjcnakgaaBlimb
import Derived.Test.YtbpggonjcnakgaaBfround
namespace Go.Proofs.Ytbpggonjcnakgaa.P
open Go.RowKit Go.Proofs.YtbpggonjcnakgaaW.PrintWords Go.Proofs.YtbpggonjcnakgaaW.PrintLast Go.Proofs.YtbpggonjcnakgaaW.PrintMore
attribute [local go_sem] max2_int min2_int max_two min_two max_three min_three max_four min_four   -- for this text's walks alone
set_option linter.unusedVariables false
set_option linter.unusedSimpArgs false

/-! ### fcmp_known: function 98 -/
def fcmp_known.f (a0 : Int) (a1 : Int) : Option (Bool) := (fbits_Kind.f a0).bind fun t645 => (if t645 = 4 then (some false) else ((fbits_Kind.f a1).bind fun t646 => (some (t646 != 4))))
set_option maxHeartbeats 8000000 in
set_option maxRecDepth 100000 in
theorem fcmp_known.calls (a0 : Int) (a1 : Int) (r : Bool) (w : World) (h : fcmp_known.f a0 a1 = some r) :
    Calls Try.prog 98 #[.int .u64 a0, .int .u64 a1] w fun e w' => e = .returned (.bool r) ∧ Drawn0 w w' := by
  have H : ((fbits_Kind.f a0).bind fun t645 => (if t645 = 4 then (some false) else ((fbits_Kind.f a1).bind fun t646 => (some (t646 != 4))))) = some r := h
  clear h
  replace H := Option.bind_eq_some_iff.mp H
  obtain ⟨t645, A30, H⟩ := H
  replace H : (if t645 = 4 then (some false) else ((fbits_Kind.f a1).bind fun t646 => (some (t646 != 4)))) = some r := H
  have A3 := Aside0.mk A30
  clear A30
  by_cases c4 : t645 = 4
  · rw [if_pos c4] at H
    have c4b0 : (t645 == 4) = true := beq_iff_eq.mpr c4
    have c4b1 : (t645 != 4) = false := bne_eq_false_iff_eq.mpr c4
    clear c4
    obtain rfl := Option.some.inj H
    go_enter Try.func98, Try.ntmps98
    go_wp2_with (first | ((with_reducible refine gate_callee (f := 39) rfl ?_); refine goesL_ (some 6) rfl rfl Try.func39 (by kernel_rfl) rfl #[.int .u64 a0] rfl (by (try simp only [List.map_toArray, List.map_cons, List.map_nil]); first | done | rfl | (simp only [List.length_drop, List.length_take]; rfl) | (simp only [*]; done)) ?_; (with_reducible refine (fbits_Kind.calls a0 t645 _ A3.out).mono ?_); rintro e w' ⟨rfl, ⟨nd, rfl⟩⟩; refine ⟨_, rfl, ?_⟩))
    go_ret
    exact ⟨by first | rfl | (simp; done) | (simp [*]; done), by repeat (first | exact Drawn0.refl _ | apply Drawn0.step)⟩
  · rw [if_neg c4] at H
    have c4b0 : (t645 == 4) = false := beq_eq_false_iff_ne.mpr c4
    have c4b1 : (t645 != 4) = true := bne_iff_ne.mpr c4
    replace H := Option.bind_eq_some_iff.mp H
    obtain ⟨t646, A50, H⟩ := H
    replace H : (some (t646 != 4)) = some r := H
    have A5 := Aside0.mk A50
    clear A50
    obtain rfl := Option.some.inj H
    go_enter Try.func98, Try.ntmps98
    go_wp2_with (first | ((with_reducible refine gate_callee (f := 39) rfl ?_); refine goesL_ (some 6) rfl rfl Try.func39 (by kernel_rfl) rfl #[.int .u64 a0] rfl (by (try simp only [List.map_toArray, List.map_cons, List.map_nil]); first | done | rfl | (simp only [List.length_drop, List.length_take]; rfl) | (simp only [*]; done)) ?_; (with_reducible refine (fbits_Kind.calls a0 t645 _ A3.out).mono ?_); rintro e w' ⟨rfl, ⟨nd, rfl⟩⟩; refine ⟨_, rfl, ?_⟩) | (go_at_call 39; (with_reducible refine (fbits_Kind.calls a1 t646 _ A5.out).mono ?_); rintro e w' ⟨rfl, ⟨nd, rfl⟩⟩))
    go_ret
    exact ⟨by first | rfl | (simp; done) | (simp [*]; done), by repeat (first | exact Drawn0.refl _ | apply Drawn0.step)⟩

/-! ### fcmp_key: function 99 -/
def fcmp_key.f (a0 : Int) : Option (Int) := (fbits_Neg.f a0).bind fun t647 => (if t647 = true then (some (wrap64 (-(wrap64 ((IntKind.u64.wrap (a0 * 2)) / 2))))) else (some (wrap64 ((IntKind.u64.wrap (a0 * 2)) / 2))))
set_option maxHeartbeats 8000000 in
set_option maxRecDepth 100000 in
theorem fcmp_key.calls (a0 : Int) (r : Int) (w : World) (h : fcmp_key.f a0 = some r) :
    Calls Try.prog 99 #[.int .u64 a0] w fun e w' => e = .returned (.int .i64 r) ∧ Drawn0 w w' := by
  have H : ((fbits_Neg.f a0).bind fun t647 => (if t647 = true then (some (wrap64 (-(wrap64 ((IntKind.u64.wrap (a0 * 2)) / 2))))) else (some (wrap64 ((IntKind.u64.wrap (a0 * 2)) / 2))))) = some r := h
  clear h
  replace H := Option.bind_eq_some_iff.mp H
  obtain ⟨t647, A20, H⟩ := H
  replace H : (if t647 = true then (some (wrap64 (-(wrap64 ((IntKind.u64.wrap (a0 * 2)) / 2))))) else (some (wrap64 ((IntKind.u64.wrap (a0 * 2)) / 2)))) = some r := H
  have A2 := Aside0.mk A20
  clear A20
  by_cases c3 : t647 = true
  · subst c3
    have H1 : (some (wrap64 (-(wrap64 ((IntKind.u64.wrap (a0 * 2)) / 2))))) = some r := by rw [if_pos rfl] at H; exact H
    clear H
    have H := H1
    clear H1
    obtain rfl := Option.some.inj H
    go_enter Try.func99, Try.ntmps99
    go_wp2_with (first | ((with_reducible refine gate_callee (f := 41) rfl ?_); refine goesL_ (some 9) rfl rfl Try.func41 (by kernel_rfl) rfl #[.int .u64 a0] rfl (by (try simp only [List.map_toArray, List.map_cons, List.map_nil]); first | done | rfl | (simp only [List.length_drop, List.length_take]; rfl) | (simp only [*]; done)) ?_; (with_reducible refine (fbits_Neg.calls a0 true _ A2.out).mono ?_); rintro e w' ⟨rfl, ⟨nd, rfl⟩⟩; refine ⟨_, rfl, ?_⟩))
    go_ret
    exact ⟨by first | rfl | (simp; done) | (simp [*]; done), by repeat (first | exact Drawn0.refl _ | apply Drawn0.step)⟩
  · replace c3 := Bool.eq_false_iff.mpr c3
    subst c3
    have H1 : (some (wrap64 ((IntKind.u64.wrap (a0 * 2)) / 2))) = some r := by rw [if_neg (show ¬ (false = true) by decide)] at H; exact H
    clear H
    have H := H1
    clear H1
    obtain rfl := Option.some.inj H
    go_enter Try.func99, Try.ntmps99
    go_wp2_with (first | ((with_reducible refine gate_callee (f := 41) rfl ?_); refine goesL_ (some 9) rfl rfl Try.func41 (by kernel_rfl) rfl #[.int .u64 a0] rfl (by (try simp only [List.map_toArray, List.map_cons, List.map_nil]); first | done | rfl | (simp only [List.length_drop, List.length_take]; rfl) | (simp only [*]; done)) ?_; (with_reducible refine (fbits_Neg.calls a0 false _ A2.out).mono ?_); rintro e w' ⟨rfl, ⟨nd, rfl⟩⟩; refine ⟨_, rfl, ?_⟩))
    go_ret
    exact ⟨by first | rfl | (simp; done) | (simp [*]; done), by repeat (first | exact Drawn0.refl _ | apply Drawn0.step)⟩

/-! ### fcmp_Less: function 48 -/
def fcmp_Less.f (a0 : Int) (a1 : Int) : Option (Bool) := (fcmp_known.f a0 a1).bind fun t648 => (if t648 = true then ((fcmp_key.f a0).bind fun t649 => ((fcmp_key.f a1).bind fun t650 => (some (decide (t649 < t650))))) else (some false))
set_option maxHeartbeats 8000000 in
set_option maxRecDepth 100000 in
theorem fcmp_Less.calls (a0 : Int) (a1 : Int) (r : Bool) (w : World) (h : fcmp_Less.f a0 a1 = some r) :
    Calls Try.prog 48 #[.int .u64 a0, .int .u64 a1] w fun e w' => e = .returned (.bool r) ∧ Drawn0 w w' := by
  have H : ((fcmp_known.f a0 a1).bind fun t648 => (if t648 = true then ((fcmp_key.f a0).bind fun t649 => ((fcmp_key.f a1).bind fun t650 => (some (decide (t649 < t650))))) else (some false))) = some r := h
  clear h
  replace H := Option.bind_eq_some_iff.mp H
  obtain ⟨t648, A30, H⟩ := H
  replace H : (if t648 = true then ((fcmp_key.f a0).bind fun t649 => ((fcmp_key.f a1).bind fun t650 => (some (decide (t649 < t650))))) else (some false)) = some r := H
  have A3 := Aside0.mk A30
  clear A30
  by_cases c4 : t648 = true
  · subst c4
    have H1 : ((fcmp_key.f a0).bind fun t649 => ((fcmp_key.f a1).bind fun t650 => (some (decide (t649 < t650))))) = some r := by rw [if_pos rfl] at H; exact H
    clear H
    have H := H1
    clear H1
    replace H := Option.bind_eq_some_iff.mp H
    obtain ⟨t649, A50, H⟩ := H
    replace H : ((fcmp_key.f a1).bind fun t650 => (some (decide (t649 < t650)))) = some r := H
    have A5 := Aside0.mk A50
    clear A50
    replace H := Option.bind_eq_some_iff.mp H
    obtain ⟨t650, A60, H⟩ := H
    replace H : (some (decide (t649 < t650))) = some r := H
    have A6 := Aside0.mk A60
    clear A60
    obtain rfl := Option.some.inj H
    go_enter Try.func48, Try.ntmps48
    go_wp2_with (first | ((with_reducible refine gate_callee (f := 98) rfl ?_); refine goesL_ (some 7) rfl rfl Try.func98 (by kernel_rfl) rfl #[.int .u64 a0, .int .u64 a1] rfl (by (try simp only [List.map_toArray, List.map_cons, List.map_nil]); first | done | rfl | (simp only [List.length_drop, List.length_take]; rfl) | (simp only [*]; done)) ?_; (with_reducible refine (fcmp_known.calls a0 a1 true _ A3.out).mono ?_); rintro e w' ⟨rfl, ⟨nd, rfl⟩⟩; refine ⟨_, rfl, ?_⟩) | (go_at_call 99; (with_reducible refine (fcmp_key.calls a0 t649 _ A5.out).mono ?_); rintro e w' ⟨rfl, ⟨nd, rfl⟩⟩) | (go_at_call 99; (with_reducible refine (fcmp_key.calls a1 t650 _ A6.out).mono ?_); rintro e w' ⟨rfl, ⟨nd, rfl⟩⟩))
    go_ret
    exact ⟨by first | rfl | (simp; done) | (simp [*]; done), by repeat (first | exact Drawn0.refl _ | apply Drawn0.step)⟩
  · replace c4 := Bool.eq_false_iff.mpr c4
    subst c4
    have H1 : (some false) = some r := by rw [if_neg (show ¬ (false = true) by decide)] at H; exact H
    clear H
    have H := H1
    clear H1
    obtain rfl := Option.some.inj H
    go_enter Try.func48, Try.ntmps48
    go_wp2_with (first | ((with_reducible refine gate_callee (f := 98) rfl ?_); refine goesL_ (some 7) rfl rfl Try.func98 (by kernel_rfl) rfl #[.int .u64 a0, .int .u64 a1] rfl (by (try simp only [List.map_toArray, List.map_cons, List.map_nil]); first | done | rfl | (simp only [List.length_drop, List.length_take]; rfl) | (simp only [*]; done)) ?_; (with_reducible refine (fcmp_known.calls a0 a1 false _ A3.out).mono ?_); rintro e w' ⟨rfl, ⟨nd, rfl⟩⟩; refine ⟨_, rfl, ?_⟩))
    go_ret
    exact ⟨by first | rfl | (simp; done) | (simp [*]; done), by repeat (first | exact Drawn0.refl _ | apply Drawn0.step)⟩

/-! ### fcmp_Near: function 51 -/
mutual
def fcmp_Near.j0 : Nat → Bool → Int → Int → Bool → Option (Int × Bool)
  | 0, _, _, _, _ => none
  | k + 1, x4, x5, x6, x25 => if x25 = true then (some (0, false)) else (if x6 ≥ 0 then (if 0 ≤ x6 then (if x4 = true then (some (wrap64 (-(wrap64 (shl .u64 x5 x6))), true)) else (some (wrap64 (shl .u64 x5 x6), true))) else (none)) else (if x6 > (-64) then (if 0 ≤ (wrap64 (-x6)) then (if 0 ≤ (wrap64 (64 + x6)) then (if (shl .u64 x5 (wrap64 (64 + x6))) > 9223372036854775808 then (fcmp_Near.j1 k x4 (wrap64 (shr .u64 x5 (wrap64 (-x6)))) true) else (if (shl .u64 x5 (wrap64 (64 + x6))) = 9223372036854775808 then (fcmp_Near.j1 k x4 (wrap64 (shr .u64 x5 (wrap64 (-x6)))) ((Go.bits .and .i64 (wrap64 (shr .u64 x5 (wrap64 (-x6)))) 1) == 1)) else (fcmp_Near.j1 k x4 (wrap64 (shr .u64 x5 (wrap64 (-x6)))) false))) else (none)) else (none)) else (if x4 = true then (some (-0, true)) else (some (0, true)))))
def fcmp_Near.j1 : Nat → Bool → Int → Bool → Option (Int × Bool)
  | 0, _, _, _ => none
  | k + 1, x4, x8, x55 => if x55 = true then (if x4 = true then (some (wrap64 (-(wrap64 (x8 + 1))), true)) else (some (wrap64 (x8 + 1), true))) else (if x4 = true then (some (wrap64 (-x8), true)) else (some (x8, true)))
end
def fcmp_Near.f (k : Nat) (a0 : Int) : Option (Int × Bool) := (fbits_Parts.f k a0).bind fun bt654 => (if bt654.2.2.2 = true then ((limb_Len.f k bt654.2.1).bind fun t658 => (fcmp_Near.j0 k bt654.1 bt654.2.1 bt654.2.2.1 (decide ((wrap64 (t658 + bt654.2.2.1)) > 62)))) else (fcmp_Near.j0 k bt654.1 bt654.2.1 bt654.2.2.1 true))
set_option maxHeartbeats 8000000 in
set_option maxRecDepth 100000 in
theorem fcmp_Near.calls (k : Nat) (a0 : Int) (r1 : Int) (r2 : Bool) (w : World) (h : fcmp_Near.f k a0 = some (r1, r2)) :
    Calls Try.prog 51 #[.int .u64 a0] w fun e w' => e = .returned (.tuple #[.int .i64 r1, .bool r2]) ∧ Drawn0 w w' := by
  have H : ((fbits_Parts.f k a0).bind fun bt654 => (if bt654.2.2.2 = true then ((limb_Len.f k bt654.2.1).bind fun t658 => (fcmp_Near.j0 k bt654.1 bt654.2.1 bt654.2.2.1 (decide ((wrap64 (t658 + bt654.2.2.1)) > 62)))) else (fcmp_Near.j0 k bt654.1 bt654.2.1 bt654.2.2.1 true))) = some (r1, r2) := h
  clear h
  replace H := Option.bind_eq_some_iff.mp H
  obtain ⟨⟨t654, t655, t656, t657⟩, A20, H⟩ := H
  replace H : (if t657 = true then ((limb_Len.f k t655).bind fun t658 => (fcmp_Near.j0 k t654 t655 t656 (decide ((wrap64 (t658 + t656)) > 62)))) else (fcmp_Near.j0 k t654 t655 t656 true)) = some (r1, r2) := H
  have A2 := Aside0.mk A20
  clear A20
  have HC3 := Aside0.mk H
  clear H
  go_enter Try.func51, Try.ntmps51
  go_upto_region 2 with (first | ((with_reducible refine gate_callee (f := 24) rfl ?_); refine goesL_ (some 12) rfl rfl Try.func24 (by kernel_rfl) rfl #[.int .u64 a0] rfl (by (try simp only [List.map_toArray, List.map_cons, List.map_nil]); first | done | rfl | (simp only [List.length_drop, List.length_take]; rfl) | (simp only [*]; done)) ?_; (with_reducible refine (fbits_Parts.calls k a0 t654 t655 t656 t657 _ A2.out).mono ?_); rintro e w' ⟨rfl, ⟨nd, rfl⟩⟩; refine ⟨_, rfl, ?_⟩))
  (try simp only [Act.put, List.setIfInBounds_toArray, List.set_cons_zero, List.set_cons_succ])
  go_cut [25] (fun v25 wc => ∃ (kq : Nat) (x25_2 : Bool), v25 = .bool x25_2 ∧ Aside0 (fcmp_Near.j0 kq t654 t655 t656 x25_2 = some (r1, r2)) ∧ Aside0 (kq ≤ k) ∧ Drawn0 w wc)
  case first =>
    have H := HC3.out
    clear HC3
    by_cases c4 : t657 = true
    · subst c4
      have H1 : ((limb_Len.f k t655).bind fun t658 => (fcmp_Near.j0 k t654 t655 t656 (decide ((wrap64 (t658 + t656)) > 62)))) = some (r1, r2) := by rw [if_pos rfl] at H; exact H
      clear H
      have H := H1
      clear H1
      replace H := Option.bind_eq_some_iff.mp H
      obtain ⟨t658, A50, H⟩ := H
      replace H : (fcmp_Near.j0 k t654 t655 t656 (decide ((wrap64 (t658 + t656)) > 62))) = some (r1, r2) := H
      have A5 := Aside0.mk A50
      clear A50
      have H' := Aside0.mk H
      clear H
      go_wp2_with (first | (go_at_call 87; (with_reducible refine (limb_Len.calls k t655 t658 _ A5.out).mono ?_); rintro e w' ⟨rfl, ⟨nd, rfl⟩⟩))
      go_meet
      case rel => exact ⟨_, (decide ((wrap64 (t658 + t656)) > 62)), (by first | rfl | (simp; done) | (simp [*]; done)), H', ⟨by first | omega | exact Nat.le_refl _⟩, by repeat (first | exact Drawn0.refl _ | apply Drawn0.step)⟩
    · replace c4 := Bool.eq_false_iff.mpr c4
      subst c4
      have H1 : (fcmp_Near.j0 k t654 t655 t656 true) = some (r1, r2) := by rw [if_neg (show ¬ (false = true) by decide)] at H; exact H
      clear H
      have H := H1
      clear H1
      have H' := Aside0.mk H
      clear H
      go_wp2
      go_meet
      case rel => exact ⟨_, (true), (by first | rfl | (simp; done) | (simp [*]; done)), H', ⟨by first | omega | exact Nat.le_refl _⟩, by repeat (first | exact Drawn0.refl _ | apply Drawn0.step)⟩
  case rest =>
    clear HC3
    try clear c2
    try clear p2
    try clear c4
    try clear c5
    obtain ⟨kq, x25_2, rfl, HA, HJ2, ⟨mc2, rfl⟩⟩ := hcut
    cases kq with
    | zero => exact absurd HA.out (by simp [fcmp_Near.j0])
    | succ kj2 =>
      have H := HA.out
      clear HA
      simp only [fcmp_Near.j0] at H
      by_cases c6 : x25_2 = true
      · subst c6
        have H1 : (some (0, false)) = some (r1, r2) := by rw [if_pos rfl] at H; exact H
        clear H
        have H := H1
        clear H1
        simp only [Option.some.injEq, Prod.mk.injEq] at H
        obtain ⟨rfl, rfl⟩ := H
        go_wp2
        go_ret2
        exact ⟨by first | rfl | (simp; done) | (simp [*]; done), by repeat (first | exact Drawn0.refl _ | apply Drawn0.step)⟩
      · replace c6 := Bool.eq_false_iff.mpr c6
        subst c6
        have H1 : (if t656 ≥ 0 then (if 0 ≤ t656 then (if t654 = true then (some (wrap64 (-(wrap64 (shl .u64 t655 t656))), true)) else (some (wrap64 (shl .u64 t655 t656), true))) else (none)) else (if t656 > (-64) then (if 0 ≤ (wrap64 (-t656)) then (if 0 ≤ (wrap64 (64 + t656)) then (if (shl .u64 t655 (wrap64 (64 + t656))) > 9223372036854775808 then (fcmp_Near.j1 kj2 t654 (wrap64 (shr .u64 t655 (wrap64 (-t656)))) true) else (if (shl .u64 t655 (wrap64 (64 + t656))) = 9223372036854775808 then (fcmp_Near.j1 kj2 t654 (wrap64 (shr .u64 t655 (wrap64 (-t656)))) ((Go.bits .and .i64 (wrap64 (shr .u64 t655 (wrap64 (-t656)))) 1) == 1)) else (fcmp_Near.j1 kj2 t654 (wrap64 (shr .u64 t655 (wrap64 (-t656)))) false))) else (none)) else (none)) else (if t654 = true then (some (-0, true)) else (some (0, true))))) = some (r1, r2) := by rw [if_neg (show ¬ (false = true) by decide)] at H; exact H
        clear H
        have H := H1
        clear H1
        by_cases c7 : t656 ≥ 0
        · rw [if_pos c7] at H
          have c7b0 : decide (0 ≤ t656) = true := decide_eq_true c7
          clear c7
          by_cases c8 : 0 ≤ t656
          · rw [if_pos c8] at H
            have c8b0 := eq_true c8
            have c8b1 : decide (0 ≤ t656) = true := decide_eq_true c8
            clear c8
            obtain ⟨ji9, hji9⟩ : ∃ j_ : Int, (shl .u64 t655 t656) = j_ := ⟨_, rfl⟩
            replace H : (if t654 = true then (some (wrap64 (-(wrap64 (ji9))), true)) else (some (wrap64 (ji9), true))) = some (r1, r2) := by first | (rw [hji9] at H; exact H) | (simp only [hji9] at H ⊢; exact H)
            have hji9_ : (IntKind.u64.wrap (t655 * 2 ^ min t656.toNat 64)) = ji9 := hji9
            have hji9z : t656 ≤ 64 → (IntKind.u64.wrap (t655 * 2 ^ t656.toNat)) = ji9 := shl_small hji9
            by_cases c10 : t654 = true
            · subst c10
              have H1 : (some (wrap64 (-(wrap64 (ji9))), true)) = some (r1, r2) := by rw [if_pos rfl] at H; exact H
              clear H
              have H := H1
              clear H1
              simp only [Option.some.injEq, Prod.mk.injEq] at H
              obtain ⟨rfl, rfl⟩ := H
              go_wp2
              go_ret2
              exact ⟨by first | rfl | (simp; done) | (simp only [← hji9] <;> (first | rfl | simp)) | (simp [*]; done), by repeat (first | exact Drawn0.refl _ | apply Drawn0.step)⟩
            · replace c10 := Bool.eq_false_iff.mpr c10
              subst c10
              have H1 : (some (wrap64 (ji9), true)) = some (r1, r2) := by rw [if_neg (show ¬ (false = true) by decide)] at H; exact H
              clear H
              have H := H1
              clear H1
              simp only [Option.some.injEq, Prod.mk.injEq] at H
              obtain ⟨rfl, rfl⟩ := H
              go_wp2
              go_ret2
              exact ⟨by first | rfl | (simp; done) | (simp only [← hji9] <;> (first | rfl | simp)) | (simp [*]; done), by repeat (first | exact Drawn0.refl _ | apply Drawn0.step)⟩
          · rw [if_neg c8] at H
            exact absurd H (by simp)
        · rw [if_neg c7] at H
          have c7b0 : decide (0 ≤ t656) = false := decide_eq_false c7
          clear c7
          by_cases c11 : t656 > (-64)
          · rw [if_pos c11] at H
            have c11b0 : decide ((-64) < t656) = true := decide_eq_true c11
            clear c11
            obtain ⟨ji12, hji12⟩ : ∃ j_ : Int, (wrap64 (-t656)) = j_ := ⟨_, rfl⟩
            replace H : (if 0 ≤ (ji12) then (if 0 ≤ (wrap64 (64 + t656)) then (if (shl .u64 t655 (wrap64 (64 + t656))) > 9223372036854775808 then (fcmp_Near.j1 kj2 t654 (wrap64 (shr .u64 t655 (ji12))) true) else (if (shl .u64 t655 (wrap64 (64 + t656))) = 9223372036854775808 then (fcmp_Near.j1 kj2 t654 (wrap64 (shr .u64 t655 (ji12))) ((Go.bits .and .i64 (wrap64 (shr .u64 t655 (ji12))) 1) == 1)) else (fcmp_Near.j1 kj2 t654 (wrap64 (shr .u64 t655 (ji12))) false))) else (none)) else (none)) = some (r1, r2) := by first | (rw [hji12] at H; exact H) | (simp only [hji12] at H ⊢; exact H)
            have hji12w : (IntKind.i64.wrap (-t656)) = ji12 := (i64_w _).trans hji12
            by_cases c13 : 0 ≤ (ji12)
            · rw [if_pos c13] at H
              have c13b0 := eq_true c13
              have c13b1 : decide (0 ≤ (ji12)) = true := decide_eq_true c13
              clear c13
              obtain ⟨ji14, hji14⟩ : ∃ j_ : Int, (shr .u64 t655 (ji12)) = j_ := ⟨_, rfl⟩
              replace H : (if 0 ≤ (wrap64 (64 + t656)) then (if (shl .u64 t655 (wrap64 (64 + t656))) > 9223372036854775808 then (fcmp_Near.j1 kj2 t654 (wrap64 (ji14)) true) else (if (shl .u64 t655 (wrap64 (64 + t656))) = 9223372036854775808 then (fcmp_Near.j1 kj2 t654 (wrap64 (ji14)) ((Go.bits .and .i64 (wrap64 (ji14)) 1) == 1)) else (fcmp_Near.j1 kj2 t654 (wrap64 (ji14)) false))) else (none)) = some (r1, r2) := by first | (rw [hji14] at H; exact H) | (simp only [hji14] at H ⊢; exact H)
              have hji14_ : (t655 / 2 ^ min (ji12).toNat 64) = ji14 := hji14
              have hji14z : (ji12) ≤ 64 → (t655 / 2 ^ (ji12).toNat) = ji14 := shr_small hji14
              obtain ⟨ji15, hji15⟩ : ∃ j_ : Int, (wrap64 (64 + t656)) = j_ := ⟨_, rfl⟩
              replace H : (if 0 ≤ (ji15) then (if (shl .u64 t655 (ji15)) > 9223372036854775808 then (fcmp_Near.j1 kj2 t654 (wrap64 (ji14)) true) else (if (shl .u64 t655 (ji15)) = 9223372036854775808 then (fcmp_Near.j1 kj2 t654 (wrap64 (ji14)) ((Go.bits .and .i64 (wrap64 (ji14)) 1) == 1)) else (fcmp_Near.j1 kj2 t654 (wrap64 (ji14)) false))) else (none)) = some (r1, r2) := by first | (rw [hji15] at H; exact H) | (simp only [hji15] at H ⊢; exact H)
              have hji15w : (IntKind.i64.wrap (64 + t656)) = ji15 := (i64_w _).trans hji15
              by_cases c16 : 0 ≤ (ji15)
              · rw [if_pos c16] at H
                have c16b0 := eq_true c16
                have c16b1 : decide (0 ≤ (ji15)) = true := decide_eq_true c16
                clear c16
                obtain ⟨ji17, hji17⟩ : ∃ j_ : Int, (shl .u64 t655 (ji15)) = j_ := ⟨_, rfl⟩
                replace H : (if (ji17) > 9223372036854775808 then (fcmp_Near.j1 kj2 t654 (wrap64 (ji14)) true) else (if (ji17) = 9223372036854775808 then (fcmp_Near.j1 kj2 t654 (wrap64 (ji14)) ((Go.bits .and .i64 (wrap64 (ji14)) 1) == 1)) else (fcmp_Near.j1 kj2 t654 (wrap64 (ji14)) false))) = some (r1, r2) := by first | (rw [hji17] at H; exact H) | (simp only [hji17] at H ⊢; exact H)
                have hji17_ : (IntKind.u64.wrap (t655 * 2 ^ min (ji15).toNat 64)) = ji17 := hji17
                have hji17z : (ji15) ≤ 64 → (IntKind.u64.wrap (t655 * 2 ^ (ji15).toNat)) = ji17 := shl_small hji17
                have HC18 := Aside0.mk H
                clear H
                go_upto_region 10 with (fail)
                go_cut [55] (fun v55 wc => ∃ (kq : Nat) (x55_17 : Bool), v55 = .bool x55_17 ∧ Aside0 (fcmp_Near.j1 kq t654 (wrap64 (ji14)) x55_17 = some (r1, r2)) ∧ Aside0 (kq ≤ kj2) ∧ Drawn0 w wc)
                case first =>
                  have H := HC18.out
                  clear HC18
                  by_cases c19 : (ji17) > 9223372036854775808
                  · rw [if_pos c19] at H
                    have c19b0 : decide (9223372036854775808 < (ji17)) = true := decide_eq_true c19
                    clear c19
                    (first | rw [c19b0] | (simp only [i64_w, i32_w]; rw [c19b0]) | skip)
                    have H' := Aside0.mk H
                    clear H
                    go_wp2
                    go_meet
                    case rel => exact ⟨_, (true), (by first | rfl | (simp; done) | (simp [*]; done)), H', ⟨by have := HJ2.out; first | omega | exact Nat.le_refl _⟩, by repeat (first | exact Drawn0.refl _ | apply Drawn0.step)⟩
                  · rw [if_neg c19] at H
                    have c19b0 : decide (9223372036854775808 < (ji17)) = false := decide_eq_false c19
                    clear c19
                    (first | rw [c19b0] | (simp only [i64_w, i32_w]; rw [c19b0]) | skip)
                    by_cases c20 : (ji17) = 9223372036854775808
                    · rw [if_pos c20] at H
                      have c20b0 : ((ji17) == 9223372036854775808) = true := beq_iff_eq.mpr c20
                      have c20b1 : ((ji17) != 9223372036854775808) = false := bne_eq_false_iff_eq.mpr c20
                      clear c20
                      have H' := Aside0.mk H
                      clear H
                      go_wp2
                      go_meet
                      case rel => exact ⟨_, (((Go.bits .and .i64 (wrap64 (ji14)) 1) == 1)), (by first | rfl | (simp; done) | (simp only [← hji14] <;> (first | rfl | simp)) | (simp [*]; done)), H', ⟨by have := HJ2.out; first | omega | exact Nat.le_refl _⟩, by repeat (first | exact Drawn0.refl _ | apply Drawn0.step)⟩
                    · rw [if_neg c20] at H
                      have c20b0 : ((ji17) == 9223372036854775808) = false := beq_eq_false_iff_ne.mpr c20
                      have c20b1 : ((ji17) != 9223372036854775808) = true := bne_iff_ne.mpr c20
                      have H' := Aside0.mk H
                      clear H
                      go_wp2
                      go_meet
                      case rel => exact ⟨_, (false), (by first | rfl | (simp; done) | (simp [*]; done)), H', ⟨by have := HJ2.out; first | omega | exact Nat.le_refl _⟩, by repeat (first | exact Drawn0.refl _ | apply Drawn0.step)⟩
                case rest =>
                  clear HC18
                  try clear c1
                  try clear c2
                  try clear p2
                  try clear c4
                  try clear c5
                  try clear c6
                  try clear p6
                  try clear c7
                  try clear c7b0
                  try clear c8
                  try clear c8b0
                  try clear c8b1
                  try clear c10
                  try clear c11
                  try clear c11b0
                  try clear c13
                  try clear c13b0
                  try clear c13b1
                  try clear c16
                  try clear c16b0
                  try clear c16b1
                  try clear c19
                  try clear c19b0
                  try clear c20
                  try clear c20b0
                  try clear c20b1
                  try clear p2
                  obtain ⟨kq, x55_17, rfl, HA, HJ17, ⟨mc17, rfl⟩⟩ := hcut
                  cases kq with
                  | zero => exact absurd HA.out (by simp [fcmp_Near.j1])
                  | succ kj17 =>
                    have H := HA.out
                    clear HA
                    simp only [fcmp_Near.j1] at H
                    by_cases c21 : x55_17 = true
                    · subst c21
                      have H1 : (if t654 = true then (some (wrap64 (-(wrap64 ((wrap64 (ji14)) + 1))), true)) else (some (wrap64 ((wrap64 (ji14)) + 1), true))) = some (r1, r2) := by rw [if_pos rfl] at H; exact H
                      clear H
                      have H := H1
                      clear H1
                      by_cases c22 : t654 = true
                      · subst c22
                        have H1 : (some (wrap64 (-(wrap64 ((wrap64 (ji14)) + 1))), true)) = some (r1, r2) := by rw [if_pos rfl] at H; exact H
                        clear H
                        have H := H1
                        clear H1
                        simp only [Option.some.injEq, Prod.mk.injEq] at H
                        obtain ⟨rfl, rfl⟩ := H
                        go_wp2
                        go_ret2
                        exact ⟨by first | rfl | (simp; done) | (simp only [← hji12, ← hji14, ← hji15, ← hji17] <;> (first | rfl | simp)) | (simp [*]; done), by repeat (first | exact Drawn0.refl _ | apply Drawn0.step)⟩
                      · replace c22 := Bool.eq_false_iff.mpr c22
                        subst c22
                        have H1 : (some (wrap64 ((wrap64 (ji14)) + 1), true)) = some (r1, r2) := by rw [if_neg (show ¬ (false = true) by decide)] at H; exact H
                        clear H
                        have H := H1
                        clear H1
                        simp only [Option.some.injEq, Prod.mk.injEq] at H
                        obtain ⟨rfl, rfl⟩ := H
                        go_wp2
                        go_ret2
                        exact ⟨by first | rfl | (simp; done) | (simp only [← hji12, ← hji14, ← hji15, ← hji17] <;> (first | rfl | simp)) | (simp [*]; done), by repeat (first | exact Drawn0.refl _ | apply Drawn0.step)⟩
                    · replace c21 := Bool.eq_false_iff.mpr c21
                      subst c21
                      have H1 : (if t654 = true then (some (wrap64 (-(wrap64 (ji14))), true)) else (some ((wrap64 (ji14)), true))) = some (r1, r2) := by rw [if_neg (show ¬ (false = true) by decide)] at H; exact H
                      clear H
                      have H := H1
                      clear H1
                      by_cases c23 : t654 = true
                      · subst c23
                        have H1 : (some (wrap64 (-(wrap64 (ji14))), true)) = some (r1, r2) := by rw [if_pos rfl] at H; exact H
                        clear H
                        have H := H1
                        clear H1
                        simp only [Option.some.injEq, Prod.mk.injEq] at H
                        obtain ⟨rfl, rfl⟩ := H
                        go_wp2
                        go_ret2
                        exact ⟨by first | rfl | (simp; done) | (simp only [← hji12, ← hji14, ← hji15, ← hji17] <;> (first | rfl | simp)) | (simp [*]; done), by repeat (first | exact Drawn0.refl _ | apply Drawn0.step)⟩
                      · replace c23 := Bool.eq_false_iff.mpr c23
                        subst c23
                        have H1 : (some ((wrap64 (ji14)), true)) = some (r1, r2) := by rw [if_neg (show ¬ (false = true) by decide)] at H; exact H
                        clear H
                        have H := H1
                        clear H1
                        simp only [Option.some.injEq, Prod.mk.injEq] at H
                        obtain ⟨rfl, rfl⟩ := H
                        go_wp2
                        go_ret2
                        exact ⟨by first | rfl | (simp; done) | (simp only [← hji12, ← hji14, ← hji15, ← hji17] <;> (first | rfl | simp)) | (simp [*]; done), by repeat (first | exact Drawn0.refl _ | apply Drawn0.step)⟩
              · rw [if_neg c16] at H
                exact absurd H (by simp)
            · rw [if_neg c13] at H
              exact absurd H (by simp)
          · rw [if_neg c11] at H
            have c11b0 : decide ((-64) < t656) = false := decide_eq_false c11
            clear c11
            by_cases c24 : t654 = true
            · subst c24
              have H1 : (some (-0, true)) = some (r1, r2) := by rw [if_pos rfl] at H; exact H
              clear H
              have H := H1
              clear H1
              simp only [Option.some.injEq, Prod.mk.injEq] at H
              obtain ⟨rfl, rfl⟩ := H
              go_wp2
              go_ret2
              exact ⟨by first | rfl | (simp; done) | (simp [*]; done), by repeat (first | exact Drawn0.refl _ | apply Drawn0.step)⟩
            · replace c24 := Bool.eq_false_iff.mpr c24
              subst c24
              have H1 : (some (0, true)) = some (r1, r2) := by rw [if_neg (show ¬ (false = true) by decide)] at H; exact H
              clear H
              have H := H1
              clear H1
              simp only [Option.some.injEq, Prod.mk.injEq] at H
              obtain ⟨rfl, rfl⟩ := H
              go_wp2
              go_ret2
              exact ⟨by first | rfl | (simp; done) | (simp [*]; done), by repeat (first | exact Drawn0.refl _ | apply Drawn0.step)⟩

/-! ### fcmp_Same: function 49 -/
def fcmp_Same.f (a0 : Int) (a1 : Int) : Option (Bool) := (fcmp_known.f a0 a1).bind fun t651 => (if t651 = true then ((fcmp_key.f a0).bind fun t652 => ((fcmp_key.f a1).bind fun t653 => (some (t652 == t653)))) else (some false))
set_option maxHeartbeats 8000000 in
set_option maxRecDepth 100000 in
theorem fcmp_Same.calls (a0 : Int) (a1 : Int) (r : Bool) (w : World) (h : fcmp_Same.f a0 a1 = some r) :
    Calls Try.prog 49 #[.int .u64 a0, .int .u64 a1] w fun e w' => e = .returned (.bool r) ∧ Drawn0 w w' := by
  have H : ((fcmp_known.f a0 a1).bind fun t651 => (if t651 = true then ((fcmp_key.f a0).bind fun t652 => ((fcmp_key.f a1).bind fun t653 => (some (t652 == t653)))) else (some false))) = some r := h
  clear h
  replace H := Option.bind_eq_some_iff.mp H
  obtain ⟨t651, A30, H⟩ := H
  replace H : (if t651 = true then ((fcmp_key.f a0).bind fun t652 => ((fcmp_key.f a1).bind fun t653 => (some (t652 == t653)))) else (some false)) = some r := H
  have A3 := Aside0.mk A30
  clear A30
  by_cases c4 : t651 = true
  · subst c4
    have H1 : ((fcmp_key.f a0).bind fun t652 => ((fcmp_key.f a1).bind fun t653 => (some (t652 == t653)))) = some r := by rw [if_pos rfl] at H; exact H
    clear H
    have H := H1
    clear H1
    replace H := Option.bind_eq_some_iff.mp H
    obtain ⟨t652, A50, H⟩ := H
    replace H : ((fcmp_key.f a1).bind fun t653 => (some (t652 == t653))) = some r := H
    have A5 := Aside0.mk A50
    clear A50
    replace H := Option.bind_eq_some_iff.mp H
    obtain ⟨t653, A60, H⟩ := H
    replace H : (some (t652 == t653)) = some r := H
    have A6 := Aside0.mk A60
    clear A60
    obtain rfl := Option.some.inj H
    go_enter Try.func49, Try.ntmps49
    go_wp2_with (first | ((with_reducible refine gate_callee (f := 98) rfl ?_); refine goesL_ (some 7) rfl rfl Try.func98 (by kernel_rfl) rfl #[.int .u64 a0, .int .u64 a1] rfl (by (try simp only [List.map_toArray, List.map_cons, List.map_nil]); first | done | rfl | (simp only [List.length_drop, List.length_take]; rfl) | (simp only [*]; done)) ?_; (with_reducible refine (fcmp_known.calls a0 a1 true _ A3.out).mono ?_); rintro e w' ⟨rfl, ⟨nd, rfl⟩⟩; refine ⟨_, rfl, ?_⟩) | (go_at_call 99; (with_reducible refine (fcmp_key.calls a0 t652 _ A5.out).mono ?_); rintro e w' ⟨rfl, ⟨nd, rfl⟩⟩) | (go_at_call 99; (with_reducible refine (fcmp_key.calls a1 t653 _ A6.out).mono ?_); rintro e w' ⟨rfl, ⟨nd, rfl⟩⟩))
    go_ret
    exact ⟨by first | rfl | (simp; done) | (simp [*]; done), by repeat (first | exact Drawn0.refl _ | apply Drawn0.step)⟩
  · replace c4 := Bool.eq_false_iff.mpr c4
    subst c4
    have H1 : (some false) = some r := by rw [if_neg (show ¬ (false = true) by decide)] at H; exact H
    clear H
    have H := H1
    clear H1
    obtain rfl := Option.some.inj H
    go_enter Try.func49, Try.ntmps49
    go_wp2_with (first | ((with_reducible refine gate_callee (f := 98) rfl ?_); refine goesL_ (some 7) rfl rfl Try.func98 (by kernel_rfl) rfl #[.int .u64 a0, .int .u64 a1] rfl (by (try simp only [List.map_toArray, List.map_cons, List.map_nil]); first | done | rfl | (simp only [List.length_drop, List.length_take]; rfl) | (simp only [*]; done)) ?_; (with_reducible refine (fcmp_known.calls a0 a1 false _ A3.out).mono ?_); rintro e w' ⟨rfl, ⟨nd, rfl⟩⟩; refine ⟨_, rfl, ?_⟩))
    go_ret
    exact ⟨by first | rfl | (simp; done) | (simp [*]; done), by repeat (first | exact Drawn0.refl _ | apply Drawn0.step)⟩

/-! ### fcmp_Scale: function 53 -/
def fcmp_Scale.f (k : Nat) (a0 : Int) (a1 : Int) : Option (Int) := (fbits_Parts.f k a0).bind fun bt659 => (if bt659.2.2.2 = true then ((fround_Word.f k bt659.1 bt659.2.1 (wrap64 (bt659.2.2.1 + (mn (mx a1 (-5000)) 5000)))).bind fun t663 => (some t663)) else ((fbits_Clean.f a0).bind fun t664 => (some t664)))
set_option maxHeartbeats 8000000 in
set_option maxRecDepth 100000 in
theorem fcmp_Scale.calls (k : Nat) (a0 : Int) (a1 : Int) (r : Int) (w : World) (h : fcmp_Scale.f k a0 a1 = some r) :
    Calls Try.prog 53 #[.int .u64 a0, .int .i64 a1] w fun e w' => e = .returned (.int .u64 r) ∧ Below w.heap.size w w' := by
  have HB := Aside0.mk (Below.refl w.heap.size w)
  have H : ((fbits_Parts.f k a0).bind fun bt659 => (if bt659.2.2.2 = true then ((fround_Word.f k bt659.1 bt659.2.1 (wrap64 (bt659.2.2.1 + (mn (mx a1 (-5000)) 5000)))).bind fun t663 => (some t663)) else ((fbits_Clean.f a0).bind fun t664 => (some t664)))) = some r := h
  clear h
  replace H := Option.bind_eq_some_iff.mp H
  obtain ⟨⟨t659, t660, t661, t662⟩, A30, H⟩ := H
  replace H : (if t662 = true then ((fround_Word.f k t659 t660 (wrap64 (t661 + (mn (mx a1 (-5000)) 5000)))).bind fun t663 => (some t663)) else ((fbits_Clean.f a0).bind fun t664 => (some t664))) = some r := H
  have A3 := Aside0.mk A30
  clear A30
  by_cases c4 : t662 = true
  · subst c4
    have H1 : ((fround_Word.f k t659 t660 (wrap64 (t661 + (mn (mx a1 (-5000)) 5000)))).bind fun t663 => (some t663)) = some r := by rw [if_pos rfl] at H; exact H
    clear H
    have H := H1
    clear H1
    obtain ⟨ji5, hji5⟩ : ∃ j_ : Int, (mx a1 (-5000)) = j_ := ⟨_, rfl⟩
    replace H : ((fround_Word.f k t659 t660 (wrap64 (t661 + (mn (ji5) 5000)))).bind fun t663 => (some t663)) = some r := by first | (rw [hji5] at H; exact H) | (simp only [hji5] at H ⊢; exact H)
    (try rw [hji5] at A3)
    have hji5_ : (if a1 < (-5000) then (-5000) else a1) = ji5 := hji5
    obtain ⟨ji6, hji6⟩ : ∃ j_ : Int, (mn (ji5) 5000) = j_ := ⟨_, rfl⟩
    replace H : ((fround_Word.f k t659 t660 (wrap64 (t661 + (ji6)))).bind fun t663 => (some t663)) = some r := by first | (rw [hji6] at H; exact H) | (simp only [hji6] at H ⊢; exact H)
    (try rw [hji6] at A3)
    have hji6_ : (if 5000 < (ji5) then 5000 else (ji5)) = ji6 := hji6
    replace H := Option.bind_eq_some_iff.mp H
    obtain ⟨t663, A70, H⟩ := H
    replace H : (some t663) = some r := H
    have A7 := Aside0.mk A70
    clear A70
    obtain rfl := Option.some.inj H
    go_enter Try.func53, Try.ntmps53
    go_wp2_with (first | ((with_reducible refine gate_callee (f := 24) rfl ?_); refine goesL_ (some 11) rfl rfl Try.func24 (by kernel_rfl) rfl #[.int .u64 a0] rfl (by (try simp only [List.map_toArray, List.map_cons, List.map_nil]); first | done | rfl | (simp only [List.length_drop, List.length_take]; rfl) | (simp only [*]; done)) ?_; (with_reducible refine (fbits_Parts.calls k a0 t659 t660 t661 true _ A3.out).mono ?_); rintro e w' ⟨rfl, ⟨nd, rfl⟩⟩; refine ⟨_, rfl, ?_⟩) | ((with_reducible refine gate_callee (f := 36) rfl ?_); refine goesL_ (some 27) rfl rfl Try.func36 (by kernel_rfl) rfl #[.bool t659, .int .u64 t660, .int .i64 (wrap64 (t661 + (ji6)))] rfl (by (try simp only [List.map_toArray, List.map_cons, List.map_nil]); first | done | (simp only [hji6]; rfl) | rfl | (simp only [List.length_drop, List.length_take]; rfl) | (simp only [*]; done)) ?_; (with_reducible refine (fround_Word.calls k t659 t660 (wrap64 (t661 + (ji6))) t663 _ A7.out).mono ?_); rintro e w8 ⟨rfl, hb⟩; refine ⟨_, rfl, ?_⟩; have n0_ := Aside0.mk (below_step (by repeat (first | (with_reducible first | exact HB.out | apply below_alloc | apply pw_below_drewN | apply below_drew1) | exact HB.out)) hb); clear HB; have HB := n0_; clear n0_; (try clear hb); (try clear hb2); (try clear hk); (try clear hi)))
    go_ret
    exact ⟨by first | rfl | (simp [errW_none, errW_some] <;> rfl) | (simp only [← hji5, ← hji6]; first | rfl | (simp [errW_none, errW_some] <;> rfl)) | (simp [*, errW_none, errW_some] <;> rfl), by repeat (first | (with_reducible first | exact HB.out | apply below_alloc | apply pw_below_drewN | apply below_drew1) | exact HB.out)⟩
  · replace c4 := Bool.eq_false_iff.mpr c4
    subst c4
    have H1 : ((fbits_Clean.f a0).bind fun t664 => (some t664)) = some r := by rw [if_neg (show ¬ (false = true) by decide)] at H; exact H
    clear H
    have H := H1
    clear H1
    replace H := Option.bind_eq_some_iff.mp H
    obtain ⟨t664, A90, H⟩ := H
    replace H : (some t664) = some r := H
    have A9 := Aside0.mk A90
    clear A90
    obtain rfl := Option.some.inj H
    go_enter Try.func53, Try.ntmps53
    go_wp2_with (first | ((with_reducible refine gate_callee (f := 24) rfl ?_); refine goesL_ (some 11) rfl rfl Try.func24 (by kernel_rfl) rfl #[.int .u64 a0] rfl (by (try simp only [List.map_toArray, List.map_cons, List.map_nil]); first | done | rfl | (simp only [List.length_drop, List.length_take]; rfl) | (simp only [*]; done)) ?_; (with_reducible refine (fbits_Parts.calls k a0 t659 t660 t661 false _ A3.out).mono ?_); rintro e w' ⟨rfl, ⟨nd, rfl⟩⟩; refine ⟨_, rfl, ?_⟩) | ((with_reducible refine gate_callee (f := 43) rfl ?_); refine goesL_ (some 19) rfl rfl Try.func43 (by kernel_rfl) rfl #[.int .u64 a0] rfl (by (try simp only [List.map_toArray, List.map_cons, List.map_nil]); first | done | rfl | (simp only [List.length_drop, List.length_take]; rfl) | (simp only [*]; done)) ?_; (with_reducible refine (fbits_Clean.calls a0 t664 _ A9.out).mono ?_); rintro e w' ⟨rfl, ⟨nd, rfl⟩⟩; refine ⟨_, rfl, ?_⟩))
    go_ret
    exact ⟨by first | rfl | (simp [errW_none, errW_some] <;> rfl) | (simp [*, errW_none, errW_some] <;> rfl), by repeat (first | (with_reducible first | exact HB.out | apply below_alloc | apply pw_below_drewN | apply below_drew1) | exact HB.out)⟩

end Go.Proofs.Ytbpggonjcnakgaa.P
