/- Functions of the seat as Lean functions, and walks: written by a program for this claim. -/
import Derived.Test.YtldcgclbgbhffaaFbase
import Derived.Test.YtldcgclbgbhffaaFlimbLen
import Derived.Test.YtldcgclbgbhffaaFlimbdigit
namespace Go.Proofs.Ytldcgclbgbhffaa.P
open Go.RowKit Go.Proofs.YtldcgclbgbhffaaW.PrintWords Go.Proofs.YtldcgclbgbhffaaW.PrintLast Go.Proofs.YtldcgclbgbhffaaW.PrintMore
attribute [local go_sem] max2_int min2_int max_two min_two max_three min_three max_four min_four   -- for this text's walks alone
set_option linter.unusedVariables false
set_option linter.unusedSimpArgs false

/-! ### limb_Div: function 35 -/
def limb_Div.f (k : Nat) (a0 : Int) (a1 : Int) (a2 : Int) : Option (Int × Int × Bool) := if a0 ≥ a2 then (some (0, 0, false)) else ((limb_Len.f k a2).bind fun t104 => (if 0 ≤ (wrap64 (64 - t104)) then (if 0 ≤ (wrap64 (63 - (wrap64 (64 - t104)))) then ((limb_digit.f k (Go.bits .or .u64 (shl .u64 a0 (wrap64 (64 - t104))) (shr .u64 (a1 / 2) (wrap64 (63 - (wrap64 (64 - t104)))))) ((shl .u64 a1 (wrap64 (64 - t104))) / 4294967296) (shl .u64 a2 (wrap64 (64 - t104)))).bind fun bt105 => ((limb_digit.f k bt105.2 (Go.bits .and .u64 (shl .u64 a1 (wrap64 (64 - t104))) 4294967295) (shl .u64 a2 (wrap64 (64 - t104)))).bind fun bt107 => (some (Go.bits .or .u64 (IntKind.u64.wrap (bt105.1 * 4294967296)) bt107.1, shr .u64 bt107.2 (wrap64 (64 - t104)), true)))) else (none)) else (none)))
set_option maxHeartbeats 8000000 in
set_option maxRecDepth 100000 in
theorem limb_Div.calls (k : Nat) (a0 : Int) (a1 : Int) (a2 : Int) (r1 : Int) (r2 : Int) (r3 : Bool) (w : World) (h : limb_Div.f k a0 a1 a2 = some (r1, r2, r3)) :
    Calls Try.prog 35 #[.int .u64 a0, .int .u64 a1, .int .u64 a2] w fun e w' => e = .returned (.tuple #[.int .u64 r1, .int .u64 r2, .bool r3]) ∧ Drawn0 w w' := by
  have H : (if a0 ≥ a2 then (some (0, 0, false)) else ((limb_Len.f k a2).bind fun t104 => (if 0 ≤ (wrap64 (64 - t104)) then (if 0 ≤ (wrap64 (63 - (wrap64 (64 - t104)))) then ((limb_digit.f k (Go.bits .or .u64 (shl .u64 a0 (wrap64 (64 - t104))) (shr .u64 (a1 / 2) (wrap64 (63 - (wrap64 (64 - t104)))))) ((shl .u64 a1 (wrap64 (64 - t104))) / 4294967296) (shl .u64 a2 (wrap64 (64 - t104)))).bind fun bt105 => ((limb_digit.f k bt105.2 (Go.bits .and .u64 (shl .u64 a1 (wrap64 (64 - t104))) 4294967295) (shl .u64 a2 (wrap64 (64 - t104)))).bind fun bt107 => (some (Go.bits .or .u64 (IntKind.u64.wrap (bt105.1 * 4294967296)) bt107.1, shr .u64 bt107.2 (wrap64 (64 - t104)), true)))) else (none)) else (none)))) = some (r1, r2, r3) := h
  clear h
  by_cases c4 : a0 ≥ a2
  · rw [if_pos c4] at H
    have c4b0 : decide (a2 ≤ a0) = true := decide_eq_true c4
    clear c4
    simp only [Option.some.injEq, Prod.mk.injEq] at H
    obtain ⟨rfl, rfl, rfl⟩ := H
    go_enter Try.func35, Try.ntmps35
    go_wp2
    repeat (go_quiet (fail); try go_wp2)
    go_ret3
    exact ⟨by first | rfl | (simp; done) | (simp [*]; done), by repeat (first | exact Drawn0.refl _ | apply Drawn0.step)⟩
  · rw [if_neg c4] at H
    have c4b0 : decide (a2 ≤ a0) = false := decide_eq_false c4
    clear c4
    replace H := Option.bind_eq_some_iff.mp H
    obtain ⟨t104, A50, H⟩ := H
    replace H : (if 0 ≤ (wrap64 (64 - t104)) then (if 0 ≤ (wrap64 (63 - (wrap64 (64 - t104)))) then ((limb_digit.f k (Go.bits .or .u64 (shl .u64 a0 (wrap64 (64 - t104))) (shr .u64 (a1 / 2) (wrap64 (63 - (wrap64 (64 - t104)))))) ((shl .u64 a1 (wrap64 (64 - t104))) / 4294967296) (shl .u64 a2 (wrap64 (64 - t104)))).bind fun bt105 => ((limb_digit.f k bt105.2 (Go.bits .and .u64 (shl .u64 a1 (wrap64 (64 - t104))) 4294967295) (shl .u64 a2 (wrap64 (64 - t104)))).bind fun bt107 => (some (Go.bits .or .u64 (IntKind.u64.wrap (bt105.1 * 4294967296)) bt107.1, shr .u64 bt107.2 (wrap64 (64 - t104)), true)))) else (none)) else (none)) = some (r1, r2, r3) := H
    have A5 := Aside0.mk A50
    clear A50
    obtain ⟨ji6, hji6⟩ : ∃ j_ : Int, (wrap64 (64 - t104)) = j_ := ⟨_, rfl⟩
    replace H : (if 0 ≤ (ji6) then (if 0 ≤ (wrap64 (63 - (ji6))) then ((limb_digit.f k (Go.bits .or .u64 (shl .u64 a0 (ji6)) (shr .u64 (a1 / 2) (wrap64 (63 - (ji6))))) ((shl .u64 a1 (ji6)) / 4294967296) (shl .u64 a2 (ji6))).bind fun bt105 => ((limb_digit.f k bt105.2 (Go.bits .and .u64 (shl .u64 a1 (ji6)) 4294967295) (shl .u64 a2 (ji6))).bind fun bt107 => (some (Go.bits .or .u64 (IntKind.u64.wrap (bt105.1 * 4294967296)) bt107.1, shr .u64 bt107.2 (ji6), true)))) else (none)) else (none)) = some (r1, r2, r3) := by first | (rw [hji6] at H; exact H) | (simp only [hji6] at H ⊢; exact H)
    (try rw [hji6] at A5)
    have hji6w : (IntKind.i64.wrap (64 - t104)) = ji6 := (i64_w _).trans hji6
    by_cases c7 : 0 ≤ (ji6)
    · rw [if_pos c7] at H
      have c7b0 := eq_true c7
      have c7b1 : decide (0 ≤ (ji6)) = true := decide_eq_true c7
      clear c7
      obtain ⟨ji8, hji8⟩ : ∃ j_ : Int, (shl .u64 a2 (ji6)) = j_ := ⟨_, rfl⟩
      replace H : (if 0 ≤ (wrap64 (63 - (ji6))) then ((limb_digit.f k (Go.bits .or .u64 (shl .u64 a0 (ji6)) (shr .u64 (a1 / 2) (wrap64 (63 - (ji6))))) ((shl .u64 a1 (ji6)) / 4294967296) (ji8)).bind fun bt105 => ((limb_digit.f k bt105.2 (Go.bits .and .u64 (shl .u64 a1 (ji6)) 4294967295) (ji8)).bind fun bt107 => (some (Go.bits .or .u64 (IntKind.u64.wrap (bt105.1 * 4294967296)) bt107.1, shr .u64 bt107.2 (ji6), true)))) else (none)) = some (r1, r2, r3) := by first | (rw [hji8] at H; exact H) | (simp only [hji8] at H ⊢; exact H)
      (try rw [hji8] at A5)
      have hji8_ : (IntKind.u64.wrap (a2 * 2 ^ min (ji6).toNat 64)) = ji8 := hji8
      have hji8z : (ji6) ≤ 64 → (IntKind.u64.wrap (a2 * 2 ^ (ji6).toNat)) = ji8 := shl_small hji8
      have c9b0 := eq_true (of_decide_eq_true (by first | (with_reducible assumption) | assumption) : 0 ≤ (ji6))
      obtain ⟨ji10, hji10⟩ : ∃ j_ : Int, (shl .u64 a0 (ji6)) = j_ := ⟨_, rfl⟩
      replace H : (if 0 ≤ (wrap64 (63 - (ji6))) then ((limb_digit.f k (Go.bits .or .u64 (ji10) (shr .u64 (a1 / 2) (wrap64 (63 - (ji6))))) ((shl .u64 a1 (ji6)) / 4294967296) (ji8)).bind fun bt105 => ((limb_digit.f k bt105.2 (Go.bits .and .u64 (shl .u64 a1 (ji6)) 4294967295) (ji8)).bind fun bt107 => (some (Go.bits .or .u64 (IntKind.u64.wrap (bt105.1 * 4294967296)) bt107.1, shr .u64 bt107.2 (ji6), true)))) else (none)) = some (r1, r2, r3) := by first | (rw [hji10] at H; exact H) | (simp only [hji10] at H ⊢; exact H)
      (try rw [hji10] at A5)
      have hji10_ : (IntKind.u64.wrap (a0 * 2 ^ min (ji6).toNat 64)) = ji10 := hji10
      have hji10z : (ji6) ≤ 64 → (IntKind.u64.wrap (a0 * 2 ^ (ji6).toNat)) = ji10 := shl_small hji10
      obtain ⟨ji11, hji11⟩ : ∃ j_ : Int, (wrap64 (63 - (ji6))) = j_ := ⟨_, rfl⟩
      replace H : (if 0 ≤ (ji11) then ((limb_digit.f k (Go.bits .or .u64 (ji10) (shr .u64 (a1 / 2) (ji11))) ((shl .u64 a1 (ji6)) / 4294967296) (ji8)).bind fun bt105 => ((limb_digit.f k bt105.2 (Go.bits .and .u64 (shl .u64 a1 (ji6)) 4294967295) (ji8)).bind fun bt107 => (some (Go.bits .or .u64 (IntKind.u64.wrap (bt105.1 * 4294967296)) bt107.1, shr .u64 bt107.2 (ji6), true)))) else (none)) = some (r1, r2, r3) := by first | (rw [hji11] at H; exact H) | (simp only [hji11] at H ⊢; exact H)
      (try rw [hji11] at A5)
      have hji11w : (IntKind.i64.wrap (63 - (ji6))) = ji11 := (i64_w _).trans hji11
      by_cases c12 : 0 ≤ (ji11)
      · rw [if_pos c12] at H
        have c12b0 := eq_true c12
        have c12b1 : decide (0 ≤ (ji11)) = true := decide_eq_true c12
        clear c12
        obtain ⟨ji13, hji13⟩ : ∃ j_ : Int, (shr .u64 (a1 / 2) (ji11)) = j_ := ⟨_, rfl⟩
        replace H : ((limb_digit.f k (Go.bits .or .u64 (ji10) (ji13)) ((shl .u64 a1 (ji6)) / 4294967296) (ji8)).bind fun bt105 => ((limb_digit.f k bt105.2 (Go.bits .and .u64 (shl .u64 a1 (ji6)) 4294967295) (ji8)).bind fun bt107 => (some (Go.bits .or .u64 (IntKind.u64.wrap (bt105.1 * 4294967296)) bt107.1, shr .u64 bt107.2 (ji6), true)))) = some (r1, r2, r3) := by first | (rw [hji13] at H; exact H) | (simp only [hji13] at H ⊢; exact H)
        (try rw [hji13] at A5)
        have hji13_ : ((a1 / 2) / 2 ^ min (ji11).toNat 64) = ji13 := hji13
        have hji13z : (ji11) ≤ 64 → ((a1 / 2) / 2 ^ (ji11).toNat) = ji13 := shr_small hji13
        have c14b0 := eq_true (of_decide_eq_true (by first | (with_reducible assumption) | assumption) : 0 ≤ (ji6))
        obtain ⟨ji15, hji15⟩ : ∃ j_ : Int, (shl .u64 a1 (ji6)) = j_ := ⟨_, rfl⟩
        replace H : ((limb_digit.f k (Go.bits .or .u64 (ji10) (ji13)) ((ji15) / 4294967296) (ji8)).bind fun bt105 => ((limb_digit.f k bt105.2 (Go.bits .and .u64 (ji15) 4294967295) (ji8)).bind fun bt107 => (some (Go.bits .or .u64 (IntKind.u64.wrap (bt105.1 * 4294967296)) bt107.1, shr .u64 bt107.2 (ji6), true)))) = some (r1, r2, r3) := by first | (rw [hji15] at H; exact H) | (simp only [hji15] at H ⊢; exact H)
        (try rw [hji15] at A5)
        have hji15_ : (IntKind.u64.wrap (a1 * 2 ^ min (ji6).toNat 64)) = ji15 := hji15
        have hji15z : (ji6) ≤ 64 → (IntKind.u64.wrap (a1 * 2 ^ (ji6).toNat)) = ji15 := shl_small hji15
        replace H := Option.bind_eq_some_iff.mp H
        obtain ⟨⟨t105, t106⟩, A160, H⟩ := H
        replace H : ((limb_digit.f k t106 (Go.bits .and .u64 (ji15) 4294967295) (ji8)).bind fun bt107 => (some (Go.bits .or .u64 (IntKind.u64.wrap (t105 * 4294967296)) bt107.1, shr .u64 bt107.2 (ji6), true))) = some (r1, r2, r3) := H
        have A16 := Aside0.mk A160
        clear A160
        replace H := Option.bind_eq_some_iff.mp H
        obtain ⟨⟨t107, t108⟩, A170, H⟩ := H
        replace H : (some (Go.bits .or .u64 (IntKind.u64.wrap (t105 * 4294967296)) t107, shr .u64 t108 (ji6), true)) = some (r1, r2, r3) := H
        have A17 := Aside0.mk A170
        clear A170
        have c18b0 := eq_true (of_decide_eq_true (by first | (with_reducible assumption) | assumption) : 0 ≤ (ji6))
        obtain ⟨ji19, hji19⟩ : ∃ j_ : Int, (shr .u64 t108 (ji6)) = j_ := ⟨_, rfl⟩
        replace H : (some (Go.bits .or .u64 (IntKind.u64.wrap (t105 * 4294967296)) t107, ji19, true)) = some (r1, r2, r3) := by first | (rw [hji19] at H; exact H) | (simp only [hji19] at H ⊢; exact H)
        (try rw [hji19] at A5)
        (try rw [hji19] at A16)
        (try rw [hji19] at A17)
        have hji19_ : (t108 / 2 ^ min (ji6).toNat 64) = ji19 := hji19
        have hji19z : (ji6) ≤ 64 → (t108 / 2 ^ (ji6).toNat) = ji19 := shr_small hji19
        simp only [Option.some.injEq, Prod.mk.injEq] at H
        obtain ⟨rfl, rfl, rfl⟩ := H
        go_enter Try.func35, Try.ntmps35
        go_wp2_with (first | (go_at_call 37; (with_reducible refine (limb_Len.calls k a2 t104 _ A5.out).mono ?_); rintro e w' ⟨rfl, ⟨nd, rfl⟩⟩; (try first | exact ⟨rfl, _, World.drewN_drewN _ _ _⟩ | exact ⟨rfl, _, Eq.trans (World.drewN_drewN _ _ _) (congrArg (World.drewN _) (Nat.add_assoc _ _ _))⟩)) | (go_at_call 139; (with_reducible refine (limb_digit.calls k (Go.bits .or .u64 (ji10) (ji13)) ((ji15) / 4294967296) ji8 t105 t106 _ A16.out).mono ?_); rintro e w' ⟨rfl, ⟨nd, rfl⟩⟩; (try first | exact ⟨rfl, _, World.drewN_drewN _ _ _⟩ | exact ⟨rfl, _, Eq.trans (World.drewN_drewN _ _ _) (congrArg (World.drewN _) (Nat.add_assoc _ _ _))⟩)) | (go_at_call 139; (with_reducible refine (limb_digit.calls k t106 (Go.bits .and .u64 (ji15) 4294967295) ji8 t107 t108 _ A17.out).mono ?_); rintro e w' ⟨rfl, ⟨nd, rfl⟩⟩; (try first | exact ⟨rfl, _, World.drewN_drewN _ _ _⟩ | exact ⟨rfl, _, Eq.trans (World.drewN_drewN _ _ _) (congrArg (World.drewN _) (Nat.add_assoc _ _ _))⟩)))
        repeat (go_quiet (first | (go_at_call 37; (with_reducible refine (limb_Len.calls k a2 t104 _ A5.out).mono ?_); rintro e w' ⟨rfl, ⟨nd, rfl⟩⟩; (try first | exact ⟨rfl, _, World.drewN_drewN _ _ _⟩ | exact ⟨rfl, _, Eq.trans (World.drewN_drewN _ _ _) (congrArg (World.drewN _) (Nat.add_assoc _ _ _))⟩)) | (go_at_call 139; (with_reducible refine (limb_digit.calls k (Go.bits .or .u64 (ji10) (ji13)) ((ji15) / 4294967296) ji8 t105 t106 _ A16.out).mono ?_); rintro e w' ⟨rfl, ⟨nd, rfl⟩⟩; (try first | exact ⟨rfl, _, World.drewN_drewN _ _ _⟩ | exact ⟨rfl, _, Eq.trans (World.drewN_drewN _ _ _) (congrArg (World.drewN _) (Nat.add_assoc _ _ _))⟩)) | (go_at_call 139; (with_reducible refine (limb_digit.calls k t106 (Go.bits .and .u64 (ji15) 4294967295) ji8 t107 t108 _ A17.out).mono ?_); rintro e w' ⟨rfl, ⟨nd, rfl⟩⟩; (try first | exact ⟨rfl, _, World.drewN_drewN _ _ _⟩ | exact ⟨rfl, _, Eq.trans (World.drewN_drewN _ _ _) (congrArg (World.drewN _) (Nat.add_assoc _ _ _))⟩))); try go_wp2_with (first | (go_at_call 37; (with_reducible refine (limb_Len.calls k a2 t104 _ A5.out).mono ?_); rintro e w' ⟨rfl, ⟨nd, rfl⟩⟩; (try first | exact ⟨rfl, _, World.drewN_drewN _ _ _⟩ | exact ⟨rfl, _, Eq.trans (World.drewN_drewN _ _ _) (congrArg (World.drewN _) (Nat.add_assoc _ _ _))⟩)) | (go_at_call 139; (with_reducible refine (limb_digit.calls k (Go.bits .or .u64 (ji10) (ji13)) ((ji15) / 4294967296) ji8 t105 t106 _ A16.out).mono ?_); rintro e w' ⟨rfl, ⟨nd, rfl⟩⟩; (try first | exact ⟨rfl, _, World.drewN_drewN _ _ _⟩ | exact ⟨rfl, _, Eq.trans (World.drewN_drewN _ _ _) (congrArg (World.drewN _) (Nat.add_assoc _ _ _))⟩)) | (go_at_call 139; (with_reducible refine (limb_digit.calls k t106 (Go.bits .and .u64 (ji15) 4294967295) ji8 t107 t108 _ A17.out).mono ?_); rintro e w' ⟨rfl, ⟨nd, rfl⟩⟩; (try first | exact ⟨rfl, _, World.drewN_drewN _ _ _⟩ | exact ⟨rfl, _, Eq.trans (World.drewN_drewN _ _ _) (congrArg (World.drewN _) (Nat.add_assoc _ _ _))⟩))))
        go_ret3
        exact ⟨by first | rfl | (simp; done) | (simp only [← hji6, ← hji8, ← hji10, ← hji11, ← hji13, ← hji15, ← hji19] <;> (first | rfl | simp)) | (simp [*]; done), by repeat (first | exact Drawn0.refl _ | apply Drawn0.step)⟩
      · rw [if_neg c12] at H
        exact absurd H (by simp)
    · rw [if_neg c7] at H
      exact absurd H (by simp)

end Go.Proofs.Ytldcgclbgbhffaa.P
