/- Functions of one package as Lean functions, and walks: written by a program for this claim. -/
import Derived.Test.YtbpggonjcnakgaaFbase
import Derived.Test.YtbpggonjcnakgaaBfbits
import Derived.Test.YtbpggonjcnakgaaBlimb
import Derived.Test.YtbpggonjcnakgaaBfround
namespace Go.Proofs.Ytbpggonjcnakgaa.P
open Go.RowKit Go.Proofs.YtbpggonjcnakgaaW.PrintWords Go.Proofs.YtbpggonjcnakgaaW.PrintLast Go.Proofs.YtbpggonjcnakgaaW.PrintMore
attribute [local go_sem] max2_int min2_int max_two min_two max_three min_three max_four min_four   -- for this text's walks alone
set_option linter.unusedVariables false
set_option linter.unusedSimpArgs false

/-! ### fprod_signed: function 121 -/
def fprod_signed.f (k : Nat) (a0 : Bool) : Option (Int) := (fbits_Make.f k a0 0 0).bind fun bt924 => (some bt924.1)
set_option maxHeartbeats 8000000 in
set_option maxRecDepth 100000 in
theorem fprod_signed.calls (k : Nat) (a0 : Bool) (r : Int) (w : World) (h : fprod_signed.f k a0 = some r) :
    Calls Try.prog 121 #[.bool a0] w fun e w' => e = .returned (.int .u64 r) ∧ Below w.heap.size w w' := by
  have HB := Aside0.mk (Below.refl w.heap.size w)
  have H : ((fbits_Make.f k a0 0 0).bind fun bt924 => (some bt924.1)) = some r := h
  clear h
  replace H := Option.bind_eq_some_iff.mp H
  obtain ⟨⟨t924, t925⟩, A20, H⟩ := H
  replace H : (some t924) = some r := H
  have A2 := Aside0.mk A20
  clear A20
  obtain rfl := Option.some.inj H
  go_enter Try.func121, Try.ntmps121
  go_wp2_with (first | ((with_reducible refine gate_callee (f := 25) rfl ?_); refine goesL_ (some 7) rfl rfl Try.func25 (by kernel_rfl) rfl #[.bool a0, .int .u64 0, .int .i64 0] rfl (by (try simp only [List.map_toArray, List.map_cons, List.map_nil]); first | done | rfl | (simp only [List.length_drop, List.length_take]; rfl) | (simp only [*]; done)) ?_; (with_reducible refine (fbits_Make.calls k a0 0 0 t924 t925 _ A2.out).mono ?_); rintro e w3 ⟨rfl, hb⟩; refine ⟨_, rfl, ?_⟩; have n0_ := Aside0.mk (below_step (by repeat (first | (with_reducible first | exact HB.out | apply below_alloc | apply pw_below_drewN | apply below_drew1) | exact HB.out)) hb); clear HB; have HB := n0_; clear n0_; (try clear hb); (try clear hb2); (try clear hk); (try clear hi)))
  go_ret
  exact ⟨by first | rfl | (simp [errW_none, errW_some] <;> rfl) | (simp [*, errW_none, errW_some] <;> rfl), by repeat (first | (with_reducible first | exact HB.out | apply below_alloc | apply pw_below_drewN | apply below_drew1) | exact HB.out)⟩

/-! ### fprod_Div: function 68 -/
mutual
def fprod_Div.j0 : Nat → Int → Int → Int → Int → Bool → Bool → Option (Int)
  | 0, _, _, _, _, _, _ => none
  | k + 1, x0, x1, x5, x6, x7, x30 => if x30 = true then ((fbits_Nan.f).bind fun t935 => (some t935)) else (if x5 = 3 then (fprod_Div.j1 k x0 x1 x5 x6 x7 true) else (fprod_Div.j1 k x0 x1 x5 x6 x7 (x6 == 0)))
def fprod_Div.j1 : Nat → Int → Int → Int → Int → Bool → Bool → Option (Int)
  | 0, _, _, _, _, _, _ => none
  | k + 1, x0, x1, x5, x6, x7, x51 => if x51 = true then ((fbits_Inf.f x7).bind fun t936 => (some t936)) else (if x5 = 0 then ((fprod_signed.f k x7).bind fun t937 => (some t937)) else (if x6 = 3 then ((fprod_signed.f k x7).bind fun t938 => (some t938)) else ((fbits_Parts.f k x0).bind fun bt939 => ((fbits_Parts.f k x1).bind fun bt943 => ((limb_Len.f k bt939.2.1).bind fun t947 => ((limb_Len.f k bt943.2.1).bind fun t948 => (if 0 ≤ (wrap64 (63 - t947)) then (if 0 ≤ (wrap64 (64 - t948)) then ((limb_Div.f k (shl .u64 bt939.2.1 (wrap64 (63 - t947))) 0 (shl .u64 bt943.2.1 (wrap64 (64 - t948)))).bind fun bt949 => (if bt949.2.1 = 0 then ((fround_Word.f k x7 bt949.1 (wrap64 ((wrap64 ((wrap64 ((wrap64 (bt939.2.2.1 - (wrap64 (63 - t947)))) - bt943.2.2.1)) + (wrap64 (64 - t948)))) - 64))).bind fun t952 => (some t952)) else ((fround_Word.f k x7 (Go.bits .or .u64 bt949.1 1) (wrap64 ((wrap64 ((wrap64 ((wrap64 (bt939.2.2.1 - (wrap64 (63 - t947)))) - bt943.2.2.1)) + (wrap64 (64 - t948)))) - 64))).bind fun t953 => (some t953)))) else (none)) else (none))))))))
end
def fprod_Div.f (k : Nat) (a0 : Int) (a1 : Int) : Option (Int) := (fbits_Kind.f a0).bind fun t931 => ((fbits_Kind.f a1).bind fun t932 => ((fbits_Neg.f a0).bind fun t933 => ((fbits_Neg.f a1).bind fun t934 => (if t931 = 4 then (fprod_Div.j0 k a0 a1 t931 t932 (!(t933 == t934)) true) else (if t932 = 4 then (fprod_Div.j0 k a0 a1 t931 t932 (!(t933 == t934)) true) else (if t931 = t932 then (if t931 = 3 then (fprod_Div.j0 k a0 a1 t931 t932 (!(t933 == t934)) true) else (fprod_Div.j0 k a0 a1 t931 t932 (!(t933 == t934)) (t931 == 0))) else (fprod_Div.j0 k a0 a1 t931 t932 (!(t933 == t934)) false)))))))
set_option maxHeartbeats 8000000 in
set_option maxRecDepth 100000 in
theorem fprod_Div.calls (k : Nat) (a0 : Int) (a1 : Int) (r : Int) (w : World) (h : fprod_Div.f k a0 a1 = some r) :
    Calls Try.prog 68 #[.int .u64 a0, .int .u64 a1] w fun e w' => e = .returned (.int .u64 r) ∧ Below w.heap.size w w' := by
  have HB := Aside0.mk (Below.refl w.heap.size w)
  have H : ((fbits_Kind.f a0).bind fun t931 => ((fbits_Kind.f a1).bind fun t932 => ((fbits_Neg.f a0).bind fun t933 => ((fbits_Neg.f a1).bind fun t934 => (if t931 = 4 then (fprod_Div.j0 k a0 a1 t931 t932 (!(t933 == t934)) true) else (if t932 = 4 then (fprod_Div.j0 k a0 a1 t931 t932 (!(t933 == t934)) true) else (if t931 = t932 then (if t931 = 3 then (fprod_Div.j0 k a0 a1 t931 t932 (!(t933 == t934)) true) else (fprod_Div.j0 k a0 a1 t931 t932 (!(t933 == t934)) (t931 == 0))) else (fprod_Div.j0 k a0 a1 t931 t932 (!(t933 == t934)) false)))))))) = some r := h
  clear h
  replace H := Option.bind_eq_some_iff.mp H
  obtain ⟨t931, A30, H⟩ := H
  replace H : ((fbits_Kind.f a1).bind fun t932 => ((fbits_Neg.f a0).bind fun t933 => ((fbits_Neg.f a1).bind fun t934 => (if t931 = 4 then (fprod_Div.j0 k a0 a1 t931 t932 (!(t933 == t934)) true) else (if t932 = 4 then (fprod_Div.j0 k a0 a1 t931 t932 (!(t933 == t934)) true) else (if t931 = t932 then (if t931 = 3 then (fprod_Div.j0 k a0 a1 t931 t932 (!(t933 == t934)) true) else (fprod_Div.j0 k a0 a1 t931 t932 (!(t933 == t934)) (t931 == 0))) else (fprod_Div.j0 k a0 a1 t931 t932 (!(t933 == t934)) false))))))) = some r := H
  have A3 := Aside0.mk A30
  clear A30
  replace H := Option.bind_eq_some_iff.mp H
  obtain ⟨t932, A40, H⟩ := H
  replace H : ((fbits_Neg.f a0).bind fun t933 => ((fbits_Neg.f a1).bind fun t934 => (if t931 = 4 then (fprod_Div.j0 k a0 a1 t931 t932 (!(t933 == t934)) true) else (if t932 = 4 then (fprod_Div.j0 k a0 a1 t931 t932 (!(t933 == t934)) true) else (if t931 = t932 then (if t931 = 3 then (fprod_Div.j0 k a0 a1 t931 t932 (!(t933 == t934)) true) else (fprod_Div.j0 k a0 a1 t931 t932 (!(t933 == t934)) (t931 == 0))) else (fprod_Div.j0 k a0 a1 t931 t932 (!(t933 == t934)) false)))))) = some r := H
  have A4 := Aside0.mk A40
  clear A40
  replace H := Option.bind_eq_some_iff.mp H
  obtain ⟨t933, A50, H⟩ := H
  replace H : ((fbits_Neg.f a1).bind fun t934 => (if t931 = 4 then (fprod_Div.j0 k a0 a1 t931 t932 (!(t933 == t934)) true) else (if t932 = 4 then (fprod_Div.j0 k a0 a1 t931 t932 (!(t933 == t934)) true) else (if t931 = t932 then (if t931 = 3 then (fprod_Div.j0 k a0 a1 t931 t932 (!(t933 == t934)) true) else (fprod_Div.j0 k a0 a1 t931 t932 (!(t933 == t934)) (t931 == 0))) else (fprod_Div.j0 k a0 a1 t931 t932 (!(t933 == t934)) false))))) = some r := H
  have A5 := Aside0.mk A50
  clear A50
  replace H := Option.bind_eq_some_iff.mp H
  obtain ⟨t934, A60, H⟩ := H
  replace H : (if t931 = 4 then (fprod_Div.j0 k a0 a1 t931 t932 (!(t933 == t934)) true) else (if t932 = 4 then (fprod_Div.j0 k a0 a1 t931 t932 (!(t933 == t934)) true) else (if t931 = t932 then (if t931 = 3 then (fprod_Div.j0 k a0 a1 t931 t932 (!(t933 == t934)) true) else (fprod_Div.j0 k a0 a1 t931 t932 (!(t933 == t934)) (t931 == 0))) else (fprod_Div.j0 k a0 a1 t931 t932 (!(t933 == t934)) false)))) = some r := H
  have A6 := Aside0.mk A60
  clear A60
  have HC7 := Aside0.mk H
  clear H
  go_enter Try.func68, Try.ntmps68
  go_upto_region 3 with (first | (go_at_call 39; (with_reducible refine (fbits_Kind.calls a0 t931 _ A3.out).mono ?_); rintro e w' ⟨rfl, ⟨nd, rfl⟩⟩; (try first | exact ⟨rfl, _, World.drewN_drewN _ _ _⟩ | exact ⟨rfl, _, Eq.trans (World.drewN_drewN _ _ _) (congrArg (World.drewN _) (Nat.add_assoc _ _ _))⟩)) | (go_at_call 39; (with_reducible refine (fbits_Kind.calls a1 t932 _ A4.out).mono ?_); rintro e w' ⟨rfl, ⟨nd, rfl⟩⟩; (try first | exact ⟨rfl, _, World.drewN_drewN _ _ _⟩ | exact ⟨rfl, _, Eq.trans (World.drewN_drewN _ _ _) (congrArg (World.drewN _) (Nat.add_assoc _ _ _))⟩)) | (go_at_call 41; (with_reducible refine (fbits_Neg.calls a0 t933 _ A5.out).mono ?_); rintro e w' ⟨rfl, ⟨nd, rfl⟩⟩; (try first | exact ⟨rfl, _, World.drewN_drewN _ _ _⟩ | exact ⟨rfl, _, Eq.trans (World.drewN_drewN _ _ _) (congrArg (World.drewN _) (Nat.add_assoc _ _ _))⟩)) | (go_at_call 41; (with_reducible refine (fbits_Neg.calls a1 t934 _ A6.out).mono ?_); rintro e w' ⟨rfl, ⟨nd, rfl⟩⟩; (try first | exact ⟨rfl, _, World.drewN_drewN _ _ _⟩ | exact ⟨rfl, _, Eq.trans (World.drewN_drewN _ _ _) (congrArg (World.drewN _) (Nat.add_assoc _ _ _))⟩)))
  repeat (go_quiet (first | (go_at_call 39; (with_reducible refine (fbits_Kind.calls a0 t931 _ A3.out).mono ?_); rintro e w' ⟨rfl, ⟨nd, rfl⟩⟩; (try first | exact ⟨rfl, _, World.drewN_drewN _ _ _⟩ | exact ⟨rfl, _, Eq.trans (World.drewN_drewN _ _ _) (congrArg (World.drewN _) (Nat.add_assoc _ _ _))⟩)) | (go_at_call 39; (with_reducible refine (fbits_Kind.calls a1 t932 _ A4.out).mono ?_); rintro e w' ⟨rfl, ⟨nd, rfl⟩⟩; (try first | exact ⟨rfl, _, World.drewN_drewN _ _ _⟩ | exact ⟨rfl, _, Eq.trans (World.drewN_drewN _ _ _) (congrArg (World.drewN _) (Nat.add_assoc _ _ _))⟩)) | (go_at_call 41; (with_reducible refine (fbits_Neg.calls a0 t933 _ A5.out).mono ?_); rintro e w' ⟨rfl, ⟨nd, rfl⟩⟩; (try first | exact ⟨rfl, _, World.drewN_drewN _ _ _⟩ | exact ⟨rfl, _, Eq.trans (World.drewN_drewN _ _ _) (congrArg (World.drewN _) (Nat.add_assoc _ _ _))⟩)) | (go_at_call 41; (with_reducible refine (fbits_Neg.calls a1 t934 _ A6.out).mono ?_); rintro e w' ⟨rfl, ⟨nd, rfl⟩⟩; (try first | exact ⟨rfl, _, World.drewN_drewN _ _ _⟩ | exact ⟨rfl, _, Eq.trans (World.drewN_drewN _ _ _) (congrArg (World.drewN _) (Nat.add_assoc _ _ _))⟩))); go_upto_region 3 with (first | (go_at_call 39; (with_reducible refine (fbits_Kind.calls a0 t931 _ A3.out).mono ?_); rintro e w' ⟨rfl, ⟨nd, rfl⟩⟩; (try first | exact ⟨rfl, _, World.drewN_drewN _ _ _⟩ | exact ⟨rfl, _, Eq.trans (World.drewN_drewN _ _ _) (congrArg (World.drewN _) (Nat.add_assoc _ _ _))⟩)) | (go_at_call 39; (with_reducible refine (fbits_Kind.calls a1 t932 _ A4.out).mono ?_); rintro e w' ⟨rfl, ⟨nd, rfl⟩⟩; (try first | exact ⟨rfl, _, World.drewN_drewN _ _ _⟩ | exact ⟨rfl, _, Eq.trans (World.drewN_drewN _ _ _) (congrArg (World.drewN _) (Nat.add_assoc _ _ _))⟩)) | (go_at_call 41; (with_reducible refine (fbits_Neg.calls a0 t933 _ A5.out).mono ?_); rintro e w' ⟨rfl, ⟨nd, rfl⟩⟩; (try first | exact ⟨rfl, _, World.drewN_drewN _ _ _⟩ | exact ⟨rfl, _, Eq.trans (World.drewN_drewN _ _ _) (congrArg (World.drewN _) (Nat.add_assoc _ _ _))⟩)) | (go_at_call 41; (with_reducible refine (fbits_Neg.calls a1 t934 _ A6.out).mono ?_); rintro e w' ⟨rfl, ⟨nd, rfl⟩⟩; (try first | exact ⟨rfl, _, World.drewN_drewN _ _ _⟩ | exact ⟨rfl, _, Eq.trans (World.drewN_drewN _ _ _) (congrArg (World.drewN _) (Nat.add_assoc _ _ _))⟩))))
  (try simp only [Act.put, List.setIfInBounds_toArray, List.set_cons_zero, List.set_cons_succ])
  go_cut [30] (fun v30 wc => ∃ (kq : Nat) (x30_6 : Bool), v30 = .bool x30_6 ∧ Aside0 (fprod_Div.j0 kq a0 a1 t931 t932 (!(t933 == t934)) x30_6 = some r) ∧ Aside0 (kq ≤ k) ∧ Aside0 (Below w.heap.size w wc))
  case first =>
    have H := HC7.out
    clear HC7
    by_cases c8 : t931 = 4
    · rw [if_pos c8] at H
      have c8b0 : (t931 == 4) = true := beq_iff_eq.mpr c8
      have c8b1 : (t931 != 4) = false := bne_eq_false_iff_eq.mpr c8
      clear c8
      (first | rw [c8b0] | (simp only [i64_w, i32_w]; rw [c8b0]) | rw [c8b1] | skip)
      have H' := Aside0.mk H
      clear H
      go_wp2
      repeat (go_quiet (fail); try go_wp2)
      go_meet
      case rel => exact ⟨_, (true), (by first | rfl | (simp; done) | (simp [*]; done)), H', ⟨by first | omega | exact Nat.le_refl _⟩, ⟨by repeat (first | (with_reducible first | exact HB.out | apply below_alloc | apply pw_below_drewN | apply below_drew1) | exact HB.out)⟩⟩
    · rw [if_neg c8] at H
      have c8b0 : (t931 == 4) = false := beq_eq_false_iff_ne.mpr c8
      have c8b1 : (t931 != 4) = true := bne_iff_ne.mpr c8
      (first | rw [c8b0] | (simp only [i64_w, i32_w]; rw [c8b0]) | rw [c8b1] | skip)
      by_cases c9 : t932 = 4
      · rw [if_pos c9] at H
        have c9b0 : (t932 == 4) = true := beq_iff_eq.mpr c9
        have c9b1 : (t932 != 4) = false := bne_eq_false_iff_eq.mpr c9
        clear c9
        have H' := Aside0.mk H
        clear H
        go_wp2
        repeat (go_quiet (fail); try go_wp2)
        go_meet
        case rel => exact ⟨_, (true), (by first | rfl | (simp; done) | (simp [*]; done)), H', ⟨by first | omega | exact Nat.le_refl _⟩, ⟨by repeat (first | (with_reducible first | exact HB.out | apply below_alloc | apply pw_below_drewN | apply below_drew1) | exact HB.out)⟩⟩
      · rw [if_neg c9] at H
        have c9b0 : (t932 == 4) = false := beq_eq_false_iff_ne.mpr c9
        have c9b1 : (t932 != 4) = true := bne_iff_ne.mpr c9
        by_cases c10 : t931 = t932
        · rw [if_pos c10] at H
          have c10b0 : (t931 == t932) = true := beq_iff_eq.mpr c10
          have c10b1 : (t931 != t932) = false := bne_eq_false_iff_eq.mpr c10
          clear c10
          by_cases c11 : t931 = 3
          · rw [if_pos c11] at H
            have c11b0 : (t931 == 3) = true := beq_iff_eq.mpr c11
            have c11b1 : (t931 != 3) = false := bne_eq_false_iff_eq.mpr c11
            clear c11
            have H' := Aside0.mk H
            clear H
            go_wp2
            repeat (go_quiet (fail); try go_wp2)
            go_meet
            case rel => exact ⟨_, (true), (by first | rfl | (simp; done) | (simp [*]; done)), H', ⟨by first | omega | exact Nat.le_refl _⟩, ⟨by repeat (first | (with_reducible first | exact HB.out | apply below_alloc | apply pw_below_drewN | apply below_drew1) | exact HB.out)⟩⟩
          · rw [if_neg c11] at H
            have c11b0 : (t931 == 3) = false := beq_eq_false_iff_ne.mpr c11
            have c11b1 : (t931 != 3) = true := bne_iff_ne.mpr c11
            have H' := Aside0.mk H
            clear H
            go_wp2
            repeat (go_quiet (fail); try go_wp2)
            go_meet
            case rel => exact ⟨_, ((t931 == 0)), (by first | rfl | (simp; done) | (simp [*]; done)), H', ⟨by first | omega | exact Nat.le_refl _⟩, ⟨by repeat (first | (with_reducible first | exact HB.out | apply below_alloc | apply pw_below_drewN | apply below_drew1) | exact HB.out)⟩⟩
        · rw [if_neg c10] at H
          have c10b0 : (t931 == t932) = false := beq_eq_false_iff_ne.mpr c10
          have c10b1 : (t931 != t932) = true := bne_iff_ne.mpr c10
          have H' := Aside0.mk H
          clear H
          go_wp2
          repeat (go_quiet (fail); try go_wp2)
          go_meet
          case rel => exact ⟨_, (false), (by first | rfl | (simp; done) | (simp [*]; done)), H', ⟨by first | omega | exact Nat.le_refl _⟩, ⟨by repeat (first | (with_reducible first | exact HB.out | apply below_alloc | apply pw_below_drewN | apply below_drew1) | exact HB.out)⟩⟩
  case rest =>
    clear HC7
    try clear c1
    try clear p2
    try clear c6
    try clear c8
    try clear c8b0
    try clear c8b1
    try clear c9
    try clear c9b0
    try clear c9b1
    try clear c10
    try clear c10b0
    try clear c10b1
    try clear c11
    try clear c11b0
    try clear c11b1
    obtain ⟨kq, x30_6, rfl, HA, HJ6, HB⟩ := hcut
    cases kq with
    | zero => exact absurd HA.out (by simp [fprod_Div.j0])
    | succ kj6 =>
      have H := HA.out
      clear HA
      simp only [fprod_Div.j0] at H
      by_cases c12 : x30_6 = true
      · subst c12
        have H1 : ((fbits_Nan.f).bind fun t935 => (some t935)) = some r := by rw [if_pos rfl] at H; exact H
        clear H
        have H := H1
        clear H1
        replace H := Option.bind_eq_some_iff.mp H
        obtain ⟨t935, A130, H⟩ := H
        replace H : (some t935) = some r := H
        have A13 := Aside0.mk A130
        clear A130
        obtain rfl := Option.some.inj H
        go_wp2_with (first | (go_at_call 32; (with_reducible refine (fbits_Nan.calls  t935 _ A13.out).mono ?_); rintro e w' ⟨rfl, ⟨nd, rfl⟩⟩; (try first | exact ⟨rfl, _, World.drewN_drewN _ _ _⟩ | exact ⟨rfl, _, Eq.trans (World.drewN_drewN _ _ _) (congrArg (World.drewN _) (Nat.add_assoc _ _ _))⟩)))
        repeat (go_quiet (first | (go_at_call 32; (with_reducible refine (fbits_Nan.calls  t935 _ A13.out).mono ?_); rintro e w' ⟨rfl, ⟨nd, rfl⟩⟩; (try first | exact ⟨rfl, _, World.drewN_drewN _ _ _⟩ | exact ⟨rfl, _, Eq.trans (World.drewN_drewN _ _ _) (congrArg (World.drewN _) (Nat.add_assoc _ _ _))⟩))); try go_wp2_with (first | (go_at_call 32; (with_reducible refine (fbits_Nan.calls  t935 _ A13.out).mono ?_); rintro e w' ⟨rfl, ⟨nd, rfl⟩⟩; (try first | exact ⟨rfl, _, World.drewN_drewN _ _ _⟩ | exact ⟨rfl, _, Eq.trans (World.drewN_drewN _ _ _) (congrArg (World.drewN _) (Nat.add_assoc _ _ _))⟩))))
        go_ret
        exact ⟨by first | rfl | (simp [errW_none, errW_some] <;> rfl) | (simp [*, errW_none, errW_some] <;> rfl), by repeat (first | (with_reducible first | exact HB.out | apply below_alloc | apply pw_below_drewN | apply below_drew1) | exact HB.out)⟩
      · replace c12 := Bool.eq_false_iff.mpr c12
        subst c12
        have H1 : (if t931 = 3 then (fprod_Div.j1 kj6 a0 a1 t931 t932 (!(t933 == t934)) true) else (fprod_Div.j1 kj6 a0 a1 t931 t932 (!(t933 == t934)) (t932 == 0))) = some r := by rw [if_neg (show ¬ (false = true) by decide)] at H; exact H
        clear H
        have H := H1
        clear H1
        have HC14 := Aside0.mk H
        clear H
        go_upto_region 5 with (fail)
        repeat (go_quiet (fail); go_upto_region 5 with (fail))
        go_cut [51] (fun v51 wc => ∃ (kq : Nat) (x51_13 : Bool), v51 = .bool x51_13 ∧ Aside0 (fprod_Div.j1 kq a0 a1 t931 t932 (!(t933 == t934)) x51_13 = some r) ∧ Aside0 (kq ≤ kj6) ∧ Aside0 (Below w.heap.size w wc))
        case first =>
          have H := HC14.out
          clear HC14
          by_cases c15 : t931 = 3
          · rw [if_pos c15] at H
            have c15b0 : (t931 == 3) = true := beq_iff_eq.mpr c15
            have c15b1 : (t931 != 3) = false := bne_eq_false_iff_eq.mpr c15
            clear c15
            (first | rw [c15b0] | (simp only [i64_w, i32_w]; rw [c15b0]) | rw [c15b1] | skip)
            have H' := Aside0.mk H
            clear H
            go_wp2
            repeat (go_quiet (fail); try go_wp2)
            go_meet
            case rel => exact ⟨_, (true), (by first | rfl | (simp; done) | (simp [*]; done)), H', ⟨by have := HJ6.out; first | omega | exact Nat.le_refl _⟩, ⟨by repeat (first | (with_reducible first | exact HB.out | apply below_alloc | apply pw_below_drewN | apply below_drew1) | exact HB.out)⟩⟩
          · rw [if_neg c15] at H
            have c15b0 : (t931 == 3) = false := beq_eq_false_iff_ne.mpr c15
            have c15b1 : (t931 != 3) = true := bne_iff_ne.mpr c15
            (first | rw [c15b0] | (simp only [i64_w, i32_w]; rw [c15b0]) | rw [c15b1] | skip)
            have H' := Aside0.mk H
            clear H
            go_wp2
            repeat (go_quiet (fail); try go_wp2)
            go_meet
            case rel => exact ⟨_, ((t932 == 0)), (by first | rfl | (simp; done) | (simp [*]; done)), H', ⟨by have := HJ6.out; first | omega | exact Nat.le_refl _⟩, ⟨by repeat (first | (with_reducible first | exact HB.out | apply below_alloc | apply pw_below_drewN | apply below_drew1) | exact HB.out)⟩⟩
        case rest =>
          clear HC14
          try clear c1
          try clear p2
          try clear c6
          try clear c8
          try clear c8b0
          try clear c8b1
          try clear c9
          try clear c9b0
          try clear c9b1
          try clear c10
          try clear c10b0
          try clear c10b1
          try clear c11
          try clear c11b0
          try clear c11b1
          try clear c12
          try clear c15
          try clear c15b0
          try clear c15b1
          try clear p2
          obtain ⟨kq, x51_13, rfl, HA, HJ13, HB⟩ := hcut
          cases kq with
          | zero => exact absurd HA.out (by simp [fprod_Div.j1])
          | succ kj13 =>
            have H := HA.out
            clear HA
            simp only [fprod_Div.j1] at H
            by_cases c16 : x51_13 = true
            · subst c16
              have H1 : ((fbits_Inf.f (!(t933 == t934))).bind fun t936 => (some t936)) = some r := by rw [if_pos rfl] at H; exact H
              clear H
              have H := H1
              clear H1
              replace H := Option.bind_eq_some_iff.mp H
              obtain ⟨t936, A170, H⟩ := H
              replace H : (some t936) = some r := H
              have A17 := Aside0.mk A170
              clear A170
              obtain rfl := Option.some.inj H
              go_wp2_with (first | (go_at_call 34; (with_reducible refine (fbits_Inf.calls (!(t933 == t934)) t936 _ A17.out).mono ?_); rintro e w' ⟨rfl, ⟨nd, rfl⟩⟩; (try first | exact ⟨rfl, _, World.drewN_drewN _ _ _⟩ | exact ⟨rfl, _, Eq.trans (World.drewN_drewN _ _ _) (congrArg (World.drewN _) (Nat.add_assoc _ _ _))⟩)))
              repeat (go_quiet (first | (go_at_call 34; (with_reducible refine (fbits_Inf.calls (!(t933 == t934)) t936 _ A17.out).mono ?_); rintro e w' ⟨rfl, ⟨nd, rfl⟩⟩; (try first | exact ⟨rfl, _, World.drewN_drewN _ _ _⟩ | exact ⟨rfl, _, Eq.trans (World.drewN_drewN _ _ _) (congrArg (World.drewN _) (Nat.add_assoc _ _ _))⟩))); try go_wp2_with (first | (go_at_call 34; (with_reducible refine (fbits_Inf.calls (!(t933 == t934)) t936 _ A17.out).mono ?_); rintro e w' ⟨rfl, ⟨nd, rfl⟩⟩; (try first | exact ⟨rfl, _, World.drewN_drewN _ _ _⟩ | exact ⟨rfl, _, Eq.trans (World.drewN_drewN _ _ _) (congrArg (World.drewN _) (Nat.add_assoc _ _ _))⟩))))
              go_ret
              exact ⟨by first | rfl | (simp [errW_none, errW_some] <;> rfl) | (simp [*, errW_none, errW_some] <;> rfl), by repeat (first | (with_reducible first | exact HB.out | apply below_alloc | apply pw_below_drewN | apply below_drew1) | exact HB.out)⟩
            · replace c16 := Bool.eq_false_iff.mpr c16
              subst c16
              have H1 : (if t931 = 0 then ((fprod_signed.f kj13 (!(t933 == t934))).bind fun t937 => (some t937)) else (if t932 = 3 then ((fprod_signed.f kj13 (!(t933 == t934))).bind fun t938 => (some t938)) else ((fbits_Parts.f kj13 a0).bind fun bt939 => ((fbits_Parts.f kj13 a1).bind fun bt943 => ((limb_Len.f kj13 bt939.2.1).bind fun t947 => ((limb_Len.f kj13 bt943.2.1).bind fun t948 => (if 0 ≤ (wrap64 (63 - t947)) then (if 0 ≤ (wrap64 (64 - t948)) then ((limb_Div.f kj13 (shl .u64 bt939.2.1 (wrap64 (63 - t947))) 0 (shl .u64 bt943.2.1 (wrap64 (64 - t948)))).bind fun bt949 => (if bt949.2.1 = 0 then ((fround_Word.f kj13 (!(t933 == t934)) bt949.1 (wrap64 ((wrap64 ((wrap64 ((wrap64 (bt939.2.2.1 - (wrap64 (63 - t947)))) - bt943.2.2.1)) + (wrap64 (64 - t948)))) - 64))).bind fun t952 => (some t952)) else ((fround_Word.f kj13 (!(t933 == t934)) (Go.bits .or .u64 bt949.1 1) (wrap64 ((wrap64 ((wrap64 ((wrap64 (bt939.2.2.1 - (wrap64 (63 - t947)))) - bt943.2.2.1)) + (wrap64 (64 - t948)))) - 64))).bind fun t953 => (some t953)))) else (none)) else (none)))))))) = some r := by rw [if_neg (show ¬ (false = true) by decide)] at H; exact H
              clear H
              have H := H1
              clear H1
              by_cases c18 : t931 = 0
              · rw [if_pos c18] at H
                have c18b0 : (t931 == 0) = true := beq_iff_eq.mpr c18
                have c18b1 : (t931 != 0) = false := bne_eq_false_iff_eq.mpr c18
                clear c18
                replace H := Option.bind_eq_some_iff.mp H
                obtain ⟨t937, A190, H⟩ := H
                replace H : (some t937) = some r := H
                have A19 := Aside0.mk A190
                clear A190
                obtain rfl := Option.some.inj H
                go_wp2_with (first | (go_at_call 121; (with_reducible refine (fprod_signed.calls kj13 (!(t933 == t934)) t937 _ A19.out).mono ?_); rintro e w20 ⟨rfl, hb⟩; have n0_ := Aside0.mk (below_step (by repeat (first | (with_reducible first | exact HB.out | apply below_alloc | apply pw_below_drewN | apply below_drew1) | exact HB.out)) hb); clear HB; have HB := n0_; clear n0_; (try clear hb); (try clear hb2); (try clear hk); (try clear hi)))
                repeat (go_quiet (first | (go_at_call 121; (with_reducible refine (fprod_signed.calls kj13 (!(t933 == t934)) t937 _ A19.out).mono ?_); rintro e w20 ⟨rfl, hb⟩; have n0_ := Aside0.mk (below_step (by repeat (first | (with_reducible first | exact HB.out | apply below_alloc | apply pw_below_drewN | apply below_drew1) | exact HB.out)) hb); clear HB; have HB := n0_; clear n0_; (try clear hb); (try clear hb2); (try clear hk); (try clear hi))); try go_wp2_with (first | (go_at_call 121; (with_reducible refine (fprod_signed.calls kj13 (!(t933 == t934)) t937 _ A19.out).mono ?_); rintro e w20 ⟨rfl, hb⟩; have n0_ := Aside0.mk (below_step (by repeat (first | (with_reducible first | exact HB.out | apply below_alloc | apply pw_below_drewN | apply below_drew1) | exact HB.out)) hb); clear HB; have HB := n0_; clear n0_; (try clear hb); (try clear hb2); (try clear hk); (try clear hi))))
                go_ret
                exact ⟨by first | rfl | (simp [errW_none, errW_some] <;> rfl) | (simp [*, errW_none, errW_some] <;> rfl), by repeat (first | (with_reducible first | exact HB.out | apply below_alloc | apply pw_below_drewN | apply below_drew1) | exact HB.out)⟩
              · rw [if_neg c18] at H
                have c18b0 : (t931 == 0) = false := beq_eq_false_iff_ne.mpr c18
                have c18b1 : (t931 != 0) = true := bne_iff_ne.mpr c18
                by_cases c21 : t932 = 3
                · rw [if_pos c21] at H
                  have c21b0 : (t932 == 3) = true := beq_iff_eq.mpr c21
                  have c21b1 : (t932 != 3) = false := bne_eq_false_iff_eq.mpr c21
                  clear c21
                  replace H := Option.bind_eq_some_iff.mp H
                  obtain ⟨t938, A220, H⟩ := H
                  replace H : (some t938) = some r := H
                  have A22 := Aside0.mk A220
                  clear A220
                  obtain rfl := Option.some.inj H
                  go_wp2_with (first | (go_at_call 121; (with_reducible refine (fprod_signed.calls kj13 (!(t933 == t934)) t938 _ A22.out).mono ?_); rintro e w23 ⟨rfl, hb⟩; have n0_ := Aside0.mk (below_step (by repeat (first | (with_reducible first | exact HB.out | apply below_alloc | apply pw_below_drewN | apply below_drew1) | exact HB.out)) hb); clear HB; have HB := n0_; clear n0_; (try clear hb); (try clear hb2); (try clear hk); (try clear hi)))
                  repeat (go_quiet (first | (go_at_call 121; (with_reducible refine (fprod_signed.calls kj13 (!(t933 == t934)) t938 _ A22.out).mono ?_); rintro e w23 ⟨rfl, hb⟩; have n0_ := Aside0.mk (below_step (by repeat (first | (with_reducible first | exact HB.out | apply below_alloc | apply pw_below_drewN | apply below_drew1) | exact HB.out)) hb); clear HB; have HB := n0_; clear n0_; (try clear hb); (try clear hb2); (try clear hk); (try clear hi))); try go_wp2_with (first | (go_at_call 121; (with_reducible refine (fprod_signed.calls kj13 (!(t933 == t934)) t938 _ A22.out).mono ?_); rintro e w23 ⟨rfl, hb⟩; have n0_ := Aside0.mk (below_step (by repeat (first | (with_reducible first | exact HB.out | apply below_alloc | apply pw_below_drewN | apply below_drew1) | exact HB.out)) hb); clear HB; have HB := n0_; clear n0_; (try clear hb); (try clear hb2); (try clear hk); (try clear hi))))
                  go_ret
                  exact ⟨by first | rfl | (simp [errW_none, errW_some] <;> rfl) | (simp [*, errW_none, errW_some] <;> rfl), by repeat (first | (with_reducible first | exact HB.out | apply below_alloc | apply pw_below_drewN | apply below_drew1) | exact HB.out)⟩
                · rw [if_neg c21] at H
                  have c21b0 : (t932 == 3) = false := beq_eq_false_iff_ne.mpr c21
                  have c21b1 : (t932 != 3) = true := bne_iff_ne.mpr c21
                  replace H := Option.bind_eq_some_iff.mp H
                  obtain ⟨⟨t939, t940, t941, t942⟩, A240, H⟩ := H
                  replace H : ((fbits_Parts.f kj13 a1).bind fun bt943 => ((limb_Len.f kj13 t940).bind fun t947 => ((limb_Len.f kj13 bt943.2.1).bind fun t948 => (if 0 ≤ (wrap64 (63 - t947)) then (if 0 ≤ (wrap64 (64 - t948)) then ((limb_Div.f kj13 (shl .u64 t940 (wrap64 (63 - t947))) 0 (shl .u64 bt943.2.1 (wrap64 (64 - t948)))).bind fun bt949 => (if bt949.2.1 = 0 then ((fround_Word.f kj13 (!(t933 == t934)) bt949.1 (wrap64 ((wrap64 ((wrap64 ((wrap64 (t941 - (wrap64 (63 - t947)))) - bt943.2.2.1)) + (wrap64 (64 - t948)))) - 64))).bind fun t952 => (some t952)) else ((fround_Word.f kj13 (!(t933 == t934)) (Go.bits .or .u64 bt949.1 1) (wrap64 ((wrap64 ((wrap64 ((wrap64 (t941 - (wrap64 (63 - t947)))) - bt943.2.2.1)) + (wrap64 (64 - t948)))) - 64))).bind fun t953 => (some t953)))) else (none)) else (none))))) = some r := H
                  have A24 := Aside0.mk A240
                  clear A240
                  replace H := Option.bind_eq_some_iff.mp H
                  obtain ⟨⟨t943, t944, t945, t946⟩, A250, H⟩ := H
                  replace H : ((limb_Len.f kj13 t940).bind fun t947 => ((limb_Len.f kj13 t944).bind fun t948 => (if 0 ≤ (wrap64 (63 - t947)) then (if 0 ≤ (wrap64 (64 - t948)) then ((limb_Div.f kj13 (shl .u64 t940 (wrap64 (63 - t947))) 0 (shl .u64 t944 (wrap64 (64 - t948)))).bind fun bt949 => (if bt949.2.1 = 0 then ((fround_Word.f kj13 (!(t933 == t934)) bt949.1 (wrap64 ((wrap64 ((wrap64 ((wrap64 (t941 - (wrap64 (63 - t947)))) - t945)) + (wrap64 (64 - t948)))) - 64))).bind fun t952 => (some t952)) else ((fround_Word.f kj13 (!(t933 == t934)) (Go.bits .or .u64 bt949.1 1) (wrap64 ((wrap64 ((wrap64 ((wrap64 (t941 - (wrap64 (63 - t947)))) - t945)) + (wrap64 (64 - t948)))) - 64))).bind fun t953 => (some t953)))) else (none)) else (none)))) = some r := H
                  have A25 := Aside0.mk A250
                  clear A250
                  replace H := Option.bind_eq_some_iff.mp H
                  obtain ⟨t947, A260, H⟩ := H
                  replace H : ((limb_Len.f kj13 t944).bind fun t948 => (if 0 ≤ (wrap64 (63 - t947)) then (if 0 ≤ (wrap64 (64 - t948)) then ((limb_Div.f kj13 (shl .u64 t940 (wrap64 (63 - t947))) 0 (shl .u64 t944 (wrap64 (64 - t948)))).bind fun bt949 => (if bt949.2.1 = 0 then ((fround_Word.f kj13 (!(t933 == t934)) bt949.1 (wrap64 ((wrap64 ((wrap64 ((wrap64 (t941 - (wrap64 (63 - t947)))) - t945)) + (wrap64 (64 - t948)))) - 64))).bind fun t952 => (some t952)) else ((fround_Word.f kj13 (!(t933 == t934)) (Go.bits .or .u64 bt949.1 1) (wrap64 ((wrap64 ((wrap64 ((wrap64 (t941 - (wrap64 (63 - t947)))) - t945)) + (wrap64 (64 - t948)))) - 64))).bind fun t953 => (some t953)))) else (none)) else (none))) = some r := H
                  have A26 := Aside0.mk A260
                  clear A260
                  replace H := Option.bind_eq_some_iff.mp H
                  obtain ⟨t948, A270, H⟩ := H
                  replace H : (if 0 ≤ (wrap64 (63 - t947)) then (if 0 ≤ (wrap64 (64 - t948)) then ((limb_Div.f kj13 (shl .u64 t940 (wrap64 (63 - t947))) 0 (shl .u64 t944 (wrap64 (64 - t948)))).bind fun bt949 => (if bt949.2.1 = 0 then ((fround_Word.f kj13 (!(t933 == t934)) bt949.1 (wrap64 ((wrap64 ((wrap64 ((wrap64 (t941 - (wrap64 (63 - t947)))) - t945)) + (wrap64 (64 - t948)))) - 64))).bind fun t952 => (some t952)) else ((fround_Word.f kj13 (!(t933 == t934)) (Go.bits .or .u64 bt949.1 1) (wrap64 ((wrap64 ((wrap64 ((wrap64 (t941 - (wrap64 (63 - t947)))) - t945)) + (wrap64 (64 - t948)))) - 64))).bind fun t953 => (some t953)))) else (none)) else (none)) = some r := H
                  have A27 := Aside0.mk A270
                  clear A270
                  obtain ⟨ji28, hji28⟩ : ∃ j_ : Int, (wrap64 (63 - t947)) = j_ := ⟨_, rfl⟩
                  replace H : (if 0 ≤ (ji28) then (if 0 ≤ (wrap64 (64 - t948)) then ((limb_Div.f kj13 (shl .u64 t940 (ji28)) 0 (shl .u64 t944 (wrap64 (64 - t948)))).bind fun bt949 => (if bt949.2.1 = 0 then ((fround_Word.f kj13 (!(t933 == t934)) bt949.1 (wrap64 ((wrap64 ((wrap64 ((wrap64 (t941 - (ji28))) - t945)) + (wrap64 (64 - t948)))) - 64))).bind fun t952 => (some t952)) else ((fround_Word.f kj13 (!(t933 == t934)) (Go.bits .or .u64 bt949.1 1) (wrap64 ((wrap64 ((wrap64 ((wrap64 (t941 - (ji28))) - t945)) + (wrap64 (64 - t948)))) - 64))).bind fun t953 => (some t953)))) else (none)) else (none)) = some r := by first | (rw [hji28] at H; exact H) | (simp only [hji28] at H ⊢; exact H)
                  (try rw [hji28] at A24)
                  (try rw [hji28] at A25)
                  (try rw [hji28] at A26)
                  (try rw [hji28] at A27)
                  have hji28w : (IntKind.i64.wrap (63 - t947)) = ji28 := (i64_w _).trans hji28
                  by_cases c29 : 0 ≤ (ji28)
                  · rw [if_pos c29] at H
                    have c29b0 := eq_true c29
                    have c29b1 : decide (0 ≤ (ji28)) = true := decide_eq_true c29
                    clear c29
                    obtain ⟨ji30, hji30⟩ : ∃ j_ : Int, (shl .u64 t940 (ji28)) = j_ := ⟨_, rfl⟩
                    replace H : (if 0 ≤ (wrap64 (64 - t948)) then ((limb_Div.f kj13 (ji30) 0 (shl .u64 t944 (wrap64 (64 - t948)))).bind fun bt949 => (if bt949.2.1 = 0 then ((fround_Word.f kj13 (!(t933 == t934)) bt949.1 (wrap64 ((wrap64 ((wrap64 ((wrap64 (t941 - (ji28))) - t945)) + (wrap64 (64 - t948)))) - 64))).bind fun t952 => (some t952)) else ((fround_Word.f kj13 (!(t933 == t934)) (Go.bits .or .u64 bt949.1 1) (wrap64 ((wrap64 ((wrap64 ((wrap64 (t941 - (ji28))) - t945)) + (wrap64 (64 - t948)))) - 64))).bind fun t953 => (some t953)))) else (none)) = some r := by first | (rw [hji30] at H; exact H) | (simp only [hji30] at H ⊢; exact H)
                    (try rw [hji30] at A24)
                    (try rw [hji30] at A25)
                    (try rw [hji30] at A26)
                    (try rw [hji30] at A27)
                    have hji30_ : (IntKind.u64.wrap (t940 * 2 ^ min (ji28).toNat 64)) = ji30 := hji30
                    have hji30z : (ji28) ≤ 64 → (IntKind.u64.wrap (t940 * 2 ^ (ji28).toNat)) = ji30 := shl_small hji30
                    obtain ⟨ji31, hji31⟩ : ∃ j_ : Int, (wrap64 (64 - t948)) = j_ := ⟨_, rfl⟩
                    replace H : (if 0 ≤ (ji31) then ((limb_Div.f kj13 (ji30) 0 (shl .u64 t944 (ji31))).bind fun bt949 => (if bt949.2.1 = 0 then ((fround_Word.f kj13 (!(t933 == t934)) bt949.1 (wrap64 ((wrap64 ((wrap64 ((wrap64 (t941 - (ji28))) - t945)) + (ji31))) - 64))).bind fun t952 => (some t952)) else ((fround_Word.f kj13 (!(t933 == t934)) (Go.bits .or .u64 bt949.1 1) (wrap64 ((wrap64 ((wrap64 ((wrap64 (t941 - (ji28))) - t945)) + (ji31))) - 64))).bind fun t953 => (some t953)))) else (none)) = some r := by first | (rw [hji31] at H; exact H) | (simp only [hji31] at H ⊢; exact H)
                    (try rw [hji31] at A24)
                    (try rw [hji31] at A25)
                    (try rw [hji31] at A26)
                    (try rw [hji31] at A27)
                    have hji31w : (IntKind.i64.wrap (64 - t948)) = ji31 := (i64_w _).trans hji31
                    by_cases c32 : 0 ≤ (ji31)
                    · rw [if_pos c32] at H
                      have c32b0 := eq_true c32
                      have c32b1 : decide (0 ≤ (ji31)) = true := decide_eq_true c32
                      clear c32
                      obtain ⟨ji33, hji33⟩ : ∃ j_ : Int, (shl .u64 t944 (ji31)) = j_ := ⟨_, rfl⟩
                      replace H : ((limb_Div.f kj13 (ji30) 0 (ji33)).bind fun bt949 => (if bt949.2.1 = 0 then ((fround_Word.f kj13 (!(t933 == t934)) bt949.1 (wrap64 ((wrap64 ((wrap64 ((wrap64 (t941 - (ji28))) - t945)) + (ji31))) - 64))).bind fun t952 => (some t952)) else ((fround_Word.f kj13 (!(t933 == t934)) (Go.bits .or .u64 bt949.1 1) (wrap64 ((wrap64 ((wrap64 ((wrap64 (t941 - (ji28))) - t945)) + (ji31))) - 64))).bind fun t953 => (some t953)))) = some r := by first | (rw [hji33] at H; exact H) | (simp only [hji33] at H ⊢; exact H)
                      (try rw [hji33] at A24)
                      (try rw [hji33] at A25)
                      (try rw [hji33] at A26)
                      (try rw [hji33] at A27)
                      have hji33_ : (IntKind.u64.wrap (t944 * 2 ^ min (ji31).toNat 64)) = ji33 := hji33
                      have hji33z : (ji31) ≤ 64 → (IntKind.u64.wrap (t944 * 2 ^ (ji31).toNat)) = ji33 := shl_small hji33
                      replace H := Option.bind_eq_some_iff.mp H
                      obtain ⟨⟨t949, t950, t951⟩, A340, H⟩ := H
                      replace H : (if t950 = 0 then ((fround_Word.f kj13 (!(t933 == t934)) t949 (wrap64 ((wrap64 ((wrap64 ((wrap64 (t941 - (ji28))) - t945)) + (ji31))) - 64))).bind fun t952 => (some t952)) else ((fround_Word.f kj13 (!(t933 == t934)) (Go.bits .or .u64 t949 1) (wrap64 ((wrap64 ((wrap64 ((wrap64 (t941 - (ji28))) - t945)) + (ji31))) - 64))).bind fun t953 => (some t953))) = some r := H
                      have A34 := Aside0.mk A340
                      clear A340
                      by_cases c35 : t950 = 0
                      · rw [if_pos c35] at H
                        have c35b0 : (t950 == 0) = true := beq_iff_eq.mpr c35
                        have c35b1 : (t950 != 0) = false := bne_eq_false_iff_eq.mpr c35
                        clear c35
                        replace H := Option.bind_eq_some_iff.mp H
                        obtain ⟨t952, A360, H⟩ := H
                        replace H : (some t952) = some r := H
                        have A36 := Aside0.mk A360
                        clear A360
                        obtain rfl := Option.some.inj H
                        go_wp2_with (first | (go_at_call 24; (with_reducible refine (fbits_Parts.calls kj13 a0 t939 t940 t941 t942 _ A24.out).mono ?_); rintro e w' ⟨rfl, ⟨nd, rfl⟩⟩; (try first | exact ⟨rfl, _, World.drewN_drewN _ _ _⟩ | exact ⟨rfl, _, Eq.trans (World.drewN_drewN _ _ _) (congrArg (World.drewN _) (Nat.add_assoc _ _ _))⟩)) | (go_at_call 24; (with_reducible refine (fbits_Parts.calls kj13 a1 t943 t944 t945 t946 _ A25.out).mono ?_); rintro e w' ⟨rfl, ⟨nd, rfl⟩⟩; (try first | exact ⟨rfl, _, World.drewN_drewN _ _ _⟩ | exact ⟨rfl, _, Eq.trans (World.drewN_drewN _ _ _) (congrArg (World.drewN _) (Nat.add_assoc _ _ _))⟩)) | (go_at_call 87; (with_reducible refine (limb_Len.calls kj13 t940 t947 _ A26.out).mono ?_); rintro e w' ⟨rfl, ⟨nd, rfl⟩⟩; (try first | exact ⟨rfl, _, World.drewN_drewN _ _ _⟩ | exact ⟨rfl, _, Eq.trans (World.drewN_drewN _ _ _) (congrArg (World.drewN _) (Nat.add_assoc _ _ _))⟩)) | (go_at_call 87; (with_reducible refine (limb_Len.calls kj13 t944 t948 _ A27.out).mono ?_); rintro e w' ⟨rfl, ⟨nd, rfl⟩⟩; (try first | exact ⟨rfl, _, World.drewN_drewN _ _ _⟩ | exact ⟨rfl, _, Eq.trans (World.drewN_drewN _ _ _) (congrArg (World.drewN _) (Nat.add_assoc _ _ _))⟩)) | (go_at_call 122; (with_reducible refine (limb_Div.calls kj13 ji30 0 ji33 t949 t950 t951 _ A34.out).mono ?_); rintro e w' ⟨rfl, ⟨nd, rfl⟩⟩; (try first | exact ⟨rfl, _, World.drewN_drewN _ _ _⟩ | exact ⟨rfl, _, Eq.trans (World.drewN_drewN _ _ _) (congrArg (World.drewN _) (Nat.add_assoc _ _ _))⟩)) | (go_at_call 36; (with_reducible refine (fround_Word.calls kj13 (!(t933 == t934)) t949 (wrap64 ((wrap64 ((wrap64 ((wrap64 (t941 - (ji28))) - t945)) + (ji31))) - 64)) t952 _ A36.out).mono ?_); rintro e w37 ⟨rfl, hb⟩; have n0_ := Aside0.mk (below_step (by repeat (first | (with_reducible first | exact HB.out | apply below_alloc | apply pw_below_drewN | apply below_drew1) | exact HB.out)) hb); clear HB; have HB := n0_; clear n0_; (try clear hb); (try clear hb2); (try clear hk); (try clear hi)))
                        repeat (go_quiet (first | (go_at_call 24; (with_reducible refine (fbits_Parts.calls kj13 a0 t939 t940 t941 t942 _ A24.out).mono ?_); rintro e w' ⟨rfl, ⟨nd, rfl⟩⟩; (try first | exact ⟨rfl, _, World.drewN_drewN _ _ _⟩ | exact ⟨rfl, _, Eq.trans (World.drewN_drewN _ _ _) (congrArg (World.drewN _) (Nat.add_assoc _ _ _))⟩)) | (go_at_call 24; (with_reducible refine (fbits_Parts.calls kj13 a1 t943 t944 t945 t946 _ A25.out).mono ?_); rintro e w' ⟨rfl, ⟨nd, rfl⟩⟩; (try first | exact ⟨rfl, _, World.drewN_drewN _ _ _⟩ | exact ⟨rfl, _, Eq.trans (World.drewN_drewN _ _ _) (congrArg (World.drewN _) (Nat.add_assoc _ _ _))⟩)) | (go_at_call 87; (with_reducible refine (limb_Len.calls kj13 t940 t947 _ A26.out).mono ?_); rintro e w' ⟨rfl, ⟨nd, rfl⟩⟩; (try first | exact ⟨rfl, _, World.drewN_drewN _ _ _⟩ | exact ⟨rfl, _, Eq.trans (World.drewN_drewN _ _ _) (congrArg (World.drewN _) (Nat.add_assoc _ _ _))⟩)) | (go_at_call 87; (with_reducible refine (limb_Len.calls kj13 t944 t948 _ A27.out).mono ?_); rintro e w' ⟨rfl, ⟨nd, rfl⟩⟩; (try first | exact ⟨rfl, _, World.drewN_drewN _ _ _⟩ | exact ⟨rfl, _, Eq.trans (World.drewN_drewN _ _ _) (congrArg (World.drewN _) (Nat.add_assoc _ _ _))⟩)) | (go_at_call 122; (with_reducible refine (limb_Div.calls kj13 ji30 0 ji33 t949 t950 t951 _ A34.out).mono ?_); rintro e w' ⟨rfl, ⟨nd, rfl⟩⟩; (try first | exact ⟨rfl, _, World.drewN_drewN _ _ _⟩ | exact ⟨rfl, _, Eq.trans (World.drewN_drewN _ _ _) (congrArg (World.drewN _) (Nat.add_assoc _ _ _))⟩)) | (go_at_call 36; (with_reducible refine (fround_Word.calls kj13 (!(t933 == t934)) t949 (wrap64 ((wrap64 ((wrap64 ((wrap64 (t941 - (ji28))) - t945)) + (ji31))) - 64)) t952 _ A36.out).mono ?_); rintro e w37 ⟨rfl, hb⟩; have n0_ := Aside0.mk (below_step (by repeat (first | (with_reducible first | exact HB.out | apply below_alloc | apply pw_below_drewN | apply below_drew1) | exact HB.out)) hb); clear HB; have HB := n0_; clear n0_; (try clear hb); (try clear hb2); (try clear hk); (try clear hi))); try go_wp2_with (first | (go_at_call 24; (with_reducible refine (fbits_Parts.calls kj13 a0 t939 t940 t941 t942 _ A24.out).mono ?_); rintro e w' ⟨rfl, ⟨nd, rfl⟩⟩; (try first | exact ⟨rfl, _, World.drewN_drewN _ _ _⟩ | exact ⟨rfl, _, Eq.trans (World.drewN_drewN _ _ _) (congrArg (World.drewN _) (Nat.add_assoc _ _ _))⟩)) | (go_at_call 24; (with_reducible refine (fbits_Parts.calls kj13 a1 t943 t944 t945 t946 _ A25.out).mono ?_); rintro e w' ⟨rfl, ⟨nd, rfl⟩⟩; (try first | exact ⟨rfl, _, World.drewN_drewN _ _ _⟩ | exact ⟨rfl, _, Eq.trans (World.drewN_drewN _ _ _) (congrArg (World.drewN _) (Nat.add_assoc _ _ _))⟩)) | (go_at_call 87; (with_reducible refine (limb_Len.calls kj13 t940 t947 _ A26.out).mono ?_); rintro e w' ⟨rfl, ⟨nd, rfl⟩⟩; (try first | exact ⟨rfl, _, World.drewN_drewN _ _ _⟩ | exact ⟨rfl, _, Eq.trans (World.drewN_drewN _ _ _) (congrArg (World.drewN _) (Nat.add_assoc _ _ _))⟩)) | (go_at_call 87; (with_reducible refine (limb_Len.calls kj13 t944 t948 _ A27.out).mono ?_); rintro e w' ⟨rfl, ⟨nd, rfl⟩⟩; (try first | exact ⟨rfl, _, World.drewN_drewN _ _ _⟩ | exact ⟨rfl, _, Eq.trans (World.drewN_drewN _ _ _) (congrArg (World.drewN _) (Nat.add_assoc _ _ _))⟩)) | (go_at_call 122; (with_reducible refine (limb_Div.calls kj13 ji30 0 ji33 t949 t950 t951 _ A34.out).mono ?_); rintro e w' ⟨rfl, ⟨nd, rfl⟩⟩; (try first | exact ⟨rfl, _, World.drewN_drewN _ _ _⟩ | exact ⟨rfl, _, Eq.trans (World.drewN_drewN _ _ _) (congrArg (World.drewN _) (Nat.add_assoc _ _ _))⟩)) | (go_at_call 36; (with_reducible refine (fround_Word.calls kj13 (!(t933 == t934)) t949 (wrap64 ((wrap64 ((wrap64 ((wrap64 (t941 - (ji28))) - t945)) + (ji31))) - 64)) t952 _ A36.out).mono ?_); rintro e w37 ⟨rfl, hb⟩; have n0_ := Aside0.mk (below_step (by repeat (first | (with_reducible first | exact HB.out | apply below_alloc | apply pw_below_drewN | apply below_drew1) | exact HB.out)) hb); clear HB; have HB := n0_; clear n0_; (try clear hb); (try clear hb2); (try clear hk); (try clear hi))))
                        go_ret
                        exact ⟨by first | rfl | (simp [errW_none, errW_some] <;> rfl) | (simp only [← hji28, ← hji30, ← hji31, ← hji33]; first | rfl | (simp [errW_none, errW_some] <;> rfl)) | (simp [*, errW_none, errW_some] <;> rfl), by repeat (first | (with_reducible first | exact HB.out | apply below_alloc | apply pw_below_drewN | apply below_drew1) | exact HB.out)⟩
                      · rw [if_neg c35] at H
                        have c35b0 : (t950 == 0) = false := beq_eq_false_iff_ne.mpr c35
                        have c35b1 : (t950 != 0) = true := bne_iff_ne.mpr c35
                        replace H := Option.bind_eq_some_iff.mp H
                        obtain ⟨t953, A380, H⟩ := H
                        replace H : (some t953) = some r := H
                        have A38 := Aside0.mk A380
                        clear A380
                        obtain rfl := Option.some.inj H
                        go_wp2_with (first | (go_at_call 24; (with_reducible refine (fbits_Parts.calls kj13 a0 t939 t940 t941 t942 _ A24.out).mono ?_); rintro e w' ⟨rfl, ⟨nd, rfl⟩⟩; (try first | exact ⟨rfl, _, World.drewN_drewN _ _ _⟩ | exact ⟨rfl, _, Eq.trans (World.drewN_drewN _ _ _) (congrArg (World.drewN _) (Nat.add_assoc _ _ _))⟩)) | (go_at_call 24; (with_reducible refine (fbits_Parts.calls kj13 a1 t943 t944 t945 t946 _ A25.out).mono ?_); rintro e w' ⟨rfl, ⟨nd, rfl⟩⟩; (try first | exact ⟨rfl, _, World.drewN_drewN _ _ _⟩ | exact ⟨rfl, _, Eq.trans (World.drewN_drewN _ _ _) (congrArg (World.drewN _) (Nat.add_assoc _ _ _))⟩)) | (go_at_call 87; (with_reducible refine (limb_Len.calls kj13 t940 t947 _ A26.out).mono ?_); rintro e w' ⟨rfl, ⟨nd, rfl⟩⟩; (try first | exact ⟨rfl, _, World.drewN_drewN _ _ _⟩ | exact ⟨rfl, _, Eq.trans (World.drewN_drewN _ _ _) (congrArg (World.drewN _) (Nat.add_assoc _ _ _))⟩)) | (go_at_call 87; (with_reducible refine (limb_Len.calls kj13 t944 t948 _ A27.out).mono ?_); rintro e w' ⟨rfl, ⟨nd, rfl⟩⟩; (try first | exact ⟨rfl, _, World.drewN_drewN _ _ _⟩ | exact ⟨rfl, _, Eq.trans (World.drewN_drewN _ _ _) (congrArg (World.drewN _) (Nat.add_assoc _ _ _))⟩)) | (go_at_call 122; (with_reducible refine (limb_Div.calls kj13 ji30 0 ji33 t949 t950 t951 _ A34.out).mono ?_); rintro e w' ⟨rfl, ⟨nd, rfl⟩⟩; (try first | exact ⟨rfl, _, World.drewN_drewN _ _ _⟩ | exact ⟨rfl, _, Eq.trans (World.drewN_drewN _ _ _) (congrArg (World.drewN _) (Nat.add_assoc _ _ _))⟩)) | (go_at_call 36; (with_reducible refine (fround_Word.calls kj13 (!(t933 == t934)) (Go.bits .or .u64 t949 1) (wrap64 ((wrap64 ((wrap64 ((wrap64 (t941 - (ji28))) - t945)) + (ji31))) - 64)) t953 _ A38.out).mono ?_); rintro e w39 ⟨rfl, hb⟩; have n0_ := Aside0.mk (below_step (by repeat (first | (with_reducible first | exact HB.out | apply below_alloc | apply pw_below_drewN | apply below_drew1) | exact HB.out)) hb); clear HB; have HB := n0_; clear n0_; (try clear hb); (try clear hb2); (try clear hk); (try clear hi)))
                        repeat (go_quiet (first | (go_at_call 24; (with_reducible refine (fbits_Parts.calls kj13 a0 t939 t940 t941 t942 _ A24.out).mono ?_); rintro e w' ⟨rfl, ⟨nd, rfl⟩⟩; (try first | exact ⟨rfl, _, World.drewN_drewN _ _ _⟩ | exact ⟨rfl, _, Eq.trans (World.drewN_drewN _ _ _) (congrArg (World.drewN _) (Nat.add_assoc _ _ _))⟩)) | (go_at_call 24; (with_reducible refine (fbits_Parts.calls kj13 a1 t943 t944 t945 t946 _ A25.out).mono ?_); rintro e w' ⟨rfl, ⟨nd, rfl⟩⟩; (try first | exact ⟨rfl, _, World.drewN_drewN _ _ _⟩ | exact ⟨rfl, _, Eq.trans (World.drewN_drewN _ _ _) (congrArg (World.drewN _) (Nat.add_assoc _ _ _))⟩)) | (go_at_call 87; (with_reducible refine (limb_Len.calls kj13 t940 t947 _ A26.out).mono ?_); rintro e w' ⟨rfl, ⟨nd, rfl⟩⟩; (try first | exact ⟨rfl, _, World.drewN_drewN _ _ _⟩ | exact ⟨rfl, _, Eq.trans (World.drewN_drewN _ _ _) (congrArg (World.drewN _) (Nat.add_assoc _ _ _))⟩)) | (go_at_call 87; (with_reducible refine (limb_Len.calls kj13 t944 t948 _ A27.out).mono ?_); rintro e w' ⟨rfl, ⟨nd, rfl⟩⟩; (try first | exact ⟨rfl, _, World.drewN_drewN _ _ _⟩ | exact ⟨rfl, _, Eq.trans (World.drewN_drewN _ _ _) (congrArg (World.drewN _) (Nat.add_assoc _ _ _))⟩)) | (go_at_call 122; (with_reducible refine (limb_Div.calls kj13 ji30 0 ji33 t949 t950 t951 _ A34.out).mono ?_); rintro e w' ⟨rfl, ⟨nd, rfl⟩⟩; (try first | exact ⟨rfl, _, World.drewN_drewN _ _ _⟩ | exact ⟨rfl, _, Eq.trans (World.drewN_drewN _ _ _) (congrArg (World.drewN _) (Nat.add_assoc _ _ _))⟩)) | (go_at_call 36; (with_reducible refine (fround_Word.calls kj13 (!(t933 == t934)) (Go.bits .or .u64 t949 1) (wrap64 ((wrap64 ((wrap64 ((wrap64 (t941 - (ji28))) - t945)) + (ji31))) - 64)) t953 _ A38.out).mono ?_); rintro e w39 ⟨rfl, hb⟩; have n0_ := Aside0.mk (below_step (by repeat (first | (with_reducible first | exact HB.out | apply below_alloc | apply pw_below_drewN | apply below_drew1) | exact HB.out)) hb); clear HB; have HB := n0_; clear n0_; (try clear hb); (try clear hb2); (try clear hk); (try clear hi))); try go_wp2_with (first | (go_at_call 24; (with_reducible refine (fbits_Parts.calls kj13 a0 t939 t940 t941 t942 _ A24.out).mono ?_); rintro e w' ⟨rfl, ⟨nd, rfl⟩⟩; (try first | exact ⟨rfl, _, World.drewN_drewN _ _ _⟩ | exact ⟨rfl, _, Eq.trans (World.drewN_drewN _ _ _) (congrArg (World.drewN _) (Nat.add_assoc _ _ _))⟩)) | (go_at_call 24; (with_reducible refine (fbits_Parts.calls kj13 a1 t943 t944 t945 t946 _ A25.out).mono ?_); rintro e w' ⟨rfl, ⟨nd, rfl⟩⟩; (try first | exact ⟨rfl, _, World.drewN_drewN _ _ _⟩ | exact ⟨rfl, _, Eq.trans (World.drewN_drewN _ _ _) (congrArg (World.drewN _) (Nat.add_assoc _ _ _))⟩)) | (go_at_call 87; (with_reducible refine (limb_Len.calls kj13 t940 t947 _ A26.out).mono ?_); rintro e w' ⟨rfl, ⟨nd, rfl⟩⟩; (try first | exact ⟨rfl, _, World.drewN_drewN _ _ _⟩ | exact ⟨rfl, _, Eq.trans (World.drewN_drewN _ _ _) (congrArg (World.drewN _) (Nat.add_assoc _ _ _))⟩)) | (go_at_call 87; (with_reducible refine (limb_Len.calls kj13 t944 t948 _ A27.out).mono ?_); rintro e w' ⟨rfl, ⟨nd, rfl⟩⟩; (try first | exact ⟨rfl, _, World.drewN_drewN _ _ _⟩ | exact ⟨rfl, _, Eq.trans (World.drewN_drewN _ _ _) (congrArg (World.drewN _) (Nat.add_assoc _ _ _))⟩)) | (go_at_call 122; (with_reducible refine (limb_Div.calls kj13 ji30 0 ji33 t949 t950 t951 _ A34.out).mono ?_); rintro e w' ⟨rfl, ⟨nd, rfl⟩⟩; (try first | exact ⟨rfl, _, World.drewN_drewN _ _ _⟩ | exact ⟨rfl, _, Eq.trans (World.drewN_drewN _ _ _) (congrArg (World.drewN _) (Nat.add_assoc _ _ _))⟩)) | (go_at_call 36; (with_reducible refine (fround_Word.calls kj13 (!(t933 == t934)) (Go.bits .or .u64 t949 1) (wrap64 ((wrap64 ((wrap64 ((wrap64 (t941 - (ji28))) - t945)) + (ji31))) - 64)) t953 _ A38.out).mono ?_); rintro e w39 ⟨rfl, hb⟩; have n0_ := Aside0.mk (below_step (by repeat (first | (with_reducible first | exact HB.out | apply below_alloc | apply pw_below_drewN | apply below_drew1) | exact HB.out)) hb); clear HB; have HB := n0_; clear n0_; (try clear hb); (try clear hb2); (try clear hk); (try clear hi))))
                        go_ret
                        exact ⟨by first | rfl | (simp [errW_none, errW_some] <;> rfl) | (simp only [← hji28, ← hji30, ← hji31, ← hji33]; first | rfl | (simp [errW_none, errW_some] <;> rfl)) | (simp [*, errW_none, errW_some] <;> rfl), by repeat (first | (with_reducible first | exact HB.out | apply below_alloc | apply pw_below_drewN | apply below_drew1) | exact HB.out)⟩
                    · rw [if_neg c32] at H
                      exact absurd H (by simp)
                  · rw [if_neg c29] at H
                    exact absurd H (by simp)

/-! ### fprod_Mul: function 66 -/
mutual
def fprod_Mul.j0 : Nat → Int → Int → Int → Int → Bool → Bool → Option (Int)
  | 0, _, _, _, _, _, _ => none
  | k + 1, x0, x1, x5, x6, x7, x29 => if x29 = true then ((fbits_Nan.f).bind fun t887 => (some t887)) else (if x5 = 3 then (fprod_Mul.j1 k x0 x1 x5 x6 x7 true) else (fprod_Mul.j1 k x0 x1 x5 x6 x7 (x6 == 3)))
def fprod_Mul.j1 : Nat → Int → Int → Int → Int → Bool → Bool → Option (Int)
  | 0, _, _, _, _, _, _ => none
  | k + 1, x0, x1, x5, x6, x7, x37 => if x37 = true then (if x5 = 0 then (fprod_Mul.j2 k x7 true) else (fprod_Mul.j2 k x7 (x6 == 0))) else ((fbits_Parts.f k x0).bind fun bt890 => ((fbits_Parts.f k x1).bind fun bt894 => ((limb_Mul.f bt890.2.1 bt894.2.1).bind fun bt898 => ((limb_Len.f k bt898.1).bind fun t900 => (if t900 = 0 then ((fround_Word.f k x7 bt898.2 (wrap64 (bt890.2.2.1 + bt894.2.2.1))).bind fun t901 => (some t901)) else (if 0 ≤ (wrap64 (64 - t900)) then (if 0 ≤ t900 then (if (shl .u64 bt898.2 (wrap64 (64 - t900))) = 0 then ((fround_Word.f k x7 (Go.bits .or .u64 (shl .u64 bt898.1 (wrap64 (64 - t900))) (shr .u64 bt898.2 t900)) (wrap64 ((wrap64 (bt890.2.2.1 + bt894.2.2.1)) + t900))).bind fun t902 => (some t902)) else ((fround_Word.f k x7 (Go.bits .or .u64 (Go.bits .or .u64 (shl .u64 bt898.1 (wrap64 (64 - t900))) (shr .u64 bt898.2 t900)) 1) (wrap64 ((wrap64 (bt890.2.2.1 + bt894.2.2.1)) + t900))).bind fun t903 => (some t903))) else (none)) else (none)))))))
def fprod_Mul.j2 : Nat → Bool → Bool → Option (Int)
  | 0, _, _ => none
  | k + 1, x7, x49 => if x49 = true then ((fbits_Nan.f).bind fun t888 => (some t888)) else ((fbits_Inf.f x7).bind fun t889 => (some t889))
end
def fprod_Mul.f (k : Nat) (a0 : Int) (a1 : Int) : Option (Int) := (fbits_Kind.f a0).bind fun t883 => ((fbits_Kind.f a1).bind fun t884 => ((fbits_Neg.f a0).bind fun t885 => ((fbits_Neg.f a1).bind fun t886 => (if t883 = 4 then (fprod_Mul.j0 k a0 a1 t883 t884 (!(t885 == t886)) true) else (fprod_Mul.j0 k a0 a1 t883 t884 (!(t885 == t886)) (t884 == 4))))))
set_option maxHeartbeats 8000000 in
set_option maxRecDepth 100000 in
theorem fprod_Mul.calls (k : Nat) (a0 : Int) (a1 : Int) (r : Int) (w : World) (h : fprod_Mul.f k a0 a1 = some r) :
    Calls Try.prog 66 #[.int .u64 a0, .int .u64 a1] w fun e w' => e = .returned (.int .u64 r) ∧ Below w.heap.size w w' := by
  have HB := Aside0.mk (Below.refl w.heap.size w)
  have H : ((fbits_Kind.f a0).bind fun t883 => ((fbits_Kind.f a1).bind fun t884 => ((fbits_Neg.f a0).bind fun t885 => ((fbits_Neg.f a1).bind fun t886 => (if t883 = 4 then (fprod_Mul.j0 k a0 a1 t883 t884 (!(t885 == t886)) true) else (fprod_Mul.j0 k a0 a1 t883 t884 (!(t885 == t886)) (t884 == 4))))))) = some r := h
  clear h
  replace H := Option.bind_eq_some_iff.mp H
  obtain ⟨t883, A30, H⟩ := H
  replace H : ((fbits_Kind.f a1).bind fun t884 => ((fbits_Neg.f a0).bind fun t885 => ((fbits_Neg.f a1).bind fun t886 => (if t883 = 4 then (fprod_Mul.j0 k a0 a1 t883 t884 (!(t885 == t886)) true) else (fprod_Mul.j0 k a0 a1 t883 t884 (!(t885 == t886)) (t884 == 4)))))) = some r := H
  have A3 := Aside0.mk A30
  clear A30
  replace H := Option.bind_eq_some_iff.mp H
  obtain ⟨t884, A40, H⟩ := H
  replace H : ((fbits_Neg.f a0).bind fun t885 => ((fbits_Neg.f a1).bind fun t886 => (if t883 = 4 then (fprod_Mul.j0 k a0 a1 t883 t884 (!(t885 == t886)) true) else (fprod_Mul.j0 k a0 a1 t883 t884 (!(t885 == t886)) (t884 == 4))))) = some r := H
  have A4 := Aside0.mk A40
  clear A40
  replace H := Option.bind_eq_some_iff.mp H
  obtain ⟨t885, A50, H⟩ := H
  replace H : ((fbits_Neg.f a1).bind fun t886 => (if t883 = 4 then (fprod_Mul.j0 k a0 a1 t883 t884 (!(t885 == t886)) true) else (fprod_Mul.j0 k a0 a1 t883 t884 (!(t885 == t886)) (t884 == 4)))) = some r := H
  have A5 := Aside0.mk A50
  clear A50
  replace H := Option.bind_eq_some_iff.mp H
  obtain ⟨t886, A60, H⟩ := H
  replace H : (if t883 = 4 then (fprod_Mul.j0 k a0 a1 t883 t884 (!(t885 == t886)) true) else (fprod_Mul.j0 k a0 a1 t883 t884 (!(t885 == t886)) (t884 == 4))) = some r := H
  have A6 := Aside0.mk A60
  clear A60
  have HC7 := Aside0.mk H
  clear H
  go_enter Try.func66, Try.ntmps66
  go_upto_region 3 with (first | (go_at_call 39; (with_reducible refine (fbits_Kind.calls a0 t883 _ A3.out).mono ?_); rintro e w' ⟨rfl, ⟨nd, rfl⟩⟩; (try first | exact ⟨rfl, _, World.drewN_drewN _ _ _⟩ | exact ⟨rfl, _, Eq.trans (World.drewN_drewN _ _ _) (congrArg (World.drewN _) (Nat.add_assoc _ _ _))⟩)) | (go_at_call 39; (with_reducible refine (fbits_Kind.calls a1 t884 _ A4.out).mono ?_); rintro e w' ⟨rfl, ⟨nd, rfl⟩⟩; (try first | exact ⟨rfl, _, World.drewN_drewN _ _ _⟩ | exact ⟨rfl, _, Eq.trans (World.drewN_drewN _ _ _) (congrArg (World.drewN _) (Nat.add_assoc _ _ _))⟩)) | (go_at_call 41; (with_reducible refine (fbits_Neg.calls a0 t885 _ A5.out).mono ?_); rintro e w' ⟨rfl, ⟨nd, rfl⟩⟩; (try first | exact ⟨rfl, _, World.drewN_drewN _ _ _⟩ | exact ⟨rfl, _, Eq.trans (World.drewN_drewN _ _ _) (congrArg (World.drewN _) (Nat.add_assoc _ _ _))⟩)) | (go_at_call 41; (with_reducible refine (fbits_Neg.calls a1 t886 _ A6.out).mono ?_); rintro e w' ⟨rfl, ⟨nd, rfl⟩⟩; (try first | exact ⟨rfl, _, World.drewN_drewN _ _ _⟩ | exact ⟨rfl, _, Eq.trans (World.drewN_drewN _ _ _) (congrArg (World.drewN _) (Nat.add_assoc _ _ _))⟩)))
  repeat (go_quiet (first | (go_at_call 39; (with_reducible refine (fbits_Kind.calls a0 t883 _ A3.out).mono ?_); rintro e w' ⟨rfl, ⟨nd, rfl⟩⟩; (try first | exact ⟨rfl, _, World.drewN_drewN _ _ _⟩ | exact ⟨rfl, _, Eq.trans (World.drewN_drewN _ _ _) (congrArg (World.drewN _) (Nat.add_assoc _ _ _))⟩)) | (go_at_call 39; (with_reducible refine (fbits_Kind.calls a1 t884 _ A4.out).mono ?_); rintro e w' ⟨rfl, ⟨nd, rfl⟩⟩; (try first | exact ⟨rfl, _, World.drewN_drewN _ _ _⟩ | exact ⟨rfl, _, Eq.trans (World.drewN_drewN _ _ _) (congrArg (World.drewN _) (Nat.add_assoc _ _ _))⟩)) | (go_at_call 41; (with_reducible refine (fbits_Neg.calls a0 t885 _ A5.out).mono ?_); rintro e w' ⟨rfl, ⟨nd, rfl⟩⟩; (try first | exact ⟨rfl, _, World.drewN_drewN _ _ _⟩ | exact ⟨rfl, _, Eq.trans (World.drewN_drewN _ _ _) (congrArg (World.drewN _) (Nat.add_assoc _ _ _))⟩)) | (go_at_call 41; (with_reducible refine (fbits_Neg.calls a1 t886 _ A6.out).mono ?_); rintro e w' ⟨rfl, ⟨nd, rfl⟩⟩; (try first | exact ⟨rfl, _, World.drewN_drewN _ _ _⟩ | exact ⟨rfl, _, Eq.trans (World.drewN_drewN _ _ _) (congrArg (World.drewN _) (Nat.add_assoc _ _ _))⟩))); go_upto_region 3 with (first | (go_at_call 39; (with_reducible refine (fbits_Kind.calls a0 t883 _ A3.out).mono ?_); rintro e w' ⟨rfl, ⟨nd, rfl⟩⟩; (try first | exact ⟨rfl, _, World.drewN_drewN _ _ _⟩ | exact ⟨rfl, _, Eq.trans (World.drewN_drewN _ _ _) (congrArg (World.drewN _) (Nat.add_assoc _ _ _))⟩)) | (go_at_call 39; (with_reducible refine (fbits_Kind.calls a1 t884 _ A4.out).mono ?_); rintro e w' ⟨rfl, ⟨nd, rfl⟩⟩; (try first | exact ⟨rfl, _, World.drewN_drewN _ _ _⟩ | exact ⟨rfl, _, Eq.trans (World.drewN_drewN _ _ _) (congrArg (World.drewN _) (Nat.add_assoc _ _ _))⟩)) | (go_at_call 41; (with_reducible refine (fbits_Neg.calls a0 t885 _ A5.out).mono ?_); rintro e w' ⟨rfl, ⟨nd, rfl⟩⟩; (try first | exact ⟨rfl, _, World.drewN_drewN _ _ _⟩ | exact ⟨rfl, _, Eq.trans (World.drewN_drewN _ _ _) (congrArg (World.drewN _) (Nat.add_assoc _ _ _))⟩)) | (go_at_call 41; (with_reducible refine (fbits_Neg.calls a1 t886 _ A6.out).mono ?_); rintro e w' ⟨rfl, ⟨nd, rfl⟩⟩; (try first | exact ⟨rfl, _, World.drewN_drewN _ _ _⟩ | exact ⟨rfl, _, Eq.trans (World.drewN_drewN _ _ _) (congrArg (World.drewN _) (Nat.add_assoc _ _ _))⟩))))
  (try simp only [Act.put, List.setIfInBounds_toArray, List.set_cons_zero, List.set_cons_succ])
  go_cut [29] (fun v29 wc => ∃ (kq : Nat) (x29_6 : Bool), v29 = .bool x29_6 ∧ Aside0 (fprod_Mul.j0 kq a0 a1 t883 t884 (!(t885 == t886)) x29_6 = some r) ∧ Aside0 (kq ≤ k) ∧ Aside0 (Below w.heap.size w wc))
  case first =>
    have H := HC7.out
    clear HC7
    by_cases c8 : t883 = 4
    · rw [if_pos c8] at H
      have c8b0 : (t883 == 4) = true := beq_iff_eq.mpr c8
      have c8b1 : (t883 != 4) = false := bne_eq_false_iff_eq.mpr c8
      clear c8
      (first | rw [c8b0] | (simp only [i64_w, i32_w]; rw [c8b0]) | rw [c8b1] | skip)
      have H' := Aside0.mk H
      clear H
      go_wp2
      repeat (go_quiet (fail); try go_wp2)
      go_meet
      case rel => exact ⟨_, (true), (by first | rfl | (simp; done) | (simp [*]; done)), H', ⟨by first | omega | exact Nat.le_refl _⟩, ⟨by repeat (first | (with_reducible first | exact HB.out | apply below_alloc | apply pw_below_drewN | apply below_drew1) | exact HB.out)⟩⟩
    · rw [if_neg c8] at H
      have c8b0 : (t883 == 4) = false := beq_eq_false_iff_ne.mpr c8
      have c8b1 : (t883 != 4) = true := bne_iff_ne.mpr c8
      (first | rw [c8b0] | (simp only [i64_w, i32_w]; rw [c8b0]) | rw [c8b1] | skip)
      have H' := Aside0.mk H
      clear H
      go_wp2
      repeat (go_quiet (fail); try go_wp2)
      go_meet
      case rel => exact ⟨_, ((t884 == 4)), (by first | rfl | (simp; done) | (simp [*]; done)), H', ⟨by first | omega | exact Nat.le_refl _⟩, ⟨by repeat (first | (with_reducible first | exact HB.out | apply below_alloc | apply pw_below_drewN | apply below_drew1) | exact HB.out)⟩⟩
  case rest =>
    clear HC7
    try clear p2
    try clear c6
    try clear c8
    try clear c8b0
    try clear c8b1
    obtain ⟨kq, x29_6, rfl, HA, HJ6, HB⟩ := hcut
    cases kq with
    | zero => exact absurd HA.out (by simp [fprod_Mul.j0])
    | succ kj6 =>
      have H := HA.out
      clear HA
      simp only [fprod_Mul.j0] at H
      by_cases c9 : x29_6 = true
      · subst c9
        have H1 : ((fbits_Nan.f).bind fun t887 => (some t887)) = some r := by rw [if_pos rfl] at H; exact H
        clear H
        have H := H1
        clear H1
        replace H := Option.bind_eq_some_iff.mp H
        obtain ⟨t887, A100, H⟩ := H
        replace H : (some t887) = some r := H
        have A10 := Aside0.mk A100
        clear A100
        obtain rfl := Option.some.inj H
        go_wp2_with (first | (go_at_call 32; (with_reducible refine (fbits_Nan.calls  t887 _ A10.out).mono ?_); rintro e w' ⟨rfl, ⟨nd, rfl⟩⟩; (try first | exact ⟨rfl, _, World.drewN_drewN _ _ _⟩ | exact ⟨rfl, _, Eq.trans (World.drewN_drewN _ _ _) (congrArg (World.drewN _) (Nat.add_assoc _ _ _))⟩)))
        repeat (go_quiet (first | (go_at_call 32; (with_reducible refine (fbits_Nan.calls  t887 _ A10.out).mono ?_); rintro e w' ⟨rfl, ⟨nd, rfl⟩⟩; (try first | exact ⟨rfl, _, World.drewN_drewN _ _ _⟩ | exact ⟨rfl, _, Eq.trans (World.drewN_drewN _ _ _) (congrArg (World.drewN _) (Nat.add_assoc _ _ _))⟩))); try go_wp2_with (first | (go_at_call 32; (with_reducible refine (fbits_Nan.calls  t887 _ A10.out).mono ?_); rintro e w' ⟨rfl, ⟨nd, rfl⟩⟩; (try first | exact ⟨rfl, _, World.drewN_drewN _ _ _⟩ | exact ⟨rfl, _, Eq.trans (World.drewN_drewN _ _ _) (congrArg (World.drewN _) (Nat.add_assoc _ _ _))⟩))))
        go_ret
        exact ⟨by first | rfl | (simp [errW_none, errW_some] <;> rfl) | (simp [*, errW_none, errW_some] <;> rfl), by repeat (first | (with_reducible first | exact HB.out | apply below_alloc | apply pw_below_drewN | apply below_drew1) | exact HB.out)⟩
      · replace c9 := Bool.eq_false_iff.mpr c9
        subst c9
        have H1 : (if t883 = 3 then (fprod_Mul.j1 kj6 a0 a1 t883 t884 (!(t885 == t886)) true) else (fprod_Mul.j1 kj6 a0 a1 t883 t884 (!(t885 == t886)) (t884 == 3))) = some r := by rw [if_neg (show ¬ (false = true) by decide)] at H; exact H
        clear H
        have H := H1
        clear H1
        have HC11 := Aside0.mk H
        clear H
        go_upto_region 5 with (fail)
        repeat (go_quiet (fail); go_upto_region 5 with (fail))
        go_cut [37] (fun v37 wc => ∃ (kq : Nat) (x37_10 : Bool), v37 = .bool x37_10 ∧ Aside0 (fprod_Mul.j1 kq a0 a1 t883 t884 (!(t885 == t886)) x37_10 = some r) ∧ Aside0 (kq ≤ kj6) ∧ Aside0 (Below w.heap.size w wc))
        case first =>
          have H := HC11.out
          clear HC11
          by_cases c12 : t883 = 3
          · rw [if_pos c12] at H
            have c12b0 : (t883 == 3) = true := beq_iff_eq.mpr c12
            have c12b1 : (t883 != 3) = false := bne_eq_false_iff_eq.mpr c12
            clear c12
            (first | rw [c12b0] | (simp only [i64_w, i32_w]; rw [c12b0]) | rw [c12b1] | skip)
            have H' := Aside0.mk H
            clear H
            go_wp2
            repeat (go_quiet (fail); try go_wp2)
            go_meet
            case rel => exact ⟨_, (true), (by first | rfl | (simp; done) | (simp [*]; done)), H', ⟨by have := HJ6.out; first | omega | exact Nat.le_refl _⟩, ⟨by repeat (first | (with_reducible first | exact HB.out | apply below_alloc | apply pw_below_drewN | apply below_drew1) | exact HB.out)⟩⟩
          · rw [if_neg c12] at H
            have c12b0 : (t883 == 3) = false := beq_eq_false_iff_ne.mpr c12
            have c12b1 : (t883 != 3) = true := bne_iff_ne.mpr c12
            (first | rw [c12b0] | (simp only [i64_w, i32_w]; rw [c12b0]) | rw [c12b1] | skip)
            have H' := Aside0.mk H
            clear H
            go_wp2
            repeat (go_quiet (fail); try go_wp2)
            go_meet
            case rel => exact ⟨_, ((t884 == 3)), (by first | rfl | (simp; done) | (simp [*]; done)), H', ⟨by have := HJ6.out; first | omega | exact Nat.le_refl _⟩, ⟨by repeat (first | (with_reducible first | exact HB.out | apply below_alloc | apply pw_below_drewN | apply below_drew1) | exact HB.out)⟩⟩
        case rest =>
          clear HC11
          try clear c1
          try clear p2
          try clear c6
          try clear c8
          try clear c8b0
          try clear c8b1
          try clear c9
          try clear c12
          try clear c12b0
          try clear c12b1
          try clear p2
          obtain ⟨kq, x37_10, rfl, HA, HJ10, HB⟩ := hcut
          cases kq with
          | zero => exact absurd HA.out (by simp [fprod_Mul.j1])
          | succ kj10 =>
            have H := HA.out
            clear HA
            simp only [fprod_Mul.j1] at H
            by_cases c13 : x37_10 = true
            · subst c13
              have H1 : (if t883 = 0 then (fprod_Mul.j2 kj10 (!(t885 == t886)) true) else (fprod_Mul.j2 kj10 (!(t885 == t886)) (t884 == 0))) = some r := by rw [if_pos rfl] at H; exact H
              clear H
              have H := H1
              clear H1
              have HC14 := Aside0.mk H
              clear H
              go_upto_region 6 with (fail)
              repeat (go_quiet (fail); go_upto_region 6 with (fail))
              go_cut [49] (fun v49 wc => ∃ (kq : Nat) (x49_13 : Bool), v49 = .bool x49_13 ∧ Aside0 (fprod_Mul.j2 kq (!(t885 == t886)) x49_13 = some r) ∧ Aside0 (kq ≤ kj10) ∧ Aside0 (Below w.heap.size w wc))
              case first =>
                have H := HC14.out
                clear HC14
                by_cases c15 : t883 = 0
                · rw [if_pos c15] at H
                  have c15b0 : (t883 == 0) = true := beq_iff_eq.mpr c15
                  have c15b1 : (t883 != 0) = false := bne_eq_false_iff_eq.mpr c15
                  clear c15
                  (first | rw [c15b0] | (simp only [i64_w, i32_w]; rw [c15b0]) | rw [c15b1] | skip)
                  have H' := Aside0.mk H
                  clear H
                  go_wp2
                  repeat (go_quiet (fail); try go_wp2)
                  go_meet
                  case rel => exact ⟨_, (true), (by first | rfl | (simp; done) | (simp [*]; done)), H', ⟨by have := HJ6.out; have := HJ10.out; first | omega | exact Nat.le_refl _⟩, ⟨by repeat (first | (with_reducible first | exact HB.out | apply below_alloc | apply pw_below_drewN | apply below_drew1) | exact HB.out)⟩⟩
                · rw [if_neg c15] at H
                  have c15b0 : (t883 == 0) = false := beq_eq_false_iff_ne.mpr c15
                  have c15b1 : (t883 != 0) = true := bne_iff_ne.mpr c15
                  (first | rw [c15b0] | (simp only [i64_w, i32_w]; rw [c15b0]) | rw [c15b1] | skip)
                  have H' := Aside0.mk H
                  clear H
                  go_wp2
                  repeat (go_quiet (fail); try go_wp2)
                  go_meet
                  case rel => exact ⟨_, ((t884 == 0)), (by first | rfl | (simp; done) | (simp [*]; done)), H', ⟨by have := HJ6.out; have := HJ10.out; first | omega | exact Nat.le_refl _⟩, ⟨by repeat (first | (with_reducible first | exact HB.out | apply below_alloc | apply pw_below_drewN | apply below_drew1) | exact HB.out)⟩⟩
              case rest =>
                clear HC14
                try clear c1
                try clear p2
                try clear c6
                try clear c8
                try clear c8b0
                try clear c8b1
                try clear c9
                try clear c12
                try clear c12b0
                try clear c12b1
                try clear c13
                try clear c15
                try clear c15b0
                try clear c15b1
                try clear p2
                obtain ⟨kq, x49_13, rfl, HA, HJ13, HB⟩ := hcut
                cases kq with
                | zero => exact absurd HA.out (by simp [fprod_Mul.j2])
                | succ kj13 =>
                  have H := HA.out
                  clear HA
                  simp only [fprod_Mul.j2] at H
                  by_cases c16 : x49_13 = true
                  · subst c16
                    have H1 : ((fbits_Nan.f).bind fun t888 => (some t888)) = some r := by rw [if_pos rfl] at H; exact H
                    clear H
                    have H := H1
                    clear H1
                    replace H := Option.bind_eq_some_iff.mp H
                    obtain ⟨t888, A170, H⟩ := H
                    replace H : (some t888) = some r := H
                    have A17 := Aside0.mk A170
                    clear A170
                    obtain rfl := Option.some.inj H
                    go_wp2_with (first | (go_at_call 32; (with_reducible refine (fbits_Nan.calls  t888 _ A17.out).mono ?_); rintro e w' ⟨rfl, ⟨nd, rfl⟩⟩; (try first | exact ⟨rfl, _, World.drewN_drewN _ _ _⟩ | exact ⟨rfl, _, Eq.trans (World.drewN_drewN _ _ _) (congrArg (World.drewN _) (Nat.add_assoc _ _ _))⟩)))
                    repeat (go_quiet (first | (go_at_call 32; (with_reducible refine (fbits_Nan.calls  t888 _ A17.out).mono ?_); rintro e w' ⟨rfl, ⟨nd, rfl⟩⟩; (try first | exact ⟨rfl, _, World.drewN_drewN _ _ _⟩ | exact ⟨rfl, _, Eq.trans (World.drewN_drewN _ _ _) (congrArg (World.drewN _) (Nat.add_assoc _ _ _))⟩))); try go_wp2_with (first | (go_at_call 32; (with_reducible refine (fbits_Nan.calls  t888 _ A17.out).mono ?_); rintro e w' ⟨rfl, ⟨nd, rfl⟩⟩; (try first | exact ⟨rfl, _, World.drewN_drewN _ _ _⟩ | exact ⟨rfl, _, Eq.trans (World.drewN_drewN _ _ _) (congrArg (World.drewN _) (Nat.add_assoc _ _ _))⟩))))
                    go_ret
                    exact ⟨by first | rfl | (simp [errW_none, errW_some] <;> rfl) | (simp [*, errW_none, errW_some] <;> rfl), by repeat (first | (with_reducible first | exact HB.out | apply below_alloc | apply pw_below_drewN | apply below_drew1) | exact HB.out)⟩
                  · replace c16 := Bool.eq_false_iff.mpr c16
                    subst c16
                    have H1 : ((fbits_Inf.f (!(t885 == t886))).bind fun t889 => (some t889)) = some r := by rw [if_neg (show ¬ (false = true) by decide)] at H; exact H
                    clear H
                    have H := H1
                    clear H1
                    replace H := Option.bind_eq_some_iff.mp H
                    obtain ⟨t889, A180, H⟩ := H
                    replace H : (some t889) = some r := H
                    have A18 := Aside0.mk A180
                    clear A180
                    obtain rfl := Option.some.inj H
                    go_wp2_with (first | (go_at_call 34; (with_reducible refine (fbits_Inf.calls (!(t885 == t886)) t889 _ A18.out).mono ?_); rintro e w' ⟨rfl, ⟨nd, rfl⟩⟩; (try first | exact ⟨rfl, _, World.drewN_drewN _ _ _⟩ | exact ⟨rfl, _, Eq.trans (World.drewN_drewN _ _ _) (congrArg (World.drewN _) (Nat.add_assoc _ _ _))⟩)))
                    repeat (go_quiet (first | (go_at_call 34; (with_reducible refine (fbits_Inf.calls (!(t885 == t886)) t889 _ A18.out).mono ?_); rintro e w' ⟨rfl, ⟨nd, rfl⟩⟩; (try first | exact ⟨rfl, _, World.drewN_drewN _ _ _⟩ | exact ⟨rfl, _, Eq.trans (World.drewN_drewN _ _ _) (congrArg (World.drewN _) (Nat.add_assoc _ _ _))⟩))); try go_wp2_with (first | (go_at_call 34; (with_reducible refine (fbits_Inf.calls (!(t885 == t886)) t889 _ A18.out).mono ?_); rintro e w' ⟨rfl, ⟨nd, rfl⟩⟩; (try first | exact ⟨rfl, _, World.drewN_drewN _ _ _⟩ | exact ⟨rfl, _, Eq.trans (World.drewN_drewN _ _ _) (congrArg (World.drewN _) (Nat.add_assoc _ _ _))⟩))))
                    go_ret
                    exact ⟨by first | rfl | (simp [errW_none, errW_some] <;> rfl) | (simp [*, errW_none, errW_some] <;> rfl), by repeat (first | (with_reducible first | exact HB.out | apply below_alloc | apply pw_below_drewN | apply below_drew1) | exact HB.out)⟩
            · replace c13 := Bool.eq_false_iff.mpr c13
              subst c13
              have H1 : ((fbits_Parts.f kj10 a0).bind fun bt890 => ((fbits_Parts.f kj10 a1).bind fun bt894 => ((limb_Mul.f bt890.2.1 bt894.2.1).bind fun bt898 => ((limb_Len.f kj10 bt898.1).bind fun t900 => (if t900 = 0 then ((fround_Word.f kj10 (!(t885 == t886)) bt898.2 (wrap64 (bt890.2.2.1 + bt894.2.2.1))).bind fun t901 => (some t901)) else (if 0 ≤ (wrap64 (64 - t900)) then (if 0 ≤ t900 then (if (shl .u64 bt898.2 (wrap64 (64 - t900))) = 0 then ((fround_Word.f kj10 (!(t885 == t886)) (Go.bits .or .u64 (shl .u64 bt898.1 (wrap64 (64 - t900))) (shr .u64 bt898.2 t900)) (wrap64 ((wrap64 (bt890.2.2.1 + bt894.2.2.1)) + t900))).bind fun t902 => (some t902)) else ((fround_Word.f kj10 (!(t885 == t886)) (Go.bits .or .u64 (Go.bits .or .u64 (shl .u64 bt898.1 (wrap64 (64 - t900))) (shr .u64 bt898.2 t900)) 1) (wrap64 ((wrap64 (bt890.2.2.1 + bt894.2.2.1)) + t900))).bind fun t903 => (some t903))) else (none)) else (none))))))) = some r := by rw [if_neg (show ¬ (false = true) by decide)] at H; exact H
              clear H
              have H := H1
              clear H1
              replace H := Option.bind_eq_some_iff.mp H
              obtain ⟨⟨t890, t891, t892, t893⟩, A190, H⟩ := H
              replace H : ((fbits_Parts.f kj10 a1).bind fun bt894 => ((limb_Mul.f t891 bt894.2.1).bind fun bt898 => ((limb_Len.f kj10 bt898.1).bind fun t900 => (if t900 = 0 then ((fround_Word.f kj10 (!(t885 == t886)) bt898.2 (wrap64 (t892 + bt894.2.2.1))).bind fun t901 => (some t901)) else (if 0 ≤ (wrap64 (64 - t900)) then (if 0 ≤ t900 then (if (shl .u64 bt898.2 (wrap64 (64 - t900))) = 0 then ((fround_Word.f kj10 (!(t885 == t886)) (Go.bits .or .u64 (shl .u64 bt898.1 (wrap64 (64 - t900))) (shr .u64 bt898.2 t900)) (wrap64 ((wrap64 (t892 + bt894.2.2.1)) + t900))).bind fun t902 => (some t902)) else ((fround_Word.f kj10 (!(t885 == t886)) (Go.bits .or .u64 (Go.bits .or .u64 (shl .u64 bt898.1 (wrap64 (64 - t900))) (shr .u64 bt898.2 t900)) 1) (wrap64 ((wrap64 (t892 + bt894.2.2.1)) + t900))).bind fun t903 => (some t903))) else (none)) else (none)))))) = some r := H
              have A19 := Aside0.mk A190
              clear A190
              replace H := Option.bind_eq_some_iff.mp H
              obtain ⟨⟨t894, t895, t896, t897⟩, A200, H⟩ := H
              replace H : ((limb_Mul.f t891 t895).bind fun bt898 => ((limb_Len.f kj10 bt898.1).bind fun t900 => (if t900 = 0 then ((fround_Word.f kj10 (!(t885 == t886)) bt898.2 (wrap64 (t892 + t896))).bind fun t901 => (some t901)) else (if 0 ≤ (wrap64 (64 - t900)) then (if 0 ≤ t900 then (if (shl .u64 bt898.2 (wrap64 (64 - t900))) = 0 then ((fround_Word.f kj10 (!(t885 == t886)) (Go.bits .or .u64 (shl .u64 bt898.1 (wrap64 (64 - t900))) (shr .u64 bt898.2 t900)) (wrap64 ((wrap64 (t892 + t896)) + t900))).bind fun t902 => (some t902)) else ((fround_Word.f kj10 (!(t885 == t886)) (Go.bits .or .u64 (Go.bits .or .u64 (shl .u64 bt898.1 (wrap64 (64 - t900))) (shr .u64 bt898.2 t900)) 1) (wrap64 ((wrap64 (t892 + t896)) + t900))).bind fun t903 => (some t903))) else (none)) else (none))))) = some r := H
              have A20 := Aside0.mk A200
              clear A200
              replace H := Option.bind_eq_some_iff.mp H
              obtain ⟨⟨t898, t899⟩, A210, H⟩ := H
              replace H : ((limb_Len.f kj10 t898).bind fun t900 => (if t900 = 0 then ((fround_Word.f kj10 (!(t885 == t886)) t899 (wrap64 (t892 + t896))).bind fun t901 => (some t901)) else (if 0 ≤ (wrap64 (64 - t900)) then (if 0 ≤ t900 then (if (shl .u64 t899 (wrap64 (64 - t900))) = 0 then ((fround_Word.f kj10 (!(t885 == t886)) (Go.bits .or .u64 (shl .u64 t898 (wrap64 (64 - t900))) (shr .u64 t899 t900)) (wrap64 ((wrap64 (t892 + t896)) + t900))).bind fun t902 => (some t902)) else ((fround_Word.f kj10 (!(t885 == t886)) (Go.bits .or .u64 (Go.bits .or .u64 (shl .u64 t898 (wrap64 (64 - t900))) (shr .u64 t899 t900)) 1) (wrap64 ((wrap64 (t892 + t896)) + t900))).bind fun t903 => (some t903))) else (none)) else (none)))) = some r := H
              have A21 := Aside0.mk A210
              clear A210
              replace H := Option.bind_eq_some_iff.mp H
              obtain ⟨t900, A220, H⟩ := H
              replace H : (if t900 = 0 then ((fround_Word.f kj10 (!(t885 == t886)) t899 (wrap64 (t892 + t896))).bind fun t901 => (some t901)) else (if 0 ≤ (wrap64 (64 - t900)) then (if 0 ≤ t900 then (if (shl .u64 t899 (wrap64 (64 - t900))) = 0 then ((fround_Word.f kj10 (!(t885 == t886)) (Go.bits .or .u64 (shl .u64 t898 (wrap64 (64 - t900))) (shr .u64 t899 t900)) (wrap64 ((wrap64 (t892 + t896)) + t900))).bind fun t902 => (some t902)) else ((fround_Word.f kj10 (!(t885 == t886)) (Go.bits .or .u64 (Go.bits .or .u64 (shl .u64 t898 (wrap64 (64 - t900))) (shr .u64 t899 t900)) 1) (wrap64 ((wrap64 (t892 + t896)) + t900))).bind fun t903 => (some t903))) else (none)) else (none))) = some r := H
              have A22 := Aside0.mk A220
              clear A220
              by_cases c23 : t900 = 0
              · rw [if_pos c23] at H
                have c23b0 : (t900 == 0) = true := beq_iff_eq.mpr c23
                have c23b1 : (t900 != 0) = false := bne_eq_false_iff_eq.mpr c23
                clear c23
                replace H := Option.bind_eq_some_iff.mp H
                obtain ⟨t901, A240, H⟩ := H
                replace H : (some t901) = some r := H
                have A24 := Aside0.mk A240
                clear A240
                obtain rfl := Option.some.inj H
                go_wp2_with (first | (go_at_call 24; (with_reducible refine (fbits_Parts.calls kj10 a0 t890 t891 t892 t893 _ A19.out).mono ?_); rintro e w' ⟨rfl, ⟨nd, rfl⟩⟩; (try first | exact ⟨rfl, _, World.drewN_drewN _ _ _⟩ | exact ⟨rfl, _, Eq.trans (World.drewN_drewN _ _ _) (congrArg (World.drewN _) (Nat.add_assoc _ _ _))⟩)) | (go_at_call 24; (with_reducible refine (fbits_Parts.calls kj10 a1 t894 t895 t896 t897 _ A20.out).mono ?_); rintro e w' ⟨rfl, ⟨nd, rfl⟩⟩; (try first | exact ⟨rfl, _, World.drewN_drewN _ _ _⟩ | exact ⟨rfl, _, Eq.trans (World.drewN_drewN _ _ _) (congrArg (World.drewN _) (Nat.add_assoc _ _ _))⟩)) | (go_at_call 120; (with_reducible refine (limb_Mul.calls t891 t895 t898 t899 _ A21.out).mono ?_); rintro e w' ⟨rfl, ⟨nd, rfl⟩⟩; (try first | exact ⟨rfl, _, World.drewN_drewN _ _ _⟩ | exact ⟨rfl, _, Eq.trans (World.drewN_drewN _ _ _) (congrArg (World.drewN _) (Nat.add_assoc _ _ _))⟩)) | (go_at_call 87; (with_reducible refine (limb_Len.calls kj10 t898 t900 _ A22.out).mono ?_); rintro e w' ⟨rfl, ⟨nd, rfl⟩⟩; (try first | exact ⟨rfl, _, World.drewN_drewN _ _ _⟩ | exact ⟨rfl, _, Eq.trans (World.drewN_drewN _ _ _) (congrArg (World.drewN _) (Nat.add_assoc _ _ _))⟩)) | (go_at_call 36; (with_reducible refine (fround_Word.calls kj10 (!(t885 == t886)) t899 (wrap64 (t892 + t896)) t901 _ A24.out).mono ?_); rintro e w25 ⟨rfl, hb⟩; have n0_ := Aside0.mk (below_step (by repeat (first | (with_reducible first | exact HB.out | apply below_alloc | apply pw_below_drewN | apply below_drew1) | exact HB.out)) hb); clear HB; have HB := n0_; clear n0_; (try clear hb); (try clear hb2); (try clear hk); (try clear hi)))
                repeat (go_quiet (first | (go_at_call 24; (with_reducible refine (fbits_Parts.calls kj10 a0 t890 t891 t892 t893 _ A19.out).mono ?_); rintro e w' ⟨rfl, ⟨nd, rfl⟩⟩; (try first | exact ⟨rfl, _, World.drewN_drewN _ _ _⟩ | exact ⟨rfl, _, Eq.trans (World.drewN_drewN _ _ _) (congrArg (World.drewN _) (Nat.add_assoc _ _ _))⟩)) | (go_at_call 24; (with_reducible refine (fbits_Parts.calls kj10 a1 t894 t895 t896 t897 _ A20.out).mono ?_); rintro e w' ⟨rfl, ⟨nd, rfl⟩⟩; (try first | exact ⟨rfl, _, World.drewN_drewN _ _ _⟩ | exact ⟨rfl, _, Eq.trans (World.drewN_drewN _ _ _) (congrArg (World.drewN _) (Nat.add_assoc _ _ _))⟩)) | (go_at_call 120; (with_reducible refine (limb_Mul.calls t891 t895 t898 t899 _ A21.out).mono ?_); rintro e w' ⟨rfl, ⟨nd, rfl⟩⟩; (try first | exact ⟨rfl, _, World.drewN_drewN _ _ _⟩ | exact ⟨rfl, _, Eq.trans (World.drewN_drewN _ _ _) (congrArg (World.drewN _) (Nat.add_assoc _ _ _))⟩)) | (go_at_call 87; (with_reducible refine (limb_Len.calls kj10 t898 t900 _ A22.out).mono ?_); rintro e w' ⟨rfl, ⟨nd, rfl⟩⟩; (try first | exact ⟨rfl, _, World.drewN_drewN _ _ _⟩ | exact ⟨rfl, _, Eq.trans (World.drewN_drewN _ _ _) (congrArg (World.drewN _) (Nat.add_assoc _ _ _))⟩)) | (go_at_call 36; (with_reducible refine (fround_Word.calls kj10 (!(t885 == t886)) t899 (wrap64 (t892 + t896)) t901 _ A24.out).mono ?_); rintro e w25 ⟨rfl, hb⟩; have n0_ := Aside0.mk (below_step (by repeat (first | (with_reducible first | exact HB.out | apply below_alloc | apply pw_below_drewN | apply below_drew1) | exact HB.out)) hb); clear HB; have HB := n0_; clear n0_; (try clear hb); (try clear hb2); (try clear hk); (try clear hi))); try go_wp2_with (first | (go_at_call 24; (with_reducible refine (fbits_Parts.calls kj10 a0 t890 t891 t892 t893 _ A19.out).mono ?_); rintro e w' ⟨rfl, ⟨nd, rfl⟩⟩; (try first | exact ⟨rfl, _, World.drewN_drewN _ _ _⟩ | exact ⟨rfl, _, Eq.trans (World.drewN_drewN _ _ _) (congrArg (World.drewN _) (Nat.add_assoc _ _ _))⟩)) | (go_at_call 24; (with_reducible refine (fbits_Parts.calls kj10 a1 t894 t895 t896 t897 _ A20.out).mono ?_); rintro e w' ⟨rfl, ⟨nd, rfl⟩⟩; (try first | exact ⟨rfl, _, World.drewN_drewN _ _ _⟩ | exact ⟨rfl, _, Eq.trans (World.drewN_drewN _ _ _) (congrArg (World.drewN _) (Nat.add_assoc _ _ _))⟩)) | (go_at_call 120; (with_reducible refine (limb_Mul.calls t891 t895 t898 t899 _ A21.out).mono ?_); rintro e w' ⟨rfl, ⟨nd, rfl⟩⟩; (try first | exact ⟨rfl, _, World.drewN_drewN _ _ _⟩ | exact ⟨rfl, _, Eq.trans (World.drewN_drewN _ _ _) (congrArg (World.drewN _) (Nat.add_assoc _ _ _))⟩)) | (go_at_call 87; (with_reducible refine (limb_Len.calls kj10 t898 t900 _ A22.out).mono ?_); rintro e w' ⟨rfl, ⟨nd, rfl⟩⟩; (try first | exact ⟨rfl, _, World.drewN_drewN _ _ _⟩ | exact ⟨rfl, _, Eq.trans (World.drewN_drewN _ _ _) (congrArg (World.drewN _) (Nat.add_assoc _ _ _))⟩)) | (go_at_call 36; (with_reducible refine (fround_Word.calls kj10 (!(t885 == t886)) t899 (wrap64 (t892 + t896)) t901 _ A24.out).mono ?_); rintro e w25 ⟨rfl, hb⟩; have n0_ := Aside0.mk (below_step (by repeat (first | (with_reducible first | exact HB.out | apply below_alloc | apply pw_below_drewN | apply below_drew1) | exact HB.out)) hb); clear HB; have HB := n0_; clear n0_; (try clear hb); (try clear hb2); (try clear hk); (try clear hi))))
                go_ret
                exact ⟨by first | rfl | (simp [errW_none, errW_some] <;> rfl) | (simp [*, errW_none, errW_some] <;> rfl), by repeat (first | (with_reducible first | exact HB.out | apply below_alloc | apply pw_below_drewN | apply below_drew1) | exact HB.out)⟩
              · rw [if_neg c23] at H
                have c23b0 : (t900 == 0) = false := beq_eq_false_iff_ne.mpr c23
                have c23b1 : (t900 != 0) = true := bne_iff_ne.mpr c23
                obtain ⟨ji26, hji26⟩ : ∃ j_ : Int, (wrap64 (64 - t900)) = j_ := ⟨_, rfl⟩
                replace H : (if 0 ≤ (ji26) then (if 0 ≤ t900 then (if (shl .u64 t899 (ji26)) = 0 then ((fround_Word.f kj10 (!(t885 == t886)) (Go.bits .or .u64 (shl .u64 t898 (ji26)) (shr .u64 t899 t900)) (wrap64 ((wrap64 (t892 + t896)) + t900))).bind fun t902 => (some t902)) else ((fround_Word.f kj10 (!(t885 == t886)) (Go.bits .or .u64 (Go.bits .or .u64 (shl .u64 t898 (ji26)) (shr .u64 t899 t900)) 1) (wrap64 ((wrap64 (t892 + t896)) + t900))).bind fun t903 => (some t903))) else (none)) else (none)) = some r := by first | (rw [hji26] at H; exact H) | (simp only [hji26] at H ⊢; exact H)
                (try rw [hji26] at A19)
                (try rw [hji26] at A20)
                (try rw [hji26] at A21)
                (try rw [hji26] at A22)
                have hji26w : (IntKind.i64.wrap (64 - t900)) = ji26 := (i64_w _).trans hji26
                by_cases c27 : 0 ≤ (ji26)
                · rw [if_pos c27] at H
                  have c27b0 := eq_true c27
                  have c27b1 : decide (0 ≤ (ji26)) = true := decide_eq_true c27
                  clear c27
                  obtain ⟨ji28, hji28⟩ : ∃ j_ : Int, (shl .u64 t898 (ji26)) = j_ := ⟨_, rfl⟩
                  replace H : (if 0 ≤ t900 then (if (shl .u64 t899 (ji26)) = 0 then ((fround_Word.f kj10 (!(t885 == t886)) (Go.bits .or .u64 (ji28) (shr .u64 t899 t900)) (wrap64 ((wrap64 (t892 + t896)) + t900))).bind fun t902 => (some t902)) else ((fround_Word.f kj10 (!(t885 == t886)) (Go.bits .or .u64 (Go.bits .or .u64 (ji28) (shr .u64 t899 t900)) 1) (wrap64 ((wrap64 (t892 + t896)) + t900))).bind fun t903 => (some t903))) else (none)) = some r := by first | (rw [hji28] at H; exact H) | (simp only [hji28] at H ⊢; exact H)
                  (try rw [hji28] at A19)
                  (try rw [hji28] at A20)
                  (try rw [hji28] at A21)
                  (try rw [hji28] at A22)
                  have hji28_ : (IntKind.u64.wrap (t898 * 2 ^ min (ji26).toNat 64)) = ji28 := hji28
                  have hji28z : (ji26) ≤ 64 → (IntKind.u64.wrap (t898 * 2 ^ (ji26).toNat)) = ji28 := shl_small hji28
                  by_cases c29 : 0 ≤ t900
                  · rw [if_pos c29] at H
                    have c29b0 := eq_true c29
                    have c29b1 : decide (0 ≤ t900) = true := decide_eq_true c29
                    clear c29
                    obtain ⟨ji30, hji30⟩ : ∃ j_ : Int, (shr .u64 t899 t900) = j_ := ⟨_, rfl⟩
                    replace H : (if (shl .u64 t899 (ji26)) = 0 then ((fround_Word.f kj10 (!(t885 == t886)) (Go.bits .or .u64 (ji28) (ji30)) (wrap64 ((wrap64 (t892 + t896)) + t900))).bind fun t902 => (some t902)) else ((fround_Word.f kj10 (!(t885 == t886)) (Go.bits .or .u64 (Go.bits .or .u64 (ji28) (ji30)) 1) (wrap64 ((wrap64 (t892 + t896)) + t900))).bind fun t903 => (some t903))) = some r := by first | (rw [hji30] at H; exact H) | (simp only [hji30] at H ⊢; exact H)
                    (try rw [hji30] at A19)
                    (try rw [hji30] at A20)
                    (try rw [hji30] at A21)
                    (try rw [hji30] at A22)
                    have hji30_ : (t899 / 2 ^ min t900.toNat 64) = ji30 := hji30
                    have hji30z : t900 ≤ 64 → (t899 / 2 ^ t900.toNat) = ji30 := shr_small hji30
                    have c31b0 := eq_true (of_decide_eq_true (by first | (with_reducible assumption) | assumption) : 0 ≤ (ji26))
                    obtain ⟨ji32, hji32⟩ : ∃ j_ : Int, (shl .u64 t899 (ji26)) = j_ := ⟨_, rfl⟩
                    replace H : (if (ji32) = 0 then ((fround_Word.f kj10 (!(t885 == t886)) (Go.bits .or .u64 (ji28) (ji30)) (wrap64 ((wrap64 (t892 + t896)) + t900))).bind fun t902 => (some t902)) else ((fround_Word.f kj10 (!(t885 == t886)) (Go.bits .or .u64 (Go.bits .or .u64 (ji28) (ji30)) 1) (wrap64 ((wrap64 (t892 + t896)) + t900))).bind fun t903 => (some t903))) = some r := by first | (rw [hji32] at H; exact H) | (simp only [hji32] at H ⊢; exact H)
                    (try rw [hji32] at A19)
                    (try rw [hji32] at A20)
                    (try rw [hji32] at A21)
                    (try rw [hji32] at A22)
                    have hji32_ : (IntKind.u64.wrap (t899 * 2 ^ min (ji26).toNat 64)) = ji32 := hji32
                    have hji32z : (ji26) ≤ 64 → (IntKind.u64.wrap (t899 * 2 ^ (ji26).toNat)) = ji32 := shl_small hji32
                    by_cases c33 : (ji32) = 0
                    · rw [if_pos c33] at H
                      have c33b0 : ((ji32) == 0) = true := beq_iff_eq.mpr c33
                      have c33b1 : ((ji32) != 0) = false := bne_eq_false_iff_eq.mpr c33
                      clear c33
                      replace H := Option.bind_eq_some_iff.mp H
                      obtain ⟨t902, A340, H⟩ := H
                      replace H : (some t902) = some r := H
                      have A34 := Aside0.mk A340
                      clear A340
                      obtain rfl := Option.some.inj H
                      go_wp2_with (first | (go_at_call 24; (with_reducible refine (fbits_Parts.calls kj10 a0 t890 t891 t892 t893 _ A19.out).mono ?_); rintro e w' ⟨rfl, ⟨nd, rfl⟩⟩; (try first | exact ⟨rfl, _, World.drewN_drewN _ _ _⟩ | exact ⟨rfl, _, Eq.trans (World.drewN_drewN _ _ _) (congrArg (World.drewN _) (Nat.add_assoc _ _ _))⟩)) | (go_at_call 24; (with_reducible refine (fbits_Parts.calls kj10 a1 t894 t895 t896 t897 _ A20.out).mono ?_); rintro e w' ⟨rfl, ⟨nd, rfl⟩⟩; (try first | exact ⟨rfl, _, World.drewN_drewN _ _ _⟩ | exact ⟨rfl, _, Eq.trans (World.drewN_drewN _ _ _) (congrArg (World.drewN _) (Nat.add_assoc _ _ _))⟩)) | (go_at_call 120; (with_reducible refine (limb_Mul.calls t891 t895 t898 t899 _ A21.out).mono ?_); rintro e w' ⟨rfl, ⟨nd, rfl⟩⟩; (try first | exact ⟨rfl, _, World.drewN_drewN _ _ _⟩ | exact ⟨rfl, _, Eq.trans (World.drewN_drewN _ _ _) (congrArg (World.drewN _) (Nat.add_assoc _ _ _))⟩)) | (go_at_call 87; (with_reducible refine (limb_Len.calls kj10 t898 t900 _ A22.out).mono ?_); rintro e w' ⟨rfl, ⟨nd, rfl⟩⟩; (try first | exact ⟨rfl, _, World.drewN_drewN _ _ _⟩ | exact ⟨rfl, _, Eq.trans (World.drewN_drewN _ _ _) (congrArg (World.drewN _) (Nat.add_assoc _ _ _))⟩)) | (go_at_call 36; (with_reducible refine (fround_Word.calls kj10 (!(t885 == t886)) (Go.bits .or .u64 (ji28) (ji30)) (wrap64 ((wrap64 (t892 + t896)) + t900)) t902 _ A34.out).mono ?_); rintro e w35 ⟨rfl, hb⟩; have n0_ := Aside0.mk (below_step (by repeat (first | (with_reducible first | exact HB.out | apply below_alloc | apply pw_below_drewN | apply below_drew1) | exact HB.out)) hb); clear HB; have HB := n0_; clear n0_; (try clear hb); (try clear hb2); (try clear hk); (try clear hi)))
                      repeat (go_quiet (first | (go_at_call 24; (with_reducible refine (fbits_Parts.calls kj10 a0 t890 t891 t892 t893 _ A19.out).mono ?_); rintro e w' ⟨rfl, ⟨nd, rfl⟩⟩; (try first | exact ⟨rfl, _, World.drewN_drewN _ _ _⟩ | exact ⟨rfl, _, Eq.trans (World.drewN_drewN _ _ _) (congrArg (World.drewN _) (Nat.add_assoc _ _ _))⟩)) | (go_at_call 24; (with_reducible refine (fbits_Parts.calls kj10 a1 t894 t895 t896 t897 _ A20.out).mono ?_); rintro e w' ⟨rfl, ⟨nd, rfl⟩⟩; (try first | exact ⟨rfl, _, World.drewN_drewN _ _ _⟩ | exact ⟨rfl, _, Eq.trans (World.drewN_drewN _ _ _) (congrArg (World.drewN _) (Nat.add_assoc _ _ _))⟩)) | (go_at_call 120; (with_reducible refine (limb_Mul.calls t891 t895 t898 t899 _ A21.out).mono ?_); rintro e w' ⟨rfl, ⟨nd, rfl⟩⟩; (try first | exact ⟨rfl, _, World.drewN_drewN _ _ _⟩ | exact ⟨rfl, _, Eq.trans (World.drewN_drewN _ _ _) (congrArg (World.drewN _) (Nat.add_assoc _ _ _))⟩)) | (go_at_call 87; (with_reducible refine (limb_Len.calls kj10 t898 t900 _ A22.out).mono ?_); rintro e w' ⟨rfl, ⟨nd, rfl⟩⟩; (try first | exact ⟨rfl, _, World.drewN_drewN _ _ _⟩ | exact ⟨rfl, _, Eq.trans (World.drewN_drewN _ _ _) (congrArg (World.drewN _) (Nat.add_assoc _ _ _))⟩)) | (go_at_call 36; (with_reducible refine (fround_Word.calls kj10 (!(t885 == t886)) (Go.bits .or .u64 (ji28) (ji30)) (wrap64 ((wrap64 (t892 + t896)) + t900)) t902 _ A34.out).mono ?_); rintro e w35 ⟨rfl, hb⟩; have n0_ := Aside0.mk (below_step (by repeat (first | (with_reducible first | exact HB.out | apply below_alloc | apply pw_below_drewN | apply below_drew1) | exact HB.out)) hb); clear HB; have HB := n0_; clear n0_; (try clear hb); (try clear hb2); (try clear hk); (try clear hi))); try go_wp2_with (first | (go_at_call 24; (with_reducible refine (fbits_Parts.calls kj10 a0 t890 t891 t892 t893 _ A19.out).mono ?_); rintro e w' ⟨rfl, ⟨nd, rfl⟩⟩; (try first | exact ⟨rfl, _, World.drewN_drewN _ _ _⟩ | exact ⟨rfl, _, Eq.trans (World.drewN_drewN _ _ _) (congrArg (World.drewN _) (Nat.add_assoc _ _ _))⟩)) | (go_at_call 24; (with_reducible refine (fbits_Parts.calls kj10 a1 t894 t895 t896 t897 _ A20.out).mono ?_); rintro e w' ⟨rfl, ⟨nd, rfl⟩⟩; (try first | exact ⟨rfl, _, World.drewN_drewN _ _ _⟩ | exact ⟨rfl, _, Eq.trans (World.drewN_drewN _ _ _) (congrArg (World.drewN _) (Nat.add_assoc _ _ _))⟩)) | (go_at_call 120; (with_reducible refine (limb_Mul.calls t891 t895 t898 t899 _ A21.out).mono ?_); rintro e w' ⟨rfl, ⟨nd, rfl⟩⟩; (try first | exact ⟨rfl, _, World.drewN_drewN _ _ _⟩ | exact ⟨rfl, _, Eq.trans (World.drewN_drewN _ _ _) (congrArg (World.drewN _) (Nat.add_assoc _ _ _))⟩)) | (go_at_call 87; (with_reducible refine (limb_Len.calls kj10 t898 t900 _ A22.out).mono ?_); rintro e w' ⟨rfl, ⟨nd, rfl⟩⟩; (try first | exact ⟨rfl, _, World.drewN_drewN _ _ _⟩ | exact ⟨rfl, _, Eq.trans (World.drewN_drewN _ _ _) (congrArg (World.drewN _) (Nat.add_assoc _ _ _))⟩)) | (go_at_call 36; (with_reducible refine (fround_Word.calls kj10 (!(t885 == t886)) (Go.bits .or .u64 (ji28) (ji30)) (wrap64 ((wrap64 (t892 + t896)) + t900)) t902 _ A34.out).mono ?_); rintro e w35 ⟨rfl, hb⟩; have n0_ := Aside0.mk (below_step (by repeat (first | (with_reducible first | exact HB.out | apply below_alloc | apply pw_below_drewN | apply below_drew1) | exact HB.out)) hb); clear HB; have HB := n0_; clear n0_; (try clear hb); (try clear hb2); (try clear hk); (try clear hi))))
                      go_ret
                      exact ⟨by first | rfl | (simp [errW_none, errW_some] <;> rfl) | (simp only [← hji26, ← hji28, ← hji30, ← hji32]; first | rfl | (simp [errW_none, errW_some] <;> rfl)) | (simp [*, errW_none, errW_some] <;> rfl), by repeat (first | (with_reducible first | exact HB.out | apply below_alloc | apply pw_below_drewN | apply below_drew1) | exact HB.out)⟩
                    · rw [if_neg c33] at H
                      have c33b0 : ((ji32) == 0) = false := beq_eq_false_iff_ne.mpr c33
                      have c33b1 : ((ji32) != 0) = true := bne_iff_ne.mpr c33
                      replace H := Option.bind_eq_some_iff.mp H
                      obtain ⟨t903, A360, H⟩ := H
                      replace H : (some t903) = some r := H
                      have A36 := Aside0.mk A360
                      clear A360
                      obtain rfl := Option.some.inj H
                      go_wp2_with (first | (go_at_call 24; (with_reducible refine (fbits_Parts.calls kj10 a0 t890 t891 t892 t893 _ A19.out).mono ?_); rintro e w' ⟨rfl, ⟨nd, rfl⟩⟩; (try first | exact ⟨rfl, _, World.drewN_drewN _ _ _⟩ | exact ⟨rfl, _, Eq.trans (World.drewN_drewN _ _ _) (congrArg (World.drewN _) (Nat.add_assoc _ _ _))⟩)) | (go_at_call 24; (with_reducible refine (fbits_Parts.calls kj10 a1 t894 t895 t896 t897 _ A20.out).mono ?_); rintro e w' ⟨rfl, ⟨nd, rfl⟩⟩; (try first | exact ⟨rfl, _, World.drewN_drewN _ _ _⟩ | exact ⟨rfl, _, Eq.trans (World.drewN_drewN _ _ _) (congrArg (World.drewN _) (Nat.add_assoc _ _ _))⟩)) | (go_at_call 120; (with_reducible refine (limb_Mul.calls t891 t895 t898 t899 _ A21.out).mono ?_); rintro e w' ⟨rfl, ⟨nd, rfl⟩⟩; (try first | exact ⟨rfl, _, World.drewN_drewN _ _ _⟩ | exact ⟨rfl, _, Eq.trans (World.drewN_drewN _ _ _) (congrArg (World.drewN _) (Nat.add_assoc _ _ _))⟩)) | (go_at_call 87; (with_reducible refine (limb_Len.calls kj10 t898 t900 _ A22.out).mono ?_); rintro e w' ⟨rfl, ⟨nd, rfl⟩⟩; (try first | exact ⟨rfl, _, World.drewN_drewN _ _ _⟩ | exact ⟨rfl, _, Eq.trans (World.drewN_drewN _ _ _) (congrArg (World.drewN _) (Nat.add_assoc _ _ _))⟩)) | (go_at_call 36; (with_reducible refine (fround_Word.calls kj10 (!(t885 == t886)) (Go.bits .or .u64 (Go.bits .or .u64 (ji28) (ji30)) 1) (wrap64 ((wrap64 (t892 + t896)) + t900)) t903 _ A36.out).mono ?_); rintro e w37 ⟨rfl, hb⟩; have n0_ := Aside0.mk (below_step (by repeat (first | (with_reducible first | exact HB.out | apply below_alloc | apply pw_below_drewN | apply below_drew1) | exact HB.out)) hb); clear HB; have HB := n0_; clear n0_; (try clear hb); (try clear hb2); (try clear hk); (try clear hi)))
                      repeat (go_quiet (first | (go_at_call 24; (with_reducible refine (fbits_Parts.calls kj10 a0 t890 t891 t892 t893 _ A19.out).mono ?_); rintro e w' ⟨rfl, ⟨nd, rfl⟩⟩; (try first | exact ⟨rfl, _, World.drewN_drewN _ _ _⟩ | exact ⟨rfl, _, Eq.trans (World.drewN_drewN _ _ _) (congrArg (World.drewN _) (Nat.add_assoc _ _ _))⟩)) | (go_at_call 24; (with_reducible refine (fbits_Parts.calls kj10 a1 t894 t895 t896 t897 _ A20.out).mono ?_); rintro e w' ⟨rfl, ⟨nd, rfl⟩⟩; (try first | exact ⟨rfl, _, World.drewN_drewN _ _ _⟩ | exact ⟨rfl, _, Eq.trans (World.drewN_drewN _ _ _) (congrArg (World.drewN _) (Nat.add_assoc _ _ _))⟩)) | (go_at_call 120; (with_reducible refine (limb_Mul.calls t891 t895 t898 t899 _ A21.out).mono ?_); rintro e w' ⟨rfl, ⟨nd, rfl⟩⟩; (try first | exact ⟨rfl, _, World.drewN_drewN _ _ _⟩ | exact ⟨rfl, _, Eq.trans (World.drewN_drewN _ _ _) (congrArg (World.drewN _) (Nat.add_assoc _ _ _))⟩)) | (go_at_call 87; (with_reducible refine (limb_Len.calls kj10 t898 t900 _ A22.out).mono ?_); rintro e w' ⟨rfl, ⟨nd, rfl⟩⟩; (try first | exact ⟨rfl, _, World.drewN_drewN _ _ _⟩ | exact ⟨rfl, _, Eq.trans (World.drewN_drewN _ _ _) (congrArg (World.drewN _) (Nat.add_assoc _ _ _))⟩)) | (go_at_call 36; (with_reducible refine (fround_Word.calls kj10 (!(t885 == t886)) (Go.bits .or .u64 (Go.bits .or .u64 (ji28) (ji30)) 1) (wrap64 ((wrap64 (t892 + t896)) + t900)) t903 _ A36.out).mono ?_); rintro e w37 ⟨rfl, hb⟩; have n0_ := Aside0.mk (below_step (by repeat (first | (with_reducible first | exact HB.out | apply below_alloc | apply pw_below_drewN | apply below_drew1) | exact HB.out)) hb); clear HB; have HB := n0_; clear n0_; (try clear hb); (try clear hb2); (try clear hk); (try clear hi))); try go_wp2_with (first | (go_at_call 24; (with_reducible refine (fbits_Parts.calls kj10 a0 t890 t891 t892 t893 _ A19.out).mono ?_); rintro e w' ⟨rfl, ⟨nd, rfl⟩⟩; (try first | exact ⟨rfl, _, World.drewN_drewN _ _ _⟩ | exact ⟨rfl, _, Eq.trans (World.drewN_drewN _ _ _) (congrArg (World.drewN _) (Nat.add_assoc _ _ _))⟩)) | (go_at_call 24; (with_reducible refine (fbits_Parts.calls kj10 a1 t894 t895 t896 t897 _ A20.out).mono ?_); rintro e w' ⟨rfl, ⟨nd, rfl⟩⟩; (try first | exact ⟨rfl, _, World.drewN_drewN _ _ _⟩ | exact ⟨rfl, _, Eq.trans (World.drewN_drewN _ _ _) (congrArg (World.drewN _) (Nat.add_assoc _ _ _))⟩)) | (go_at_call 120; (with_reducible refine (limb_Mul.calls t891 t895 t898 t899 _ A21.out).mono ?_); rintro e w' ⟨rfl, ⟨nd, rfl⟩⟩; (try first | exact ⟨rfl, _, World.drewN_drewN _ _ _⟩ | exact ⟨rfl, _, Eq.trans (World.drewN_drewN _ _ _) (congrArg (World.drewN _) (Nat.add_assoc _ _ _))⟩)) | (go_at_call 87; (with_reducible refine (limb_Len.calls kj10 t898 t900 _ A22.out).mono ?_); rintro e w' ⟨rfl, ⟨nd, rfl⟩⟩; (try first | exact ⟨rfl, _, World.drewN_drewN _ _ _⟩ | exact ⟨rfl, _, Eq.trans (World.drewN_drewN _ _ _) (congrArg (World.drewN _) (Nat.add_assoc _ _ _))⟩)) | (go_at_call 36; (with_reducible refine (fround_Word.calls kj10 (!(t885 == t886)) (Go.bits .or .u64 (Go.bits .or .u64 (ji28) (ji30)) 1) (wrap64 ((wrap64 (t892 + t896)) + t900)) t903 _ A36.out).mono ?_); rintro e w37 ⟨rfl, hb⟩; have n0_ := Aside0.mk (below_step (by repeat (first | (with_reducible first | exact HB.out | apply below_alloc | apply pw_below_drewN | apply below_drew1) | exact HB.out)) hb); clear HB; have HB := n0_; clear n0_; (try clear hb); (try clear hb2); (try clear hk); (try clear hi))))
                      go_ret
                      exact ⟨by first | rfl | (simp [errW_none, errW_some] <;> rfl) | (simp only [← hji26, ← hji28, ← hji30, ← hji32]; first | rfl | (simp [errW_none, errW_some] <;> rfl)) | (simp [*, errW_none, errW_some] <;> rfl), by repeat (first | (with_reducible first | exact HB.out | apply below_alloc | apply pw_below_drewN | apply below_drew1) | exact HB.out)⟩
                  · rw [if_neg c29] at H
                    exact absurd H (by simp)
                · rw [if_neg c27] at H
                  exact absurd H (by simp)

/-! ### fprod_root: function 124 -/
def fprod_root.l0 : Nat → Int → Int → Int → Option (Int × Bool)
  | 0, _, _, _ => none
  | k + 1, x0, x4, x5 => if x5 > 0 then ((limb_Mul.f (Go.bits .or .u64 x4 x5) (Go.bits .or .u64 x4 x5)).bind fun bt972 => (if bt972.1 < x0 then (fprod_root.l0 k x0 (Go.bits .or .u64 x4 x5) (x5 / 2)) else (if bt972.1 = x0 then (if bt972.2 = 0 then (fprod_root.l0 k x0 (Go.bits .or .u64 x4 x5) (x5 / 2)) else (fprod_root.l0 k x0 x4 (x5 / 2))) else (fprod_root.l0 k x0 x4 (x5 / 2))))) else ((limb_Mul.f x4 x4).bind fun bt974 => (if bt974.1 = x0 then (some (x4, (bt974.2 == 0))) else (some (x4, false))))
def fprod_root.f (k : Nat) (a0 : Int) : Option (Int × Bool) := fprod_root.l0 k a0 0 9223372036854775808
set_option maxHeartbeats 8000000 in
set_option maxRecDepth 100000 in
theorem fprod_root.calls (k : Nat) (a0 : Int) (r1 : Int) (r2 : Bool) (w : World) (h : fprod_root.f k a0 = some (r1, r2)) :
    Calls Try.prog 124 #[.int .u64 a0] w fun e w' => e = .returned (.tuple #[.int .u64 r1, .bool r2]) ∧ Drawn0 w w' := by
  have H : (fprod_root.l0 k a0 0 9223372036854775808) = some (r1, r2) := h
  clear h
  have H' := Aside0.mk H
  clear H
  go_enter Try.func124, Try.ntmps124
  go_wp2
  go_loopg [4, 5] k (fun kq v4 v5 w' => ∃ (x4_1 : Int) (x5_1 : Int), v4 = .int .u64 x4_1 ∧ v5 = .int .u64 x5_1 ∧ Aside0 (fprod_root.l0 kq a0 x4_1 x5_1 = some (r1, r2)) ∧ Aside0 (kq ≤ k) ∧ Drawn0 w w')
  case atStart => exact ⟨(0), (9223372036854775808), (by first | rfl | (simp; done) | (simp [*]; done)), (by first | rfl | (simp; done) | (simp [*]; done)), H', ⟨Nat.le_refl _⟩, by repeat (first | exact Drawn0.refl _ | apply Drawn0.step)⟩
  case round =>
    clear H'
    try clear c1
    obtain ⟨x4_1, x5_1, rfl, rfl, HA, HK1, ⟨m1, rfl⟩⟩ := hrel
    cases gk with
    | zero => exact absurd HA.out (by simp [fprod_root.l0])
    | succ k1 =>
      have H := HA.out
      clear HA
      simp only [fprod_root.l0] at H
      by_cases c2 : x5_1 > 0
      · rw [if_pos c2] at H
        have c2b0 : decide (0 < x5_1) = true := decide_eq_true c2
        clear c2
        replace H := Option.bind_eq_some_iff.mp H
        obtain ⟨⟨t972, t973⟩, A30, H⟩ := H
        replace H : (if t972 < a0 then (fprod_root.l0 k1 a0 (Go.bits .or .u64 x4_1 x5_1) (x5_1 / 2)) else (if t972 = a0 then (if t973 = 0 then (fprod_root.l0 k1 a0 (Go.bits .or .u64 x4_1 x5_1) (x5_1 / 2)) else (fprod_root.l0 k1 a0 x4_1 (x5_1 / 2))) else (fprod_root.l0 k1 a0 x4_1 (x5_1 / 2)))) = some (r1, r2) := H
        have A3 := Aside0.mk A30
        clear A30
        by_cases c4 : t972 < a0
        · rw [if_pos c4] at H
          have c4b0 : decide (t972 < a0) = true := decide_eq_true c4
          clear c4
          have H' := Aside0.mk H
          clear H
          go_wp2_with (first | ((with_reducible refine gate_callee (f := 120) rfl ?_); refine goesL_ (some 21) rfl rfl Try.func120 (by kernel_rfl) rfl #[.int .u64 (Go.bits .or .u64 x4_1 x5_1), .int .u64 (Go.bits .or .u64 x4_1 x5_1)] rfl (by (try simp only [List.map_toArray, List.map_cons, List.map_nil]); first | done | rfl | (simp only [List.length_drop, List.length_take]; rfl) | (simp only [*]; done)) ?_; (with_reducible refine (limb_Mul.calls (Go.bits .or .u64 x4_1 x5_1) (Go.bits .or .u64 x4_1 x5_1) t972 t973 _ A3.out).mono ?_); rintro e w' ⟨rfl, ⟨nd, rfl⟩⟩; refine ⟨_, rfl, ?_⟩))
          go_roundg k1
          case measure => have := HK1.out; omega
          case rel => exact ⟨(Go.bits .or .u64 x4_1 x5_1), (x5_1 / 2), (by first | rfl | (simp; done) | (simp [*]; done)), (by first | rfl | (simp; done) | (simp [*]; done)), H', ⟨by have := HK1.out; omega⟩, by repeat (first | exact Drawn0.refl _ | apply Drawn0.step)⟩
        · rw [if_neg c4] at H
          have c4b0 : decide (t972 < a0) = false := decide_eq_false c4
          clear c4
          by_cases c5 : t972 = a0
          · rw [if_pos c5] at H
            have c5b0 : (t972 == a0) = true := beq_iff_eq.mpr c5
            have c5b1 : (t972 != a0) = false := bne_eq_false_iff_eq.mpr c5
            clear c5
            by_cases c6 : t973 = 0
            · rw [if_pos c6] at H
              have c6b0 : (t973 == 0) = true := beq_iff_eq.mpr c6
              have c6b1 : (t973 != 0) = false := bne_eq_false_iff_eq.mpr c6
              clear c6
              have H' := Aside0.mk H
              clear H
              go_wp2_with (first | ((with_reducible refine gate_callee (f := 120) rfl ?_); refine goesL_ (some 21) rfl rfl Try.func120 (by kernel_rfl) rfl #[.int .u64 (Go.bits .or .u64 x4_1 x5_1), .int .u64 (Go.bits .or .u64 x4_1 x5_1)] rfl (by (try simp only [List.map_toArray, List.map_cons, List.map_nil]); first | done | rfl | (simp only [List.length_drop, List.length_take]; rfl) | (simp only [*]; done)) ?_; (with_reducible refine (limb_Mul.calls (Go.bits .or .u64 x4_1 x5_1) (Go.bits .or .u64 x4_1 x5_1) t972 t973 _ A3.out).mono ?_); rintro e w' ⟨rfl, ⟨nd, rfl⟩⟩; refine ⟨_, rfl, ?_⟩))
              go_roundg k1
              case measure => have := HK1.out; omega
              case rel => exact ⟨(Go.bits .or .u64 x4_1 x5_1), (x5_1 / 2), (by first | rfl | (simp; done) | (simp [*]; done)), (by first | rfl | (simp; done) | (simp [*]; done)), H', ⟨by have := HK1.out; omega⟩, by repeat (first | exact Drawn0.refl _ | apply Drawn0.step)⟩
            · rw [if_neg c6] at H
              have c6b0 : (t973 == 0) = false := beq_eq_false_iff_ne.mpr c6
              have c6b1 : (t973 != 0) = true := bne_iff_ne.mpr c6
              have H' := Aside0.mk H
              clear H
              go_wp2_with (first | ((with_reducible refine gate_callee (f := 120) rfl ?_); refine goesL_ (some 21) rfl rfl Try.func120 (by kernel_rfl) rfl #[.int .u64 (Go.bits .or .u64 x4_1 x5_1), .int .u64 (Go.bits .or .u64 x4_1 x5_1)] rfl (by (try simp only [List.map_toArray, List.map_cons, List.map_nil]); first | done | rfl | (simp only [List.length_drop, List.length_take]; rfl) | (simp only [*]; done)) ?_; (with_reducible refine (limb_Mul.calls (Go.bits .or .u64 x4_1 x5_1) (Go.bits .or .u64 x4_1 x5_1) t972 t973 _ A3.out).mono ?_); rintro e w' ⟨rfl, ⟨nd, rfl⟩⟩; refine ⟨_, rfl, ?_⟩))
              go_roundg k1
              case measure => have := HK1.out; omega
              case rel => exact ⟨(x4_1), (x5_1 / 2), (by first | rfl | (simp; done) | (simp [*]; done)), (by first | rfl | (simp; done) | (simp [*]; done)), H', ⟨by have := HK1.out; omega⟩, by repeat (first | exact Drawn0.refl _ | apply Drawn0.step)⟩
          · rw [if_neg c5] at H
            have c5b0 : (t972 == a0) = false := beq_eq_false_iff_ne.mpr c5
            have c5b1 : (t972 != a0) = true := bne_iff_ne.mpr c5
            have H' := Aside0.mk H
            clear H
            go_wp2_with (first | ((with_reducible refine gate_callee (f := 120) rfl ?_); refine goesL_ (some 21) rfl rfl Try.func120 (by kernel_rfl) rfl #[.int .u64 (Go.bits .or .u64 x4_1 x5_1), .int .u64 (Go.bits .or .u64 x4_1 x5_1)] rfl (by (try simp only [List.map_toArray, List.map_cons, List.map_nil]); first | done | rfl | (simp only [List.length_drop, List.length_take]; rfl) | (simp only [*]; done)) ?_; (with_reducible refine (limb_Mul.calls (Go.bits .or .u64 x4_1 x5_1) (Go.bits .or .u64 x4_1 x5_1) t972 t973 _ A3.out).mono ?_); rintro e w' ⟨rfl, ⟨nd, rfl⟩⟩; refine ⟨_, rfl, ?_⟩))
            go_roundg k1
            case measure => have := HK1.out; omega
            case rel => exact ⟨(x4_1), (x5_1 / 2), (by first | rfl | (simp; done) | (simp [*]; done)), (by first | rfl | (simp; done) | (simp [*]; done)), H', ⟨by have := HK1.out; omega⟩, by repeat (first | exact Drawn0.refl _ | apply Drawn0.step)⟩
      · rw [if_neg c2] at H
        have c2b0 : decide (0 < x5_1) = false := decide_eq_false c2
        clear c2
        replace H := Option.bind_eq_some_iff.mp H
        obtain ⟨⟨t974, t975⟩, A70, H⟩ := H
        replace H : (if t974 = a0 then (some (x4_1, (t975 == 0))) else (some (x4_1, false))) = some (r1, r2) := H
        have A7 := Aside0.mk A70
        clear A70
        by_cases c8 : t974 = a0
        · rw [if_pos c8] at H
          have c8b0 : (t974 == a0) = true := beq_iff_eq.mpr c8
          have c8b1 : (t974 != a0) = false := bne_eq_false_iff_eq.mpr c8
          clear c8
          simp only [Option.some.injEq, Prod.mk.injEq] at H
          obtain ⟨rfl, rfl⟩ := H
          go_wp2_with (first | ((with_reducible refine gate_callee (f := 120) rfl ?_); refine goesL_ (some 42) rfl rfl Try.func120 (by kernel_rfl) rfl #[.int .u64 x4_1, .int .u64 x4_1] rfl (by (try simp only [List.map_toArray, List.map_cons, List.map_nil]); first | done | rfl | (simp only [List.length_drop, List.length_take]; rfl) | (simp only [*]; done)) ?_; (with_reducible refine (limb_Mul.calls x4_1 x4_1 t974 t975 _ A7.out).mono ?_); rintro e w' ⟨rfl, ⟨nd, rfl⟩⟩; refine ⟨_, rfl, ?_⟩))
          go_ret2
          exact ⟨by first | rfl | (simp; done) | (simp [*]; done), by repeat (first | exact Drawn0.refl _ | apply Drawn0.step)⟩
        · rw [if_neg c8] at H
          have c8b0 : (t974 == a0) = false := beq_eq_false_iff_ne.mpr c8
          have c8b1 : (t974 != a0) = true := bne_iff_ne.mpr c8
          simp only [Option.some.injEq, Prod.mk.injEq] at H
          obtain ⟨rfl, rfl⟩ := H
          go_wp2_with (first | ((with_reducible refine gate_callee (f := 120) rfl ?_); refine goesL_ (some 42) rfl rfl Try.func120 (by kernel_rfl) rfl #[.int .u64 x4_1, .int .u64 x4_1] rfl (by (try simp only [List.map_toArray, List.map_cons, List.map_nil]); first | done | rfl | (simp only [List.length_drop, List.length_take]; rfl) | (simp only [*]; done)) ?_; (with_reducible refine (limb_Mul.calls x4_1 x4_1 t974 t975 _ A7.out).mono ?_); rintro e w' ⟨rfl, ⟨nd, rfl⟩⟩; refine ⟨_, rfl, ?_⟩))
          go_ret2
          exact ⟨by first | rfl | (simp; done) | (simp [*]; done), by repeat (first | exact Drawn0.refl _ | apply Drawn0.step)⟩

/-! ### fprod_Sqrt: function 71 -/
def fprod_Sqrt.j0 : Nat → Int → Int → Int → Option (Int)
  | 0, _, _, _ => none
  | k + 1, x4, x5, x7 => if 0 ≤ (wrap64 (x7 - 64)) then ((fprod_root.f k (shl .u64 x4 (wrap64 (x7 - 64)))).bind fun bt987 => (if bt987.2 = true then ((fround_Word.f k false bt987.1 (wrap64 (Int.tdiv (wrap64 (x5 - x7)) 2))).bind fun t989 => (some t989)) else ((fround_Word.f k false (Go.bits .or .u64 bt987.1 1) (wrap64 (Int.tdiv (wrap64 (x5 - x7)) 2))).bind fun t990 => (some t990)))) else (none)
def fprod_Sqrt.f (k : Nat) (a0 : Int) : Option (Int) := (fbits_Kind.f a0).bind fun t976 => (if t976 = 4 then ((fbits_Nan.f).bind fun t977 => (some t977)) else (if t976 = 3 then ((fbits_Neg.f a0).bind fun t978 => (if t978 = true then ((fbits_Nan.f).bind fun t979 => (some t979)) else (some a0))) else (if t976 = 0 then (some a0) else ((fbits_Neg.f a0).bind fun t980 => (if t980 = true then ((fbits_Nan.f).bind fun t981 => (some t981)) else ((fbits_Parts.f k a0).bind fun bt982 => ((limb_Len.f k bt982.2.1).bind fun t986 => (if (Go.bits .and .i64 (wrap64 (bt982.2.2.1 - (wrap64 (126 - t986)))) 1) = 0 then (fprod_Sqrt.j0 k bt982.2.1 bt982.2.2.1 (wrap64 (126 - t986))) else (fprod_Sqrt.j0 k bt982.2.1 bt982.2.2.1 (wrap64 ((wrap64 (126 - t986)) - 1)))))))))))
set_option maxHeartbeats 8000000 in
set_option maxRecDepth 100000 in
theorem fprod_Sqrt.calls (k : Nat) (a0 : Int) (r : Int) (w : World) (h : fprod_Sqrt.f k a0 = some r) :
    Calls Try.prog 71 #[.int .u64 a0] w fun e w' => e = .returned (.int .u64 r) ∧ Below w.heap.size w w' := by
  have HB := Aside0.mk (Below.refl w.heap.size w)
  have H : ((fbits_Kind.f a0).bind fun t976 => (if t976 = 4 then ((fbits_Nan.f).bind fun t977 => (some t977)) else (if t976 = 3 then ((fbits_Neg.f a0).bind fun t978 => (if t978 = true then ((fbits_Nan.f).bind fun t979 => (some t979)) else (some a0))) else (if t976 = 0 then (some a0) else ((fbits_Neg.f a0).bind fun t980 => (if t980 = true then ((fbits_Nan.f).bind fun t981 => (some t981)) else ((fbits_Parts.f k a0).bind fun bt982 => ((limb_Len.f k bt982.2.1).bind fun t986 => (if (Go.bits .and .i64 (wrap64 (bt982.2.2.1 - (wrap64 (126 - t986)))) 1) = 0 then (fprod_Sqrt.j0 k bt982.2.1 bt982.2.2.1 (wrap64 (126 - t986))) else (fprod_Sqrt.j0 k bt982.2.1 bt982.2.2.1 (wrap64 ((wrap64 (126 - t986)) - 1)))))))))))) = some r := h
  clear h
  replace H := Option.bind_eq_some_iff.mp H
  obtain ⟨t976, A20, H⟩ := H
  replace H : (if t976 = 4 then ((fbits_Nan.f).bind fun t977 => (some t977)) else (if t976 = 3 then ((fbits_Neg.f a0).bind fun t978 => (if t978 = true then ((fbits_Nan.f).bind fun t979 => (some t979)) else (some a0))) else (if t976 = 0 then (some a0) else ((fbits_Neg.f a0).bind fun t980 => (if t980 = true then ((fbits_Nan.f).bind fun t981 => (some t981)) else ((fbits_Parts.f k a0).bind fun bt982 => ((limb_Len.f k bt982.2.1).bind fun t986 => (if (Go.bits .and .i64 (wrap64 (bt982.2.2.1 - (wrap64 (126 - t986)))) 1) = 0 then (fprod_Sqrt.j0 k bt982.2.1 bt982.2.2.1 (wrap64 (126 - t986))) else (fprod_Sqrt.j0 k bt982.2.1 bt982.2.2.1 (wrap64 ((wrap64 (126 - t986)) - 1))))))))))) = some r := H
  have A2 := Aside0.mk A20
  clear A20
  by_cases c3 : t976 = 4
  · rw [if_pos c3] at H
    have c3b0 : (t976 == 4) = true := beq_iff_eq.mpr c3
    have c3b1 : (t976 != 4) = false := bne_eq_false_iff_eq.mpr c3
    clear c3
    replace H := Option.bind_eq_some_iff.mp H
    obtain ⟨t977, A40, H⟩ := H
    replace H : (some t977) = some r := H
    have A4 := Aside0.mk A40
    clear A40
    obtain rfl := Option.some.inj H
    go_enter Try.func71, Try.ntmps71
    go_wp2_with (first | ((with_reducible refine gate_callee (f := 39) rfl ?_); refine goesL_ (some 11) rfl rfl Try.func39 (by kernel_rfl) rfl #[.int .u64 a0] rfl (by (try simp only [List.map_toArray, List.map_cons, List.map_nil]); first | done | rfl | (simp only [List.length_drop, List.length_take]; rfl) | (simp only [*]; done)) ?_; (with_reducible refine (fbits_Kind.calls a0 t976 _ A2.out).mono ?_); rintro e w' ⟨rfl, ⟨nd, rfl⟩⟩; refine ⟨_, rfl, ?_⟩) | ((with_reducible refine gate_callee (f := 32) rfl ?_); refine goesL_ (some 18) rfl rfl Try.func32 (by kernel_rfl) rfl #[] rfl (by (try simp only [List.map_toArray, List.map_cons, List.map_nil]); first | done | rfl | (simp only [List.length_drop, List.length_take]; rfl) | (simp only [*]; done)) ?_; (with_reducible refine (fbits_Nan.calls  t977 _ A4.out).mono ?_); rintro e w' ⟨rfl, ⟨nd, rfl⟩⟩; refine ⟨_, rfl, ?_⟩))
    go_ret
    exact ⟨by first | rfl | (simp [errW_none, errW_some] <;> rfl) | (simp [*, errW_none, errW_some] <;> rfl), by repeat (first | (with_reducible first | exact HB.out | apply below_alloc | apply pw_below_drewN | apply below_drew1) | exact HB.out)⟩
  · rw [if_neg c3] at H
    have c3b0 : (t976 == 4) = false := beq_eq_false_iff_ne.mpr c3
    have c3b1 : (t976 != 4) = true := bne_iff_ne.mpr c3
    by_cases c5 : t976 = 3
    · rw [if_pos c5] at H
      have c5b0 : (t976 == 3) = true := beq_iff_eq.mpr c5
      have c5b1 : (t976 != 3) = false := bne_eq_false_iff_eq.mpr c5
      clear c5
      replace H := Option.bind_eq_some_iff.mp H
      obtain ⟨t978, A60, H⟩ := H
      replace H : (if t978 = true then ((fbits_Nan.f).bind fun t979 => (some t979)) else (some a0)) = some r := H
      have A6 := Aside0.mk A60
      clear A60
      by_cases c7 : t978 = true
      · subst c7
        have H1 : ((fbits_Nan.f).bind fun t979 => (some t979)) = some r := by rw [if_pos rfl] at H; exact H
        clear H
        have H := H1
        clear H1
        replace H := Option.bind_eq_some_iff.mp H
        obtain ⟨t979, A80, H⟩ := H
        replace H : (some t979) = some r := H
        have A8 := Aside0.mk A80
        clear A80
        obtain rfl := Option.some.inj H
        go_enter Try.func71, Try.ntmps71
        go_wp2_with (first | ((with_reducible refine gate_callee (f := 39) rfl ?_); refine goesL_ (some 11) rfl rfl Try.func39 (by kernel_rfl) rfl #[.int .u64 a0] rfl (by (try simp only [List.map_toArray, List.map_cons, List.map_nil]); first | done | rfl | (simp only [List.length_drop, List.length_take]; rfl) | (simp only [*]; done)) ?_; (with_reducible refine (fbits_Kind.calls a0 t976 _ A2.out).mono ?_); rintro e w' ⟨rfl, ⟨nd, rfl⟩⟩; refine ⟨_, rfl, ?_⟩) | ((with_reducible refine gate_callee (f := 41) rfl ?_); refine goesL_ (some 20) rfl rfl Try.func41 (by kernel_rfl) rfl #[.int .u64 a0] rfl (by (try simp only [List.map_toArray, List.map_cons, List.map_nil]); first | done | rfl | (simp only [List.length_drop, List.length_take]; rfl) | (simp only [*]; done)) ?_; (with_reducible refine (fbits_Neg.calls a0 true _ A6.out).mono ?_); rintro e w' ⟨rfl, ⟨nd, rfl⟩⟩; refine ⟨_, rfl, ?_⟩) | ((with_reducible refine gate_callee (f := 32) rfl ?_); refine goesL_ (some 21) rfl rfl Try.func32 (by kernel_rfl) rfl #[] rfl (by (try simp only [List.map_toArray, List.map_cons, List.map_nil]); first | done | rfl | (simp only [List.length_drop, List.length_take]; rfl) | (simp only [*]; done)) ?_; (with_reducible refine (fbits_Nan.calls  t979 _ A8.out).mono ?_); rintro e w' ⟨rfl, ⟨nd, rfl⟩⟩; refine ⟨_, rfl, ?_⟩))
        go_ret
        exact ⟨by first | rfl | (simp [errW_none, errW_some] <;> rfl) | (simp [*, errW_none, errW_some] <;> rfl), by repeat (first | (with_reducible first | exact HB.out | apply below_alloc | apply pw_below_drewN | apply below_drew1) | exact HB.out)⟩
      · replace c7 := Bool.eq_false_iff.mpr c7
        subst c7
        have H1 : (some a0) = some r := by rw [if_neg (show ¬ (false = true) by decide)] at H; exact H
        clear H
        have H := H1
        clear H1
        obtain rfl := Option.some.inj H
        go_enter Try.func71, Try.ntmps71
        go_wp2_with (first | ((with_reducible refine gate_callee (f := 39) rfl ?_); refine goesL_ (some 11) rfl rfl Try.func39 (by kernel_rfl) rfl #[.int .u64 a0] rfl (by (try simp only [List.map_toArray, List.map_cons, List.map_nil]); first | done | rfl | (simp only [List.length_drop, List.length_take]; rfl) | (simp only [*]; done)) ?_; (with_reducible refine (fbits_Kind.calls a0 t976 _ A2.out).mono ?_); rintro e w' ⟨rfl, ⟨nd, rfl⟩⟩; refine ⟨_, rfl, ?_⟩) | ((with_reducible refine gate_callee (f := 41) rfl ?_); refine goesL_ (some 20) rfl rfl Try.func41 (by kernel_rfl) rfl #[.int .u64 a0] rfl (by (try simp only [List.map_toArray, List.map_cons, List.map_nil]); first | done | rfl | (simp only [List.length_drop, List.length_take]; rfl) | (simp only [*]; done)) ?_; (with_reducible refine (fbits_Neg.calls a0 false _ A6.out).mono ?_); rintro e w' ⟨rfl, ⟨nd, rfl⟩⟩; refine ⟨_, rfl, ?_⟩))
        go_ret
        exact ⟨by first | rfl | (simp [errW_none, errW_some] <;> rfl) | (simp [*, errW_none, errW_some] <;> rfl), by repeat (first | (with_reducible first | exact HB.out | apply below_alloc | apply pw_below_drewN | apply below_drew1) | exact HB.out)⟩
    · rw [if_neg c5] at H
      have c5b0 : (t976 == 3) = false := beq_eq_false_iff_ne.mpr c5
      have c5b1 : (t976 != 3) = true := bne_iff_ne.mpr c5
      by_cases c9 : t976 = 0
      · rw [if_pos c9] at H
        have c9b0 : (t976 == 0) = true := beq_iff_eq.mpr c9
        have c9b1 : (t976 != 0) = false := bne_eq_false_iff_eq.mpr c9
        clear c9
        obtain rfl := Option.some.inj H
        go_enter Try.func71, Try.ntmps71
        go_wp2_with (first | ((with_reducible refine gate_callee (f := 39) rfl ?_); refine goesL_ (some 11) rfl rfl Try.func39 (by kernel_rfl) rfl #[.int .u64 a0] rfl (by (try simp only [List.map_toArray, List.map_cons, List.map_nil]); first | done | rfl | (simp only [List.length_drop, List.length_take]; rfl) | (simp only [*]; done)) ?_; (with_reducible refine (fbits_Kind.calls a0 t976 _ A2.out).mono ?_); rintro e w' ⟨rfl, ⟨nd, rfl⟩⟩; refine ⟨_, rfl, ?_⟩))
        go_ret
        exact ⟨by first | rfl | (simp [errW_none, errW_some] <;> rfl) | (simp [*, errW_none, errW_some] <;> rfl), by repeat (first | (with_reducible first | exact HB.out | apply below_alloc | apply pw_below_drewN | apply below_drew1) | exact HB.out)⟩
      · rw [if_neg c9] at H
        have c9b0 : (t976 == 0) = false := beq_eq_false_iff_ne.mpr c9
        have c9b1 : (t976 != 0) = true := bne_iff_ne.mpr c9
        replace H := Option.bind_eq_some_iff.mp H
        obtain ⟨t980, A100, H⟩ := H
        replace H : (if t980 = true then ((fbits_Nan.f).bind fun t981 => (some t981)) else ((fbits_Parts.f k a0).bind fun bt982 => ((limb_Len.f k bt982.2.1).bind fun t986 => (if (Go.bits .and .i64 (wrap64 (bt982.2.2.1 - (wrap64 (126 - t986)))) 1) = 0 then (fprod_Sqrt.j0 k bt982.2.1 bt982.2.2.1 (wrap64 (126 - t986))) else (fprod_Sqrt.j0 k bt982.2.1 bt982.2.2.1 (wrap64 ((wrap64 (126 - t986)) - 1))))))) = some r := H
        have A10 := Aside0.mk A100
        clear A100
        by_cases c11 : t980 = true
        · subst c11
          have H1 : ((fbits_Nan.f).bind fun t981 => (some t981)) = some r := by rw [if_pos rfl] at H; exact H
          clear H
          have H := H1
          clear H1
          replace H := Option.bind_eq_some_iff.mp H
          obtain ⟨t981, A120, H⟩ := H
          replace H : (some t981) = some r := H
          have A12 := Aside0.mk A120
          clear A120
          obtain rfl := Option.some.inj H
          go_enter Try.func71, Try.ntmps71
          go_wp2_with (first | ((with_reducible refine gate_callee (f := 39) rfl ?_); refine goesL_ (some 11) rfl rfl Try.func39 (by kernel_rfl) rfl #[.int .u64 a0] rfl (by (try simp only [List.map_toArray, List.map_cons, List.map_nil]); first | done | rfl | (simp only [List.length_drop, List.length_take]; rfl) | (simp only [*]; done)) ?_; (with_reducible refine (fbits_Kind.calls a0 t976 _ A2.out).mono ?_); rintro e w' ⟨rfl, ⟨nd, rfl⟩⟩; refine ⟨_, rfl, ?_⟩) | ((with_reducible refine gate_callee (f := 41) rfl ?_); refine goesL_ (some 24) rfl rfl Try.func41 (by kernel_rfl) rfl #[.int .u64 a0] rfl (by (try simp only [List.map_toArray, List.map_cons, List.map_nil]); first | done | rfl | (simp only [List.length_drop, List.length_take]; rfl) | (simp only [*]; done)) ?_; (with_reducible refine (fbits_Neg.calls a0 true _ A10.out).mono ?_); rintro e w' ⟨rfl, ⟨nd, rfl⟩⟩; refine ⟨_, rfl, ?_⟩) | ((with_reducible refine gate_callee (f := 32) rfl ?_); refine goesL_ (some 25) rfl rfl Try.func32 (by kernel_rfl) rfl #[] rfl (by (try simp only [List.map_toArray, List.map_cons, List.map_nil]); first | done | rfl | (simp only [List.length_drop, List.length_take]; rfl) | (simp only [*]; done)) ?_; (with_reducible refine (fbits_Nan.calls  t981 _ A12.out).mono ?_); rintro e w' ⟨rfl, ⟨nd, rfl⟩⟩; refine ⟨_, rfl, ?_⟩))
          go_ret
          exact ⟨by first | rfl | (simp [errW_none, errW_some] <;> rfl) | (simp [*, errW_none, errW_some] <;> rfl), by repeat (first | (with_reducible first | exact HB.out | apply below_alloc | apply pw_below_drewN | apply below_drew1) | exact HB.out)⟩
        · replace c11 := Bool.eq_false_iff.mpr c11
          subst c11
          have H1 : ((fbits_Parts.f k a0).bind fun bt982 => ((limb_Len.f k bt982.2.1).bind fun t986 => (if (Go.bits .and .i64 (wrap64 (bt982.2.2.1 - (wrap64 (126 - t986)))) 1) = 0 then (fprod_Sqrt.j0 k bt982.2.1 bt982.2.2.1 (wrap64 (126 - t986))) else (fprod_Sqrt.j0 k bt982.2.1 bt982.2.2.1 (wrap64 ((wrap64 (126 - t986)) - 1)))))) = some r := by rw [if_neg (show ¬ (false = true) by decide)] at H; exact H
          clear H
          have H := H1
          clear H1
          replace H := Option.bind_eq_some_iff.mp H
          obtain ⟨⟨t982, t983, t984, t985⟩, A130, H⟩ := H
          replace H : ((limb_Len.f k t983).bind fun t986 => (if (Go.bits .and .i64 (wrap64 (t984 - (wrap64 (126 - t986)))) 1) = 0 then (fprod_Sqrt.j0 k t983 t984 (wrap64 (126 - t986))) else (fprod_Sqrt.j0 k t983 t984 (wrap64 ((wrap64 (126 - t986)) - 1))))) = some r := H
          have A13 := Aside0.mk A130
          clear A130
          replace H := Option.bind_eq_some_iff.mp H
          obtain ⟨t986, A140, H⟩ := H
          replace H : (if (Go.bits .and .i64 (wrap64 (t984 - (wrap64 (126 - t986)))) 1) = 0 then (fprod_Sqrt.j0 k t983 t984 (wrap64 (126 - t986))) else (fprod_Sqrt.j0 k t983 t984 (wrap64 ((wrap64 (126 - t986)) - 1)))) = some r := H
          have A14 := Aside0.mk A140
          clear A140
          have HC15 := Aside0.mk H
          clear H
          go_enter Try.func71, Try.ntmps71
          go_upto_if 40 with (first | ((with_reducible refine gate_callee (f := 39) rfl ?_); refine goesL_ (some 11) rfl rfl Try.func39 (by kernel_rfl) rfl #[.int .u64 a0] rfl (by (try simp only [List.map_toArray, List.map_cons, List.map_nil]); first | done | rfl | (simp only [List.length_drop, List.length_take]; rfl) | (simp only [*]; done)) ?_; (with_reducible refine (fbits_Kind.calls a0 t976 _ A2.out).mono ?_); rintro e w' ⟨rfl, ⟨nd, rfl⟩⟩; refine ⟨_, rfl, ?_⟩) | ((with_reducible refine gate_callee (f := 41) rfl ?_); refine goesL_ (some 24) rfl rfl Try.func41 (by kernel_rfl) rfl #[.int .u64 a0] rfl (by (try simp only [List.map_toArray, List.map_cons, List.map_nil]); first | done | rfl | (simp only [List.length_drop, List.length_take]; rfl) | (simp only [*]; done)) ?_; (with_reducible refine (fbits_Neg.calls a0 false _ A10.out).mono ?_); rintro e w' ⟨rfl, ⟨nd, rfl⟩⟩; refine ⟨_, rfl, ?_⟩) | ((with_reducible refine gate_callee (f := 24) rfl ?_); refine goesL_ (some 28) rfl rfl Try.func24 (by kernel_rfl) rfl #[.int .u64 a0] rfl (by (try simp only [List.map_toArray, List.map_cons, List.map_nil]); first | done | rfl | (simp only [List.length_drop, List.length_take]; rfl) | (simp only [*]; done)) ?_; (with_reducible refine (fbits_Parts.calls k a0 t982 t983 t984 t985 _ A13.out).mono ?_); rintro e w' ⟨rfl, ⟨nd, rfl⟩⟩; refine ⟨_, rfl, ?_⟩) | ((with_reducible refine gate_callee (f := 87) rfl ?_); refine goesL_ (some 34) rfl rfl Try.func87 (by kernel_rfl) rfl #[.int .u64 t983] rfl (by (try simp only [List.map_toArray, List.map_cons, List.map_nil]); first | done | rfl | (simp only [List.length_drop, List.length_take]; rfl) | (simp only [*]; done)) ?_; (with_reducible refine (limb_Len.calls k t983 t986 _ A14.out).mono ?_); rintro e w' ⟨rfl, ⟨nd, rfl⟩⟩; refine ⟨_, rfl, ?_⟩))
          (try simp only [Act.put, List.setIfInBounds_toArray, List.set_cons_zero, List.set_cons_succ])
          go_cut [7] (fun v7 wc => ∃ (kq : Nat) (x7_14 : Int), v7 = .int .i64 x7_14 ∧ Aside0 (fprod_Sqrt.j0 kq t983 t984 x7_14 = some r) ∧ Aside0 (kq ≤ k) ∧ Aside0 (Below w.heap.size w wc))
          case first =>
            have H := HC15.out
            clear HC15
            by_cases c16 : (Go.bits .and .i64 (wrap64 (t984 - (wrap64 (126 - t986)))) 1) = 0
            · rw [if_pos c16] at H
              have c16b0 : ((Go.bits .and .i64 (wrap64 (t984 - (wrap64 (126 - t986)))) 1) == 0) = true := beq_iff_eq.mpr c16
              have c16b1 : ((Go.bits .and .i64 (wrap64 (t984 - (wrap64 (126 - t986)))) 1) != 0) = false := bne_eq_false_iff_eq.mpr c16
              clear c16
              (first | rw [c16b0] | (simp only [i64_w, i32_w]; rw [c16b0]) | rw [c16b1] | skip)
              have H' := Aside0.mk H
              clear H
              go_wp2
              go_meet
              case rel => exact ⟨_, (wrap64 (126 - t986)), (by first | rfl | (simp; done) | (simp [*]; done)), H', ⟨by first | omega | exact Nat.le_refl _⟩, ⟨by repeat (first | (with_reducible first | exact HB.out | apply below_alloc | apply pw_below_drewN | apply below_drew1) | exact HB.out)⟩⟩
            · rw [if_neg c16] at H
              have c16b0 : ((Go.bits .and .i64 (wrap64 (t984 - (wrap64 (126 - t986)))) 1) == 0) = false := beq_eq_false_iff_ne.mpr c16
              have c16b1 : ((Go.bits .and .i64 (wrap64 (t984 - (wrap64 (126 - t986)))) 1) != 0) = true := bne_iff_ne.mpr c16
              (first | rw [c16b0] | (simp only [i64_w, i32_w]; rw [c16b0]) | rw [c16b1] | skip)
              have H' := Aside0.mk H
              clear H
              go_wp2
              go_meet
              case rel => exact ⟨_, (wrap64 ((wrap64 (126 - t986)) - 1)), (by first | rfl | (simp; done) | (simp [*]; done)), H', ⟨by first | omega | exact Nat.le_refl _⟩, ⟨by repeat (first | (with_reducible first | exact HB.out | apply below_alloc | apply pw_below_drewN | apply below_drew1) | exact HB.out)⟩⟩
          case rest =>
            clear HC15
            try clear c1
            try clear c2
            try clear p2
            try clear c3
            try clear c3b0
            try clear c3b1
            try clear c4
            try clear c5
            try clear c5b0
            try clear c5b1
            try clear p6
            try clear c7
            try clear c8
            try clear c9
            try clear c9b0
            try clear c9b1
            try clear c11
            try clear c16
            try clear c16b0
            try clear c16b1
            obtain ⟨kq, x7_14, rfl, HA, HJ14, HB⟩ := hcut
            cases kq with
            | zero => exact absurd HA.out (by simp [fprod_Sqrt.j0])
            | succ kj14 =>
              have H := HA.out
              clear HA
              simp only [fprod_Sqrt.j0] at H
              obtain ⟨ji17, hji17⟩ : ∃ j_ : Int, (wrap64 (x7_14 - 64)) = j_ := ⟨_, rfl⟩
              replace H : (if 0 ≤ (ji17) then ((fprod_root.f kj14 (shl .u64 t983 (ji17))).bind fun bt987 => (if bt987.2 = true then ((fround_Word.f kj14 false bt987.1 (wrap64 (Int.tdiv (wrap64 (t984 - x7_14)) 2))).bind fun t989 => (some t989)) else ((fround_Word.f kj14 false (Go.bits .or .u64 bt987.1 1) (wrap64 (Int.tdiv (wrap64 (t984 - x7_14)) 2))).bind fun t990 => (some t990)))) else (none)) = some r := by first | (rw [hji17] at H; exact H) | (simp only [hji17] at H ⊢; exact H)
              have hji17w : (IntKind.i64.wrap (x7_14 - 64)) = ji17 := (i64_w _).trans hji17
              by_cases c18 : 0 ≤ (ji17)
              · rw [if_pos c18] at H
                have c18b0 := eq_true c18
                have c18b1 : decide (0 ≤ (ji17)) = true := decide_eq_true c18
                clear c18
                obtain ⟨ji19, hji19⟩ : ∃ j_ : Int, (shl .u64 t983 (ji17)) = j_ := ⟨_, rfl⟩
                replace H : ((fprod_root.f kj14 (ji19)).bind fun bt987 => (if bt987.2 = true then ((fround_Word.f kj14 false bt987.1 (wrap64 (Int.tdiv (wrap64 (t984 - x7_14)) 2))).bind fun t989 => (some t989)) else ((fround_Word.f kj14 false (Go.bits .or .u64 bt987.1 1) (wrap64 (Int.tdiv (wrap64 (t984 - x7_14)) 2))).bind fun t990 => (some t990)))) = some r := by first | (rw [hji19] at H; exact H) | (simp only [hji19] at H ⊢; exact H)
                have hji19_ : (IntKind.u64.wrap (t983 * 2 ^ min (ji17).toNat 64)) = ji19 := hji19
                have hji19z : (ji17) ≤ 64 → (IntKind.u64.wrap (t983 * 2 ^ (ji17).toNat)) = ji19 := shl_small hji19
                replace H := Option.bind_eq_some_iff.mp H
                obtain ⟨⟨t987, t988⟩, A200, H⟩ := H
                replace H : (if t988 = true then ((fround_Word.f kj14 false t987 (wrap64 (Int.tdiv (wrap64 (t984 - x7_14)) 2))).bind fun t989 => (some t989)) else ((fround_Word.f kj14 false (Go.bits .or .u64 t987 1) (wrap64 (Int.tdiv (wrap64 (t984 - x7_14)) 2))).bind fun t990 => (some t990))) = some r := H
                have A20 := Aside0.mk A200
                clear A200
                by_cases c21 : t988 = true
                · subst c21
                  have H1 : ((fround_Word.f kj14 false t987 (wrap64 (Int.tdiv (wrap64 (t984 - x7_14)) 2))).bind fun t989 => (some t989)) = some r := by rw [if_pos rfl] at H; exact H
                  clear H
                  have H := H1
                  clear H1
                  replace H := Option.bind_eq_some_iff.mp H
                  obtain ⟨t989, A220, H⟩ := H
                  replace H : (some t989) = some r := H
                  have A22 := Aside0.mk A220
                  clear A220
                  obtain rfl := Option.some.inj H
                  go_wp2_with (first | ((with_reducible refine gate_callee (f := 124) rfl ?_); refine goesL_ (some 48) rfl rfl Try.func124 (by kernel_rfl) rfl #[.int .u64 ji19] rfl (by (try simp only [List.map_toArray, List.map_cons, List.map_nil]); first | done | (simp only [hji19]; rfl) | rfl | (simp only [List.length_drop, List.length_take]; rfl) | (simp only [*]; done)) ?_; (with_reducible refine (fprod_root.calls kj14 ji19 t987 true _ A20.out).mono ?_); rintro e w' ⟨rfl, ⟨nd, rfl⟩⟩; refine ⟨_, rfl, ?_⟩) | ((with_reducible refine gate_callee (f := 36) rfl ?_); refine goesL_ (some 60) rfl rfl Try.func36 (by kernel_rfl) rfl #[.bool false, .int .u64 t987, .int .i64 (wrap64 (Int.tdiv (wrap64 (t984 - x7_14)) 2))] rfl (by (try simp only [List.map_toArray, List.map_cons, List.map_nil]); first | done | rfl | (simp only [List.length_drop, List.length_take]; rfl) | (simp only [*]; done)) ?_; (with_reducible refine (fround_Word.calls kj14 false t987 (wrap64 (Int.tdiv (wrap64 (t984 - x7_14)) 2)) t989 _ A22.out).mono ?_); rintro e w23 ⟨rfl, hb⟩; refine ⟨_, rfl, ?_⟩; have n0_ := Aside0.mk (below_step (by repeat (first | (with_reducible first | exact HB.out | apply below_alloc | apply pw_below_drewN | apply below_drew1) | exact HB.out)) hb); clear HB; have HB := n0_; clear n0_; (try clear hb); (try clear hb2); (try clear hk); (try clear hi)))
                  go_ret
                  exact ⟨by first | rfl | (simp [errW_none, errW_some] <;> rfl) | (simp only [← hji17, ← hji19]; first | rfl | (simp [errW_none, errW_some] <;> rfl)) | (simp [*, errW_none, errW_some] <;> rfl), by repeat (first | (with_reducible first | exact HB.out | apply below_alloc | apply pw_below_drewN | apply below_drew1) | exact HB.out)⟩
                · replace c21 := Bool.eq_false_iff.mpr c21
                  subst c21
                  have H1 : ((fround_Word.f kj14 false (Go.bits .or .u64 t987 1) (wrap64 (Int.tdiv (wrap64 (t984 - x7_14)) 2))).bind fun t990 => (some t990)) = some r := by rw [if_neg (show ¬ (false = true) by decide)] at H; exact H
                  clear H
                  have H := H1
                  clear H1
                  replace H := Option.bind_eq_some_iff.mp H
                  obtain ⟨t990, A240, H⟩ := H
                  replace H : (some t990) = some r := H
                  have A24 := Aside0.mk A240
                  clear A240
                  obtain rfl := Option.some.inj H
                  go_wp2_with (first | ((with_reducible refine gate_callee (f := 124) rfl ?_); refine goesL_ (some 48) rfl rfl Try.func124 (by kernel_rfl) rfl #[.int .u64 ji19] rfl (by (try simp only [List.map_toArray, List.map_cons, List.map_nil]); first | done | (simp only [hji19]; rfl) | rfl | (simp only [List.length_drop, List.length_take]; rfl) | (simp only [*]; done)) ?_; (with_reducible refine (fprod_root.calls kj14 ji19 t987 false _ A20.out).mono ?_); rintro e w' ⟨rfl, ⟨nd, rfl⟩⟩; refine ⟨_, rfl, ?_⟩) | ((with_reducible refine gate_callee (f := 36) rfl ?_); refine goesL_ (some 60) rfl rfl Try.func36 (by kernel_rfl) rfl #[.bool false, .int .u64 (Go.bits .or .u64 t987 1), .int .i64 (wrap64 (Int.tdiv (wrap64 (t984 - x7_14)) 2))] rfl (by (try simp only [List.map_toArray, List.map_cons, List.map_nil]); first | done | rfl | (simp only [List.length_drop, List.length_take]; rfl) | (simp only [*]; done)) ?_; (with_reducible refine (fround_Word.calls kj14 false (Go.bits .or .u64 t987 1) (wrap64 (Int.tdiv (wrap64 (t984 - x7_14)) 2)) t990 _ A24.out).mono ?_); rintro e w25 ⟨rfl, hb⟩; refine ⟨_, rfl, ?_⟩; have n0_ := Aside0.mk (below_step (by repeat (first | (with_reducible first | exact HB.out | apply below_alloc | apply pw_below_drewN | apply below_drew1) | exact HB.out)) hb); clear HB; have HB := n0_; clear n0_; (try clear hb); (try clear hb2); (try clear hk); (try clear hi)))
                  go_ret
                  exact ⟨by first | rfl | (simp [errW_none, errW_some] <;> rfl) | (simp only [← hji17, ← hji19]; first | rfl | (simp [errW_none, errW_some] <;> rfl)) | (simp [*, errW_none, errW_some] <;> rfl), by repeat (first | (with_reducible first | exact HB.out | apply below_alloc | apply pw_below_drewN | apply below_drew1) | exact HB.out)⟩
              · rw [if_neg c18] at H
                exact absurd H (by simp)

end Go.Proofs.Ytbpggonjcnakgaa.P
