/- Functions of one package as Lean functions, and walks: written by a program for this claim. -/
import Derived.Test.YtbpggonjcnakgaaFbase
import Derived.Test.YtbpggonjcnakgaaBlimb
namespace Go.Proofs.Ytbpggonjcnakgaa.P
open Go.RowKit Go.Proofs.YtbpggonjcnakgaaW.PrintWords Go.Proofs.YtbpggonjcnakgaaW.PrintLast Go.Proofs.YtbpggonjcnakgaaW.PrintMore
attribute [local go_sem] max2_int min2_int max_two min_two max_three min_three max_four min_four   -- for this text's walks alone
set_option linter.unusedVariables false
set_option linter.unusedSimpArgs false

def fbits_signed.f (a0 : Bool) (a1 : Int) : Option (Int) := if a0 = true then (some (Go.bits .or .u64 a1 9223372036854775808)) else (some a1)
set_option maxHeartbeats 8000000 in
set_option maxRecDepth 100000 in
theorem fbits_signed.calls (a0 : Bool) (a1 : Int) (r : Int) (w : World) (h : fbits_signed.f a0 a1 = some r) :
  Calls Try.prog 86 #[.bool a0, .int .u64 a1] w fun e w' => e = .returned (.int .u64 r) ∧ Drawn0 w w' := by
 have H := h
 clear h
 unfold fbits_signed.f at H
 by_cases c3 : a0 = true
 ·subst c3
  replace H := ift H
  obtain rfl := Option.some.inj H
  go_enter Try.func86, Try.ntmps86
  go_wp2
  go_ret
  exact ⟨by first | rfl | (simp; done) | (simp [*]; done), by repeat (first | exact Drawn0.refl _ | apply Drawn0.step)⟩
 ·replace c3 := Bool.eq_false_iff.mpr c3
  subst c3
  replace H := iff_ H
  obtain rfl := Option.some.inj H
  go_enter Try.func86, Try.ntmps86
  go_wp2
  go_ret
  exact ⟨by first | rfl | (simp; done) | (simp [*]; done), by repeat (first | exact Drawn0.refl _ | apply Drawn0.step)⟩

def fbits_Inf.f (a0 : Bool) : Option (Int) := (fbits_signed.f a0 9218868437227405312).bind fun t502 => (some t502)
set_option maxHeartbeats 8000000 in
set_option maxRecDepth 100000 in
theorem fbits_Inf.calls (a0 : Bool) (r : Int) (w : World) (h : fbits_Inf.f a0 = some r) :
  Calls Try.prog 34 #[.bool a0] w fun e w' => e = .returned (.int .u64 r) ∧ Drawn0 w w' := by
 have H := h
 clear h
 unfold fbits_Inf.f at H
 obtain ⟨t502, A2, H⟩ := bnd H
 obtain rfl := Option.some.inj H
 go_enter Try.func34, Try.ntmps34
 go_wp2_with (first | ((with_reducible refine gate_callee (f := 86) rfl ?_); refine goesL_ (some 4) rfl rfl Try.func86 (by kernel_rfl) rfl #[.bool a0, .int .u64 9218868437227405312] rfl lx ?_; (with_reducible refine (fbits_signed.calls a0 9218868437227405312 t502 _ A2.out).mono ?_); rintro e w' ⟨rfl, ⟨nd, rfl⟩⟩; refine ⟨_, rfl, ?_⟩))
 go_ret
 exact ⟨by first | rfl | (simp; done) | (simp [*]; done), by repeat (first | exact Drawn0.refl _ | apply Drawn0.step)⟩

def fbits_exponent.f (a0 : Int) : Option (Int) := some (wrap64 (Go.bits .and .u64 (a0 / 4503599627370496) 2047))
set_option maxHeartbeats 8000000 in
set_option maxRecDepth 100000 in
theorem fbits_exponent.calls (a0 : Int) (r : Int) (w : World) (h : fbits_exponent.f a0 = some r) :
  Calls Try.prog 85 #[.int .u64 a0] w fun e w' => e = .returned (.int .i64 r) ∧ Drawn0 w w' := by
 have H := h
 clear h
 unfold fbits_exponent.f at H
 obtain rfl := Option.some.inj H
 go_enter Try.func85, Try.ntmps85
 go_wp2
 go_ret
 exact ⟨by first | rfl | (simp; done) | (simp [*]; done), by repeat (first | exact Drawn0.refl _ | apply Drawn0.step)⟩

def fbits_Kind.f (a0 : Int) : Option (Int) := (fbits_exponent.f a0).bind fun t101 => (if t101 = 2047 then (if (Go.bits .and .u64 a0 4503599627370495) = 0 then (some 3) else (some 4)) else (if t101 = 0 then (if (Go.bits .and .u64 a0 4503599627370495) = 0 then (some 0) else (some 1)) else (some 2)))
set_option maxHeartbeats 8000000 in
set_option maxRecDepth 100000 in
theorem fbits_Kind.calls (a0 : Int) (r : Int) (w : World) (h : fbits_Kind.f a0 = some r) :
  Calls Try.prog 39 #[.int .u64 a0] w fun e w' => e = .returned (.int .i64 r) ∧ Drawn0 w w' := by
 have H := h
 clear h
 unfold fbits_Kind.f at H
 obtain ⟨t101, A2, H⟩ := bnd H
 refine if c3 : t101 = 2047 then ?p104_ else ?n104_
 case' p104_ =>
  rw [if_pos c3] at H
  have c3b0 : (t101 == 2047) = true := beq_iff_eq.mpr c3
  have c3b1 : (t101 != 2047) = false := bne_eq_false_iff_eq.mpr c3
  clear c3
  refine if c4 : (Go.bits .and .u64 a0 4503599627370495) = 0 then ?p105_ else ?n105_
  case' p105_ =>
   rw [if_pos c4] at H
   have c4b0 : ((Go.bits .and .u64 a0 4503599627370495) == 0) = true := beq_iff_eq.mpr c4
   have c4b1 : ((Go.bits .and .u64 a0 4503599627370495) != 0) = false := bne_eq_false_iff_eq.mpr c4
   clear c4
   obtain rfl := Option.some.inj H
  case' n105_ =>
   rw [if_neg c4] at H
   have c4b0 : ((Go.bits .and .u64 a0 4503599627370495) == 0) = false := beq_eq_false_iff_ne.mpr c4
   have c4b1 : ((Go.bits .and .u64 a0 4503599627370495) != 0) = true := bne_iff_ne.mpr c4
   obtain rfl := Option.some.inj H
 case' n104_ =>
  rw [if_neg c3] at H
  have c3b0 : (t101 == 2047) = false := beq_eq_false_iff_ne.mpr c3
  have c3b1 : (t101 != 2047) = true := bne_iff_ne.mpr c3
  refine if c5 : t101 = 0 then ?p106_ else ?n106_
  case' p106_ =>
   rw [if_pos c5] at H
   have c5b0 : (t101 == 0) = true := beq_iff_eq.mpr c5
   have c5b1 : (t101 != 0) = false := bne_eq_false_iff_eq.mpr c5
   clear c5
   refine if c6 : (Go.bits .and .u64 a0 4503599627370495) = 0 then ?p107_ else ?n107_
   case' p107_ =>
    rw [if_pos c6] at H
    have c6b0 : ((Go.bits .and .u64 a0 4503599627370495) == 0) = true := beq_iff_eq.mpr c6
    have c6b1 : ((Go.bits .and .u64 a0 4503599627370495) != 0) = false := bne_eq_false_iff_eq.mpr c6
    clear c6
    obtain rfl := Option.some.inj H
   case' n107_ =>
    rw [if_neg c6] at H
    have c6b0 : ((Go.bits .and .u64 a0 4503599627370495) == 0) = false := beq_eq_false_iff_ne.mpr c6
    have c6b1 : ((Go.bits .and .u64 a0 4503599627370495) != 0) = true := bne_iff_ne.mpr c6
    obtain rfl := Option.some.inj H
  case' n106_ =>
   rw [if_neg c5] at H
   have c5b0 : (t101 == 0) = false := beq_eq_false_iff_ne.mpr c5
   have c5b1 : (t101 != 0) = true := bne_iff_ne.mpr c5
   obtain rfl := Option.some.inj H
 case p105_ | n105_ | p107_ | n107_ | n106_ =>
  go_enter Try.func39, Try.ntmps39
  go_wp2_with (first | ((with_reducible refine gate_callee (f := 85) rfl ?_); refine goesL_ (some 7) rfl rfl Try.func85 (by kernel_rfl) rfl #[.int .u64 a0] rfl lx ?_; (with_reducible refine (fbits_exponent.calls a0 t101 _ A2.out).mono ?_); rintro e w' ⟨rfl, ⟨nd, rfl⟩⟩; refine ⟨_, rfl, ?_⟩))
  go_ret
  exact ⟨by first | rfl | (simp; done) | (simp [*]; done), by repeat (first | exact Drawn0.refl _ | apply Drawn0.step)⟩

mutual
def fbits_Make.j0 : Nat → Bool → Int → Int → Bool → Option (Int × Bool)
 | 0, _, _, _, _ => none
 | k + 1, x0, x1, x2, x19 => if x19 = true then (some (0, false)) else ((limb_Len.f k x1).bind fun t107 => (if (mx (wrap64 ((wrap64 (x2 + t107)) - 53)) (-1074)) > 971 then (fbits_Make.j1 k x0 x1 (mx (wrap64 ((wrap64 (x2 + t107)) - 53)) (-1074)) (wrap64 ((mx (wrap64 ((wrap64 (x2 + t107)) - 53)) (-1074)) - x2)) true) else (fbits_Make.j1 k x0 x1 (mx (wrap64 ((wrap64 (x2 + t107)) - 53)) (-1074)) (wrap64 ((mx (wrap64 ((wrap64 (x2 + t107)) - 53)) (-1074)) - x2)) (decide ((wrap64 ((mx (wrap64 ((wrap64 (x2 + t107)) - 53)) (-1074)) - x2)) ≥ 64)))))
def fbits_Make.j2 : Nat → Bool → Int → Int → Option (Int × Bool)
 | 0, _, _, _ => none
 | k + 1, x0, x1, x8 => if x1 < 4503599627370496 then ((fbits_signed.f x0 x1).bind fun t108 => (some (t108, true))) else ((fbits_signed.f x0 (Go.bits .or .u64 (IntKind.u64.wrap ((IntKind.u64.wrap (wrap64 (x8 + 1075))) * 4503599627370496)) (Go.bits .and .u64 x1 4503599627370495))).bind fun t109 => (some (t109, true)))
def fbits_Make.j1 : Nat → Bool → Int → Int → Int → Bool → Option (Int × Bool)
 | 0, _, _, _, _, _ => none
 | k + 1, x0, x1, x8, x9, x33 => if x33 = true then (some (0, false)) else (if x9 > 0 then (if 0 ≤ x9 then (if (shl .u64 (shr .u64 x1 x9) x9) = x1 then (fbits_Make.j2 k x0 (shr .u64 x1 x9) x8) else (some (0, false))) else (none)) else (if 0 ≤ (wrap64 (-x9)) then (fbits_Make.j2 k x0 (shl .u64 x1 (wrap64 (-x9))) x8) else (none)))
end
def fbits_Make.f (k : Nat) (a0 : Bool) (a1 : Int) (a2 : Int) : Option (Int × Bool) := if a1 = 0 then ((fbits_signed.f a0 0).bind fun t106 => (some (t106, true))) else (if a2 > 2000 then (fbits_Make.j0 k a0 a1 a2 true) else (fbits_Make.j0 k a0 a1 a2 (decide (a2 < (-2000)))))
set_option maxHeartbeats 8000000 in
set_option maxRecDepth 100000 in
theorem fbits_Make.calls (k : Nat) (a0 : Bool) (a1 : Int) (a2 : Int) (r1 : Int) (r2 : Bool) (w : World) (h : fbits_Make.f k a0 a1 a2 = some (r1, r2)) :
  Calls Try.prog 25 #[.bool a0, .int .u64 a1, .int .i64 a2] w fun e w' => e = .returned (.tuple #[.int .u64 r1, .bool r2]) ∧ Below w.heap.size w w' := by
 have HB := Aside0.mk (Below.refl w.heap.size w)
 have H := h
 clear h
 unfold fbits_Make.f at H
 by_cases c4 : a1 = 0
 ·rw [if_pos c4] at H
  have c4b0 : (a1 == 0) = true := beq_iff_eq.mpr c4
  have c4b1 : (a1 != 0) = false := bne_eq_false_iff_eq.mpr c4
  clear c4
  obtain ⟨t106, A5, H⟩ := bnd H
  simp only [Option.some.injEq, Prod.mk.injEq] at H
  obtain ⟨rfl, rfl⟩ := H
  go_enter Try.func25, Try.ntmps25
  go_wp2_with (first | ((with_reducible refine gate_callee (f := 86) rfl ?_); refine goesL_ (some 13) rfl rfl Try.func86 (by kernel_rfl) rfl #[.bool a0, .int .u64 0] rfl lx ?_; (with_reducible refine (fbits_signed.calls a0 0 t106 _ A5.out).mono ?_); rintro e w' ⟨rfl, ⟨nd, rfl⟩⟩; refine ⟨_, rfl, ?_⟩))
  go_ret2
  exact ⟨er, hbb⟩
 ·rw [if_neg c4] at H
  have c4b0 : (a1 == 0) = false := beq_eq_false_iff_ne.mpr c4
  have c4b1 : (a1 != 0) = true := bne_iff_ne.mpr c4
  have HC6 := Aside0.mk H
  clear H
  go_enter Try.func25, Try.ntmps25
  go_upto_region 3 with (fail)
  go_cut [19] (fun v19 wc => ∃ (kq : Nat) (x19_5 : Bool), v19 = .bool x19_5 ∧ Aside0 (fbits_Make.j0 kq a0 a1 a2 x19_5 = some (r1, r2)) ∧ Aside0 (kq ≤ k) ∧ Aside0 (Below w.heap.size w wc))
  case first =>
   have H := HC6.out
   clear HC6
   by_cases c7 : a2 > 2000
   ·rw [if_pos c7] at H
    have c7b0 : decide (2000 < a2) = true := decide_eq_true c7
    clear c7
    (first | rw [c7b0] | (simp only [i64_w, i32_w]; rw [c7b0]) | skip)
    have H' := Aside0.mk H
    clear H
    go_wp2
    go_meet
    case rel => exact ⟨_, (true), (by first | rfl | (simp; done) | (simp [*]; done)), H', ⟨by first | omega | exact Nat.le_refl _⟩, ⟨bb HB.out⟩⟩
   ·rw [if_neg c7] at H
    have c7b0 : decide (2000 < a2) = false := decide_eq_false c7
    clear c7
    (first | rw [c7b0] | (simp only [i64_w, i32_w]; rw [c7b0]) | skip)
    have H' := Aside0.mk H
    clear H
    go_wp2
    go_meet
    case rel => exact ⟨_, (decide (a2 < (-2000))), (by first | rfl | (simp; done) | (simp [*]; done)), H', ⟨by first | omega | exact Nat.le_refl _⟩, ⟨bb HB.out⟩⟩
  case rest =>
   clear HC6
   obtain ⟨kq, x19_5, rfl, HA, HJ5, HB⟩ := hcut
   cases kq with
   | zero => exact absurd HA.out (by simp [fbits_Make.j0])
   | succ kj5 =>
    have H := HA.out
    clear HA
    simp only [fbits_Make.j0] at H
    by_cases c8 : x19_5 = true
    ·subst c8
     replace H := ift H
     simp only [Option.some.injEq, Prod.mk.injEq] at H
     obtain ⟨rfl, rfl⟩ := H
     go_wp2
     go_ret2
     exact ⟨er, hbb⟩
    ·replace c8 := Bool.eq_false_iff.mpr c8
     subst c8
     replace H := iff_ H
     obtain ⟨t107, A9, H⟩ := bnd H
     obtain ⟨ji10, hji10⟩ : ∃ j_ : Int, (mx (wrap64 ((wrap64 (a2 + t107)) - 53)) (-1074)) = j_ := ⟨_, rfl⟩
     rw [hji10] at H
     (try rw [hji10] at A9)
     have hji10_ : (if (wrap64 ((wrap64 (a2 + t107)) - 53)) < (-1074) then (-1074) else (wrap64 ((wrap64 (a2 + t107)) - 53))) = ji10 := hji10
     have HC11 := Aside0.mk H
     clear H
     go_upto_block 0 with (first | ((with_reducible refine gate_callee (f := 87) rfl ?_); refine goesL_ (some 22) rfl rfl Try.func87 (by kernel_rfl) rfl #[.int .u64 a1] rfl lx ?_; (with_reducible refine (limb_Len.calls kj5 a1 t107 _ A9.out).mono ?_); rintro e w' ⟨rfl, ⟨nd, rfl⟩⟩; refine ⟨_, rfl, ?_⟩))
     (try simp only [Act.put, List.setIfInBounds_toArray, List.set_cons_zero, List.set_cons_succ])
     go_cut [1] (fun v1 wc => ∃ (kq : Nat) (x1_10 : Int), v1 = .int .u64 x1_10 ∧ Aside0 (fbits_Make.j2 kq a0 x1_10 ji10 = some (r1, r2)) ∧ Aside0 (kq ≤ kj5) ∧ Aside0 (Below w.heap.size w wc))
     case first =>
      have H := HC11.out
      clear HC11
      have HC12 := Aside0.mk H
      clear H
      go_upto_region 8 with (fail)
      go_cut [33] (fun v33 wc => ∃ (kq : Nat) (x33_11 : Bool), v33 = .bool x33_11 ∧ Aside0 (fbits_Make.j1 kq a0 a1 ji10 (wrap64 ((ji10) - a2)) x33_11 = some (r1, r2)) ∧ Aside0 (kq ≤ kj5) ∧ Aside0 (Below w.heap.size w wc))
      case first =>
       have H := HC12.out
       clear HC12
       by_cases c13 : (ji10) > 971
       ·rw [if_pos c13] at H
        have c13b0 : decide (971 < (ji10)) = true := decide_eq_true c13
        clear c13
        (first | rw [c13b0] | (simp only [i64_w, i32_w]; rw [c13b0]) | skip)
        have H' := Aside0.mk H
        clear H
        go_wp2
        go_meet
        case rel => exact ⟨_, (true), (by first | rfl | (simp; done) | (simp [*]; done)), H', ⟨by have := HJ5.out; first | omega | exact Nat.le_refl _⟩, ⟨bb HB.out⟩⟩
       ·rw [if_neg c13] at H
        have c13b0 : decide (971 < (ji10)) = false := decide_eq_false c13
        clear c13
        (first | rw [c13b0] | (simp only [i64_w, i32_w]; rw [c13b0]) | skip)
        have H' := Aside0.mk H
        clear H
        go_wp2
        go_meet
        case rel => exact ⟨_, (decide ((wrap64 ((ji10) - a2)) ≥ 64)), (by first | rfl | (simp; done) | (simp only [← hji10] <;> (first | rfl | simp)) | (simp [*]; done)), H', ⟨by have := HJ5.out; first | omega | exact Nat.le_refl _⟩, ⟨bb HB.out⟩⟩
      case rest =>
       clear HC12
       obtain ⟨kq, x33_11, rfl, HA, HJ11, HB⟩ := hcut
       cases kq with
       | zero => exact absurd HA.out (by simp [fbits_Make.j1])
       | succ kj11 =>
        have H := HA.out
        clear HA
        simp only [fbits_Make.j1] at H
        by_cases c14 : x33_11 = true
        ·subst c14
         replace H := ift H
         simp only [Option.some.injEq, Prod.mk.injEq] at H
         obtain ⟨rfl, rfl⟩ := H
         go_wp2
         go_ret2
         exact ⟨by first | rfl | (simp [errW_none, errW_some] <;> rfl) | (simp only [← hji10]; first | rfl | (simp [errW_none, errW_some] <;> rfl)) | (simp [*, errW_none, errW_some] <;> rfl), hbb⟩
        ·replace c14 := Bool.eq_false_iff.mpr c14
         subst c14
         replace H := iff_ H
         by_cases c15 : (wrap64 ((ji10) - a2)) > 0
         ·rw [if_pos c15] at H
          have c15b0 : decide (0 < (wrap64 ((ji10) - a2))) = true := decide_eq_true c15
          clear c15
          obtain ⟨ji16, hji16⟩ : ∃ j_ : Int, (wrap64 ((ji10) - a2)) = j_ := ⟨_, rfl⟩
          rw [hji16] at H
          (try rw [hji16] at c15b0)
          have hji16w : (IntKind.i64.wrap ((ji10) - a2)) = ji16 := (i64_w _).trans hji16
          by_cases c17 : 0 ≤ (ji16)
          ·rw [if_pos c17] at H
           have c17b0 := eq_true c17
           have c17b1 : decide (0 ≤ (ji16)) = true := decide_eq_true c17
           clear c17
           obtain ⟨ji18, hji18⟩ : ∃ j_ : Int, (shr .u64 a1 (ji16)) = j_ := ⟨_, rfl⟩
           rw [hji18] at H
           have hji18_ : (a1 / 2 ^ min (ji16).toNat 64) = ji18 := hji18
           have hji18z : (ji16) ≤ 64 → (a1 / 2 ^ (ji16).toNat) = ji18 := shr_small hji18
           have c19b0 := eq_true (of_decide_eq_true (by first | (with_reducible assumption) | assumption) : 0 ≤ (ji16))
           obtain ⟨ji20, hji20⟩ : ∃ j_ : Int, (shl .u64 (ji18) (ji16)) = j_ := ⟨_, rfl⟩
           rw [hji20] at H
           have hji20_ : (IntKind.u64.wrap ((ji18) * 2 ^ min (ji16).toNat 64)) = ji20 := hji20
           have hji20z : (ji16) ≤ 64 → (IntKind.u64.wrap ((ji18) * 2 ^ (ji16).toNat)) = ji20 := shl_small hji20
           by_cases c21 : (ji20) = a1
           ·rw [if_pos c21] at H
            have c21b0 : ((ji20) == a1) = true := beq_iff_eq.mpr c21
            have c21b1 : ((ji20) != a1) = false := bne_eq_false_iff_eq.mpr c21
            clear c21
            have c22b0 := eq_true (of_decide_eq_true (by first | (with_reducible assumption) | assumption) : 0 ≤ (ji16))
            have H' := Aside0.mk H
            clear H
            go_wp2
            go_meet
            case rel => exact ⟨_, (ji18), (by first | rfl | (simp; done) | (simp only [← hji18] <;> (first | rfl | simp)) | (simp [*]; done)), H', ⟨by have := HJ5.out; have := HJ11.out; first | omega | exact Nat.le_refl _⟩, ⟨bb HB.out⟩⟩
           ·rw [if_neg c21] at H
            have c21b0 : ((ji20) == a1) = false := beq_eq_false_iff_ne.mpr c21
            have c21b1 : ((ji20) != a1) = true := bne_iff_ne.mpr c21
            simp only [Option.some.injEq, Prod.mk.injEq] at H
            obtain ⟨rfl, rfl⟩ := H
            go_wp2
            go_ret2
            exact ⟨by first | rfl | (simp [errW_none, errW_some] <;> rfl) | (simp only [← hji10, ← hji16, ← hji18, ← hji20]; first | rfl | (simp [errW_none, errW_some] <;> rfl)) | (simp [*, errW_none, errW_some] <;> rfl), hbb⟩
          ·rw [if_neg c17] at H
           exact absurd H (by simp)
         ·rw [if_neg c15] at H
          have c15b0 : decide (0 < (wrap64 ((ji10) - a2))) = false := decide_eq_false c15
          clear c15
          obtain ⟨ji23, hji23⟩ : ∃ j_ : Int, (wrap64 (-(wrap64 ((ji10) - a2)))) = j_ := ⟨_, rfl⟩
          rw [hji23] at H
          have hji23w : (IntKind.i64.wrap (-(wrap64 ((ji10) - a2)))) = ji23 := (i64_w _).trans hji23
          by_cases c24 : 0 ≤ (ji23)
          ·rw [if_pos c24] at H
           have c24b0 := eq_true c24
           have c24b1 : decide (0 ≤ (ji23)) = true := decide_eq_true c24
           clear c24
           obtain ⟨ji25, hji25⟩ : ∃ j_ : Int, (shl .u64 a1 (ji23)) = j_ := ⟨_, rfl⟩
           rw [hji25] at H
           have hji25_ : (IntKind.u64.wrap (a1 * 2 ^ min (ji23).toNat 64)) = ji25 := hji25
           have hji25z : (ji23) ≤ 64 → (IntKind.u64.wrap (a1 * 2 ^ (ji23).toNat)) = ji25 := shl_small hji25
           have H' := Aside0.mk H
           clear H
           go_wp2
           go_meet
           case rel => exact ⟨_, (ji25), (by first | rfl | (simp; done) | (simp only [← hji25] <;> (first | rfl | simp)) | (simp [*]; done)), H', ⟨by have := HJ5.out; have := HJ11.out; first | omega | exact Nat.le_refl _⟩, ⟨bb HB.out⟩⟩
          ·rw [if_neg c24] at H
           exact absurd H (by simp)
     case rest =>
      clear HC11
      obtain ⟨kq, x1_10, rfl, HA, HJ10, HB⟩ := hcut
      cases kq with
      | zero => exact absurd HA.out (by simp [fbits_Make.j2])
      | succ kj10 =>
       have H := HA.out
       clear HA
       simp only [fbits_Make.j2] at H
       by_cases c26 : x1_10 < 4503599627370496
       ·rw [if_pos c26] at H
        have c26b0 : decide (x1_10 < 4503599627370496) = true := decide_eq_true c26
        clear c26
        obtain ⟨t108, A27, H⟩ := bnd H
        simp only [Option.some.injEq, Prod.mk.injEq] at H
        obtain ⟨rfl, rfl⟩ := H
        go_wp2_with (first | ((with_reducible refine gate_callee (f := 86) rfl ?_); refine goesL_ (some 57) rfl rfl Try.func86 (by kernel_rfl) rfl #[.bool a0, .int .u64 x1_10] rfl lx ?_; (with_reducible refine (fbits_signed.calls a0 x1_10 t108 _ A27.out).mono ?_); rintro e w' ⟨rfl, ⟨nd, rfl⟩⟩; refine ⟨_, rfl, ?_⟩))
        go_ret2
        exact ⟨by first | rfl | (simp [errW_none, errW_some] <;> rfl) | (simp only [← hji10]; first | rfl | (simp [errW_none, errW_some] <;> rfl)) | (simp [*, errW_none, errW_some] <;> rfl), hbb⟩
       ·rw [if_neg c26] at H
        have c26b0 : decide (x1_10 < 4503599627370496) = false := decide_eq_false c26
        clear c26
        obtain ⟨t109, A28, H⟩ := bnd H
        simp only [Option.some.injEq, Prod.mk.injEq] at H
        obtain ⟨rfl, rfl⟩ := H
        go_wp2_with (first | ((with_reducible refine gate_callee (f := 86) rfl ?_); refine goesL_ (some 66) rfl rfl Try.func86 (by kernel_rfl) rfl #[.bool a0, .int .u64 (Go.bits .or .u64 (IntKind.u64.wrap ((IntKind.u64.wrap (wrap64 (ji10 + 1075))) * 4503599627370496)) (Go.bits .and .u64 x1_10 4503599627370495))] rfl (by (try simp only [List.map_toArray, List.map_cons, List.map_nil]); first | done | (simp only [hji10]; rfl) | rfl | (simp only [List.length_drop, List.length_take]; rfl) | (simp only [*]; done)) ?_; (with_reducible refine (fbits_signed.calls a0 (Go.bits .or .u64 (IntKind.u64.wrap ((IntKind.u64.wrap (wrap64 (ji10 + 1075))) * 4503599627370496)) (Go.bits .and .u64 x1_10 4503599627370495)) t109 _ A28.out).mono ?_); rintro e w' ⟨rfl, ⟨nd, rfl⟩⟩; refine ⟨_, rfl, ?_⟩))
        go_ret2
        exact ⟨by first | rfl | (simp [errW_none, errW_some] <;> rfl) | (simp only [← hji10]; first | rfl | (simp [errW_none, errW_some] <;> rfl)) | (simp [*, errW_none, errW_some] <;> rfl), hbb⟩

def fbits_Neg.f (a0 : Int) : Option (Bool) := some ((Go.bits .and .u64 a0 9223372036854775808) != 0)
set_option maxHeartbeats 8000000 in
set_option maxRecDepth 100000 in
theorem fbits_Neg.calls (a0 : Int) (r : Bool) (w : World) (h : fbits_Neg.f a0 = some r) :
  Calls Try.prog 41 #[.int .u64 a0] w fun e w' => e = .returned (.bool r) ∧ Drawn0 w w' := by
 have H := h
 clear h
 unfold fbits_Neg.f at H
 obtain rfl := Option.some.inj H
 go_enter Try.func41, Try.ntmps41
 go_wp2
 go_ret
 exact ⟨by first | rfl | (simp; done) | (simp [*]; done), by repeat (first | exact Drawn0.refl _ | apply Drawn0.step)⟩

def fbits_Parts.j0 : Nat → Int → Int → Int → Bool → Option (Bool × Int × Int × Bool)
 | 0, _, _, _, _ => none
 | k + 1, x0, x6, x10, x11 => if x11 = true then (some (false, 0, 0, false)) else (if x10 = 2 then ((fbits_Neg.f x0).bind fun t103 => ((fbits_exponent.f x0).bind fun t104 => (some (t103, Go.bits .or .u64 x6 4503599627370496, wrap64 (t104 - 1075), true)))) else ((fbits_Neg.f x0).bind fun t105 => (some (t105, x6, (-1074), true))))
def fbits_Parts.f (k : Nat) (a0 : Int) : Option (Bool × Int × Int × Bool) := (fbits_Kind.f a0).bind fun t102 => (if t102 = 3 then (fbits_Parts.j0 k a0 (Go.bits .and .u64 a0 4503599627370495) t102 (t102 == 3)) else (fbits_Parts.j0 k a0 (Go.bits .and .u64 a0 4503599627370495) t102 (t102 == 4)))
set_option maxHeartbeats 8000000 in
set_option maxRecDepth 100000 in
theorem fbits_Parts.calls (k : Nat) (a0 : Int) (r1 : Bool) (r2 : Int) (r3 : Int) (r4 : Bool) (w : World) (h : fbits_Parts.f k a0 = some (r1, r2, r3, r4)) :
  Calls Try.prog 24 #[.int .u64 a0] w fun e w' => e = .returned (.tuple #[.bool r1, .int .u64 r2, .int .i64 r3, .bool r4]) ∧ Drawn0 w w' := by
 have H := h
 clear h
 unfold fbits_Parts.f at H
 obtain ⟨t102, A2, H⟩ := bnd H
 have HC3 := Aside0.mk H
 clear H
 go_enter Try.func24, Try.ntmps24
 go_upto_if 11 with (first | ((with_reducible refine gate_callee (f := 39) rfl ?_); refine goesL_ (some 10) rfl rfl Try.func39 (by kernel_rfl) rfl #[.int .u64 a0] rfl lx ?_; (with_reducible refine (fbits_Kind.calls a0 t102 _ A2.out).mono ?_); rintro e w' ⟨rfl, ⟨nd, rfl⟩⟩; refine ⟨_, rfl, ?_⟩))
 (try simp only [Act.put, List.setIfInBounds_toArray, List.set_cons_zero, List.set_cons_succ])
 go_cut [11] (fun v11 wc => ∃ (kq : Nat) (x11_2 : Bool), v11 = .bool x11_2 ∧ Aside0 (fbits_Parts.j0 kq a0 (Go.bits .and .u64 a0 4503599627370495) t102 x11_2 = some (r1, r2, r3, r4)) ∧ Aside0 (kq ≤ k) ∧ Drawn0 w wc)
 case first =>
  have H := HC3.out
  clear HC3
  by_cases c4 : t102 = 3
  ·rw [if_pos c4] at H
   have c4b0 : (t102 == 3) = true := beq_iff_eq.mpr c4
   have c4b1 : (t102 != 3) = false := bne_eq_false_iff_eq.mpr c4
   clear c4
   (first | rw [c4b0] | (simp only [i64_w, i32_w]; rw [c4b0]) | rw [c4b1] | skip)
   have H' := Aside0.mk H
   clear H
   go_wp2
   go_meet
   case rel => exact ⟨_, ((t102 == 3)), (by first | rfl | (simp; done) | (simp [*]; done)), H', ⟨by first | omega | exact Nat.le_refl _⟩, by repeat (first | exact Drawn0.refl _ | apply Drawn0.step)⟩
  ·rw [if_neg c4] at H
   have c4b0 : (t102 == 3) = false := beq_eq_false_iff_ne.mpr c4
   have c4b1 : (t102 != 3) = true := bne_iff_ne.mpr c4
   (first | rw [c4b0] | (simp only [i64_w, i32_w]; rw [c4b0]) | rw [c4b1] | skip)
   have H' := Aside0.mk H
   clear H
   go_wp2
   go_meet
   case rel => exact ⟨_, ((t102 == 4)), (by first | rfl | (simp; done) | (simp [*]; done)), H', ⟨by first | omega | exact Nat.le_refl _⟩, by repeat (first | exact Drawn0.refl _ | apply Drawn0.step)⟩
 case rest =>
  clear HC3
  obtain ⟨kq, x11_2, rfl, HA, HJ2, ⟨mc2, rfl⟩⟩ := hcut
  cases kq with
  | zero => exact absurd HA.out (by simp [fbits_Parts.j0])
  | succ kj2 =>
   have H := HA.out
   clear HA
   simp only [fbits_Parts.j0] at H
   refine if c5 : x11_2 = true then ?p97_ else ?n97_
   case p97_ =>
    subst c5
    replace H := ift H
    simp only [Option.some.injEq, Prod.mk.injEq] at H
    obtain ⟨rfl, rfl, rfl, rfl⟩ := H
    go_wp2
    refine bodyPost_ret (results_list (rs := [.tmp 2, .tmp 3, .tmp 4, .tmp 5]) rfl (by simp) (.tmp (.tmp (.tmp (.tmp .nil))))) rfl ?_
    exact ⟨by first | rfl | (simp; done) | (simp [*]; done), by repeat (first | exact Drawn0.refl _ | apply Drawn0.step)⟩
   case' n97_ =>
    replace c5 := Bool.eq_false_iff.mpr c5
    subst c5
    replace H := iff_ H
    refine if c6 : t102 = 2 then ?p98_ else ?n98_
    case' p98_ =>
     rw [if_pos c6] at H
     have c6b0 : (t102 == 2) = true := beq_iff_eq.mpr c6
     have c6b1 : (t102 != 2) = false := bne_eq_false_iff_eq.mpr c6
     clear c6
     obtain ⟨t103, A7, H⟩ := bnd H
     obtain ⟨t104, A8, H⟩ := bnd H
     simp only [Option.some.injEq, Prod.mk.injEq] at H
     obtain ⟨rfl, rfl, rfl, rfl⟩ := H
    case' n98_ =>
     rw [if_neg c6] at H
     have c6b0 : (t102 == 2) = false := beq_eq_false_iff_ne.mpr c6
     have c6b1 : (t102 != 2) = true := bne_iff_ne.mpr c6
     obtain ⟨t105, A9, H⟩ := bnd H
     simp only [Option.some.injEq, Prod.mk.injEq] at H
     obtain ⟨rfl, rfl, rfl, rfl⟩ := H
   case p98_ | n98_ =>
    go_wp2_with (first | ((with_reducible refine gate_callee (f := 41) rfl ?_); refine goesL_ (some 17) rfl rfl Try.func41 (by kernel_rfl) rfl #[.int .u64 a0] rfl lx ?_; (with_reducible refine (fbits_Neg.calls a0 t103 _ A7.out).mono ?_); rintro e w' ⟨rfl, ⟨nd, rfl⟩⟩; refine ⟨_, rfl, ?_⟩) | ((with_reducible refine gate_callee (f := 85) rfl ?_); refine goesL_ (some 21) rfl rfl Try.func85 (by kernel_rfl) rfl #[.int .u64 a0] rfl lx ?_; (with_reducible refine (fbits_exponent.calls a0 t104 _ A8.out).mono ?_); rintro e w' ⟨rfl, ⟨nd, rfl⟩⟩; refine ⟨_, rfl, ?_⟩) | ((with_reducible refine gate_callee (f := 41) rfl ?_); refine goesL_ (some 24) rfl rfl Try.func41 (by kernel_rfl) rfl #[.int .u64 a0] rfl lx ?_; (with_reducible refine (fbits_Neg.calls a0 t105 _ A9.out).mono ?_); rintro e w' ⟨rfl, ⟨nd, rfl⟩⟩; refine ⟨_, rfl, ?_⟩))
    refine bodyPost_ret (results_list (rs := [.tmp 2, .tmp 3, .tmp 4, .tmp 5]) rfl (by simp) (.tmp (.tmp (.tmp (.tmp .nil))))) rfl ?_
    exact ⟨by first | rfl | (simp; done) | (simp [*]; done), by repeat (first | exact Drawn0.refl _ | apply Drawn0.step)⟩

end Go.Proofs.Ytbpggonjcnakgaa.P
