/- Functions of one package as Lean functions, and walks: written by a program for this claim. -/
import Derived.Test.YtldcgclbgbhffaaFbase
import Derived.Test.YtldcgclbgbhffaaBgradineref02
namespace Go.Proofs.Ytldcgclbgbhffaa.P
open Go.RowKit Go.Proofs.YtldcgclbgbhffaaW.PrintWords Go.Proofs.YtldcgclbgbhffaaW.PrintLast Go.Proofs.YtldcgclbgbhffaaW.PrintMore
attribute [local go_sem] max2_int min2_int max_two min_two max_three min_three max_four min_four   -- for this text's walks alone
set_option linter.unusedVariables false
set_option linter.unusedSimpArgs false

mutual
def gradineref03_Mul.l0 : Nat → List Int → List Int → List Int → Int → Int → Option (List Int)
 | 0, _, _, _, _, _ => none
 | k + 1, x5, x6, x7, x23, x24 => if x24 < x23 then (gradineref03_Mul.l1 k x5 x6 x7 x24 0 x23 x24 (x6.length : Int) 0) else ((gradineref02_Whole.f k x7).bind fun t622 => (some t622))
def gradineref03_Mul.l1 : Nat → List Int → List Int → List Int → Int → Int → Int → Int → Int → Int → Option (List Int)
 | 0, _, _, _, _, _, _, _, _, _ => none
 | k + 1, x5, x6, x7, x8, x9, x23, x24, x28, x29 => if x29 < x28 then (if 0 ≤ x8 then (if x8 < (x5.length : Int) then (if 0 ≤ x29 then (if x29 < (x6.length : Int) then (if 0 ≤ (wrap64 (x8 + x29)) then (if (wrap64 (x8 + x29)) < (x7.length : Int) then (gradineref03_Mul.l1 k x5 x6 (x7.set ((wrap64 (x8 + x29)) : Int).toNat (Go.bits .and .u64 (IntKind.u64.wrap ((IntKind.u64.wrap (x9 + (IntKind.u64.wrap ((rd x5 x8) * (rd x6 x29))))) + (rd x7 (wrap64 (x8 + x29))))) 4294967295)) x8 ((IntKind.u64.wrap ((IntKind.u64.wrap (x9 + (IntKind.u64.wrap ((rd x5 x8) * (rd x6 x29))))) + (rd x7 (wrap64 (x8 + x29))))) / 4294967296) x23 x24 x28 (wrap64 (x29 + 1))) else (none)) else (none)) else (none)) else (none)) else (none)) else (none)) else (if 0 ≤ (wrap64 (x8 + (x6.length : Int))) then (if (wrap64 (x8 + (x6.length : Int))) < (x7.length : Int) then (gradineref03_Mul.l0 k x5 x6 (x7.set ((wrap64 (x8 + (x6.length : Int))) : Int).toNat x9) x23 (wrap64 (x24 + 1))) else (none)) else (none))
end
def gradineref03_Mul.f (k : Nat) (l0 : List Int) (l1 : List Int) : Option (List Int) := (gradineref02_Halves.f k l0).bind fun t613 => ((gradineref02_Halves.f k l1).bind fun t616 => (if 0 ≤ (wrap64 ((wrap64 ((t613.length : Int) + (t616.length : Int))) + 1)) then (if (wrap64 ((wrap64 ((t613.length : Int) + (t616.length : Int))) + 1) : Int).toNat ≤ 35184372088832 then (gradineref03_Mul.l0 k t613 t616 (List.replicate (wrap64 ((wrap64 ((t613.length : Int) + (t616.length : Int))) + 1) : Int).toNat 0) (t613.length : Int) 0) else (none)) else (none)))
set_option maxHeartbeats 8000000 in
set_option maxRecDepth 100000 in
theorem gradineref03_Mul.calls (k : Nat) (A0 : Option Addr) (c0 : Nat) (l0 : List Int) (A1 : Option Addr) (c1 : Nat) (l1 : List Int) (r : List Int) (w : World) (hr0 : Kd.C (Kd.int .u64) w A0 l0.length l0) (hc0 : l0.length ≤ c0) (hr1 : Kd.C (Kd.int .u64) w A1 l1.length l1) (hc1 : l1.length ≤ c1) (h : gradineref03_Mul.f k l0 l1 = some r) :
  Calls Try.prog 77 #[.slice A0 l0.length c0, .slice A1 l1.length c1] w fun e w' => ∃ v0_ : Value, e = .returned (v0_) ∧ Kd.R (Kd.int .u64) 22 w' w.heap.size (fun _ => True) v0_ r ∧ Below w.heap.size w w' := by
 have HR0 := Aside0.mk hr0
 have HC0 := Aside0.mk hc0
 clear hr0 hc0
 have HR1 := Aside0.mk hr1
 have HC1 := Aside0.mk hc1
 clear hr1 hc1
 have HB := Aside0.mk (Below.refl w.heap.size w)
 have H : ((gradineref02_Halves.f k l0).bind fun t613 => ((gradineref02_Halves.f k l1).bind fun t616 => (if 0 ≤ (wrap64 ((wrap64 ((t613.length : Int) + (t616.length : Int))) + 1)) then (if (wrap64 ((wrap64 ((t613.length : Int) + (t616.length : Int))) + 1) : Int).toNat ≤ 35184372088832 then (gradineref03_Mul.l0 k t613 t616 (List.replicate (wrap64 ((wrap64 ((t613.length : Int) + (t616.length : Int))) + 1) : Int).toNat 0) (t613.length : Int) 0) else (none)) else (none)))) = some r := h
 clear h
 replace H := Option.bind_eq_some_iff.mp H
 obtain ⟨t613, A30, H⟩ := H
 replace H : ((gradineref02_Halves.f k l1).bind fun t616 => (if 0 ≤ (wrap64 ((wrap64 ((t613.length : Int) + (t616.length : Int))) + 1)) then (if (wrap64 ((wrap64 ((t613.length : Int) + (t616.length : Int))) + 1) : Int).toNat ≤ 35184372088832 then (gradineref03_Mul.l0 k t613 t616 (List.replicate (wrap64 ((wrap64 ((t613.length : Int) + (t616.length : Int))) + 1) : Int).toNat 0) (t613.length : Int) 0) else (none)) else (none))) = some r := H
 have A3 := Aside0.mk A30
 clear A30
 replace H := Option.bind_eq_some_iff.mp H
 obtain ⟨t616, A40, H⟩ := H
 replace H : (if 0 ≤ (wrap64 ((wrap64 ((t613.length : Int) + (t616.length : Int))) + 1)) then (if (wrap64 ((wrap64 ((t613.length : Int) + (t616.length : Int))) + 1) : Int).toNat ≤ 35184372088832 then (gradineref03_Mul.l0 k t613 t616 (List.replicate (wrap64 ((wrap64 ((t613.length : Int) + (t616.length : Int))) + 1) : Int).toNat 0) (t613.length : Int) 0) else (none)) else (none)) = some r := H
 have A4 := Aside0.mk A40
 clear A40
 obtain ⟨ji5, hji5⟩ : ∃ j_ : Int, (wrap64 ((wrap64 ((t613.length : Int) + (t616.length : Int))) + 1)) = j_ := ⟨_, rfl⟩
 replace H : (if 0 ≤ (ji5) then (if (ji5 : Int).toNat ≤ 35184372088832 then (gradineref03_Mul.l0 k t613 t616 (List.replicate (ji5 : Int).toNat 0) (t613.length : Int) 0) else (none)) else (none)) = some r := by first | (rw [hji5] at H; exact H) | (simp only [hji5] at H ⊢; exact H)
 (try rw [hji5] at A3)
 (try rw [hji5] at A4)
 have hji5w : (IntKind.i64.wrap ((wrap64 ((t613.length : Int) + (t616.length : Int))) + 1)) = ji5 := (i64_w _).trans hji5
 by_cases c6 : 0 ≤ (ji5)
 ·rw [if_pos c6] at H
  have c6b0 := eq_true c6
  have c6b1 : decide (0 ≤ (ji5)) = true := decide_eq_true c6
  clear c6
  by_cases c7 : (ji5 : Int).toNat ≤ 35184372088832
  ·rw [if_pos c7] at H
   have c7b0 := eq_true c7
   have c7b1 : decide ((ji5 : Int).toNat ≤ 35184372088832) = true := decide_eq_true c7
   clear c7
   obtain ⟨y619, hy619⟩ : ∃ y_ : List Int, y_ = (List.replicate (ji5 : Int).toNat 0) := ⟨_, rfl⟩
   replace H : (gradineref03_Mul.l0 k t613 t616 y619 (t613.length : Int) 0) = some r := by first | (rw [hy619]; with_reducible exact H) | (have H2_ := (Option.bind_some _ _).symm.trans H; rw [hy619]; with_reducible exact H2_) | (have H2_ := (Option.bind_some _ _).symm.trans H; with_reducible exact H2_) | with_reducible exact H | (rw [hy619]; exact H) | exact H
   have Ny619 := Aside0.mk hy619
   clear hy619
   have H' := Aside0.mk H
   clear H
   go_enter Try.func77, Try.ntmps77
   iterate 6 (first | go_quiet (first | (go_at_call 142; (with_reducible refine (gradineref02_Halves.calls k _ _ l0 t613 _ ?side1 ?side2 A3.out).mono ?_); (case side1 => exact cs HR0.out); (case side2 => exact HC0.out); rintro e w8 ⟨v614, rfl, ho0, hb⟩; have n0_ := Aside0.mk (Kd.R_lower ho0 (below_size (bb HB.out))); have n1_ := Aside0.mk (below_step (bb HB.out) hb); clear HB; have HO615 := n0_; have HB := n1_; clear n0_ n1_) | (go_at_call 142; (with_reducible refine (gradineref02_Halves.calls k _ _ l1 t616 _ ?side1 ?side2 A4.out).mono ?_); (case side1 => exact cs (Kd.C_below HR1.out HB.out)); (case side2 => exact HC1.out); rintro e w9 ⟨v617, rfl, ho0, hb⟩; have n0_ := Aside0.mk (Kd.R_elder' (st HO615.out) (Kd.R_base ho0) hb); have n1_ := Aside0.mk (Kd.R_lower (Kd.R_new' ho0 (Kd.R_lt (st HO615.out))) (below_size (bb HB.out))); have n2_ := Aside0.mk (below_step (bb HB.out) hb); clear HO615; clear HB; have HO615 := n0_; have HO618 := n1_; have HB := n2_; clear n0_ n1_ n2_; (try clear hb); (try clear hb2); (try clear hk); (try clear hi); (try clear ho0); obtain ⟨Ao10, co10, eo10⟩ := Kd.R_slice HO615.out; subst eo10; obtain ⟨Ao11, co11, eo11⟩ := Kd.R_slice HO618.out; subst eo11) | ((with_reducible refine gate_dst (N := 21) rfl ?_); refine Kd.R_make (Kd.int .u64) _ 22 rfl (N := 21) rfl 31 _ _ rfl ji5 rfl rfl Try.underlying31 (.int .u64 0) 8 info22 rfl (by decide) (by omega) 0 (ok := fun _ => True) (okp := fun _ => True) rfl (fun _ hk => hk) trivial (of_decide_eq_true (by first | (with_reducible assumption) | assumption)) (Nat.le_trans (Nat.mul_le_mul_right _ (of_decide_eq_true (by first | (with_reducible assumption) | assumption) : ji5.toNat ≤ 35184372088832)) (by omega)) (Below.refl _ _) (Nat.le_refl _) ?_; intro v620 w12 ho13 hb hg_ hnew_; clear hg_ hnew_; (first | rw [← Ny619.out] at ho13 | (simp only [Int.reduceToNat] at ho13; rw [← Ny619.out] at ho13)); have n0_ := Aside0.mk (Kd.R_elder' (st HO615.out) (Kd.R_base ho13) hb); have n1_ := Aside0.mk (Kd.R_elder' (st HO618.out) (Kd.R_base ho13) hb); have n2_ := Aside0.mk (Kd.R_lower (Kd.R_new' (Kd.R_new' ho13 (Kd.R_lt (st HO615.out))) (Kd.R_lt (st HO618.out))) (below_size (bb HB.out))); have n3_ := Aside0.mk (below_step (bb HB.out) hb); clear HO615; clear HO618; clear HB; have HO615 := n0_; have HO618 := n1_; have HO621 := n2_; have HB := n3_; clear n0_ n1_ n2_ n3_; clear hb ho13)) | go_wp2_with (first | (go_at_call 142; (with_reducible refine (gradineref02_Halves.calls k _ _ l0 t613 _ ?side1 ?side2 A3.out).mono ?_); (case side1 => exact cs HR0.out); (case side2 => exact HC0.out); rintro e w8 ⟨v614, rfl, ho0, hb⟩; have n0_ := Aside0.mk (Kd.R_lower ho0 (below_size (bb HB.out))); have n1_ := Aside0.mk (below_step (bb HB.out) hb); clear HB; have HO615 := n0_; have HB := n1_; clear n0_ n1_) | (go_at_call 142; (with_reducible refine (gradineref02_Halves.calls k _ _ l1 t616 _ ?side1 ?side2 A4.out).mono ?_); (case side1 => exact cs (Kd.C_below HR1.out HB.out)); (case side2 => exact HC1.out); rintro e w9 ⟨v617, rfl, ho0, hb⟩; have n0_ := Aside0.mk (Kd.R_elder' (st HO615.out) (Kd.R_base ho0) hb); have n1_ := Aside0.mk (Kd.R_lower (Kd.R_new' ho0 (Kd.R_lt (st HO615.out))) (below_size (bb HB.out))); have n2_ := Aside0.mk (below_step (bb HB.out) hb); clear HO615; clear HB; have HO615 := n0_; have HO618 := n1_; have HB := n2_; clear n0_ n1_ n2_; (try clear hb); (try clear hb2); (try clear hk); (try clear hi); (try clear ho0); obtain ⟨Ao10, co10, eo10⟩ := Kd.R_slice HO615.out; subst eo10; obtain ⟨Ao11, co11, eo11⟩ := Kd.R_slice HO618.out; subst eo11) | ((with_reducible refine gate_dst (N := 21) rfl ?_); refine Kd.R_make (Kd.int .u64) _ 22 rfl (N := 21) rfl 31 _ _ rfl ji5 rfl rfl Try.underlying31 (.int .u64 0) 8 info22 rfl (by decide) (by omega) 0 (ok := fun _ => True) (okp := fun _ => True) rfl (fun _ hk => hk) trivial (of_decide_eq_true (by first | (with_reducible assumption) | assumption)) (Nat.le_trans (Nat.mul_le_mul_right _ (of_decide_eq_true (by first | (with_reducible assumption) | assumption) : ji5.toNat ≤ 35184372088832)) (by omega)) (Below.refl _ _) (Nat.le_refl _) ?_; intro v620 w12 ho13 hb hg_ hnew_; clear hg_ hnew_; (first | rw [← Ny619.out] at ho13 | (simp only [Int.reduceToNat] at ho13; rw [← Ny619.out] at ho13)); have n0_ := Aside0.mk (Kd.R_elder' (st HO615.out) (Kd.R_base ho13) hb); have n1_ := Aside0.mk (Kd.R_elder' (st HO618.out) (Kd.R_base ho13) hb); have n2_ := Aside0.mk (Kd.R_lower (Kd.R_new' (Kd.R_new' ho13 (Kd.R_lt (st HO615.out))) (Kd.R_lt (st HO618.out))) (below_size (bb HB.out))); have n3_ := Aside0.mk (below_step (bb HB.out) hb); clear HO615; clear HO618; clear HB; have HO615 := n0_; have HO618 := n1_; have HO621 := n2_; have HB := n3_; clear n0_ n1_ n2_ n3_; clear hb ho13)) | skip)
   go_loopg [24] k (fun kq v24 w' => ∃ (x7_1 : List Int) (x24_1 : Int), v24 = .int .i64 x24_1 ∧ Aside0 (gradineref03_Mul.l0 kq t613 t616 x7_1 (t613.length : Int) x24_1 = some r) ∧ Aside0 (kq ≤ k) ∧ Aside0 (Kd.R (Kd.int .u64) 22 w' w.heap.size (fun k_ => some k_ ≠ ((.slice Ao11 t616.length co11) : Value).ownBlock ∧ some k_ ≠ (v620 : Value).ownBlock) (.slice Ao10 t613.length co10) t613) ∧ Aside0 (Kd.R (Kd.int .u64) 22 w' w.heap.size (fun k_ => some k_ ≠ ((.slice Ao10 t613.length co10) : Value).ownBlock ∧ some k_ ≠ (v620 : Value).ownBlock) (.slice Ao11 t616.length co11) t616) ∧ Aside0 (Kd.R (Kd.int .u64) 22 w' w.heap.size (fun k_ => some k_ ≠ ((.slice Ao10 t613.length co10) : Value).ownBlock ∧ some k_ ≠ ((.slice Ao11 t616.length co11) : Value).ownBlock) v620 x7_1) ∧ Aside0 (Below w.heap.size w w'))
   case atStart => exact ⟨(y619), (0), (by first | rfl | (simp; done) | (simp [*]; done)), H', ⟨Nat.le_refl _⟩, ⟨by (with_reducible repeat (first | apply Kd.R_alloc | apply Kd.R_drewN | apply Kd.R_drew)); exact Kd.R_mono HO615.out (fun _ hk => ⟨hk.1.2, hk.2⟩)⟩, ⟨by (with_reducible repeat (first | apply Kd.R_alloc | apply Kd.R_drewN | apply Kd.R_drew)); exact Kd.R_mono HO618.out (fun _ hk => ⟨hk.1.2, hk.2⟩)⟩, ⟨by (with_reducible repeat (first | apply Kd.R_alloc | apply Kd.R_drewN | apply Kd.R_drew)); exact Kd.R_mono HO621.out (fun _ hk => ⟨hk.1.2, hk.2⟩)⟩, ⟨bb HB.out⟩⟩
   case round =>
    clear H'
    try clear c1
    try clear p2
    try clear c6
    try clear c6b0
    try clear c6b1
    try clear p6
    try clear c7
    try clear c7b0
    try clear c7b1
    obtain ⟨x7_1, x24_1, rfl, HA, HK1, HO_5, HO_6, HO_7, HB⟩ := hrel
    cases gk with
    | zero => exact absurd HA.out (by simp [gradineref03_Mul.l0])
    | succ k1 =>
     have H := HA.out
     clear HA
     simp only [gradineref03_Mul.l0] at H
     by_cases c14 : x24_1 < (t613.length : Int)
     ·rw [if_pos c14] at H
      have c14b0 : decide (x24_1 < (t613.length : Int)) = true := decide_eq_true c14
      clear c14
      have H' := Aside0.mk H
      clear H
      go_wp2
      repeat (go_quiet (fail); try go_wp2)
      go_loopg [9, 29] k1 (fun kq v9 v29 w' => ∃ (x7_2 : List Int) (x9_2 : Int) (x29_2 : Int), v9 = .int .u64 x9_2 ∧ v29 = .int .i64 x29_2 ∧ Aside0 (gradineref03_Mul.l1 kq t613 t616 x7_2 x24_1 x9_2 (t613.length : Int) x24_1 (t616.length : Int) x29_2 = some r) ∧ Aside0 (kq ≤ k1) ∧ Aside0 (Kd.R (Kd.int .u64) 22 w' w.heap.size (fun k_ => some k_ ≠ ((.slice Ao11 t616.length co11) : Value).ownBlock ∧ some k_ ≠ (v620 : Value).ownBlock) (.slice Ao10 t613.length co10) t613) ∧ Aside0 (Kd.R (Kd.int .u64) 22 w' w.heap.size (fun k_ => some k_ ≠ ((.slice Ao10 t613.length co10) : Value).ownBlock ∧ some k_ ≠ (v620 : Value).ownBlock) (.slice Ao11 t616.length co11) t616) ∧ Aside0 (Kd.R (Kd.int .u64) 22 w' w.heap.size (fun k_ => some k_ ≠ ((.slice Ao10 t613.length co10) : Value).ownBlock ∧ some k_ ≠ ((.slice Ao11 t616.length co11) : Value).ownBlock) v620 x7_2) ∧ Aside0 (Below w.heap.size w w'))
      case atStart => exact ⟨(x7_1), (0), (0), (by first | rfl | (simp; done) | (simp [*]; done)), (by first | rfl | (simp; done) | (simp [*]; done)), H', ⟨Nat.le_refl _⟩, ⟨by (with_reducible repeat (first | apply Kd.R_alloc | apply Kd.R_drewN | apply Kd.R_drew)); exact HO_5.out⟩, ⟨by (with_reducible repeat (first | apply Kd.R_alloc | apply Kd.R_drewN | apply Kd.R_drew)); exact HO_6.out⟩, ⟨by (with_reducible repeat (first | apply Kd.R_alloc | apply Kd.R_drewN | apply Kd.R_drew)); exact HO_7.out⟩, ⟨bb HB.out⟩⟩
      case round =>
       clear H'
       try clear c1
       try clear p2
       try clear c6
       try clear c6b0
       try clear c6b1
       try clear p6
       try clear c7
       try clear c7b0
       try clear c7b1
       try clear c14
       try clear c14b0
       try clear p2
       try clear p6
       obtain ⟨x7_2, x9_2, x29_2, rfl, rfl, HA, HK2, HO_5, HO_6, HO_7, HB⟩ := hrel
       cases gk with
       | zero => exact absurd HA.out (by simp [gradineref03_Mul.l1])
       | succ k2 =>
        have H := HA.out
        clear HA
        simp only [gradineref03_Mul.l1] at H
        by_cases c15 : x29_2 < (t616.length : Int)
        ·rw [if_pos c15] at H
         have c15b0 : decide (x29_2 < (t616.length : Int)) = true := decide_eq_true c15
         clear c15
         by_cases c16 : 0 ≤ x24_1
         ·rw [if_pos c16] at H
          have c16b0 : decide (0 ≤ x24_1) = true := decide_eq_true c16
          clear c16
          by_cases c17 : x24_1 < (t613.length : Int)
          ·rw [if_pos c17] at H
           have c17b0 : decide (x24_1 < (t613.length : Int)) = true := decide_eq_true c17
           clear c17
           by_cases c18 : 0 ≤ x29_2
           ·rw [if_pos c18] at H
            have c18b0 : decide (0 ≤ x29_2) = true := decide_eq_true c18
            clear c18
            by_cases c19 : x29_2 < (t616.length : Int)
            ·rw [if_pos c19] at H
             have c19b0 : decide (x29_2 < (t616.length : Int)) = true := decide_eq_true c19
             clear c19
             obtain ⟨ji20, hji20⟩ : ∃ j_ : Int, (wrap64 (x24_1 + x29_2)) = j_ := ⟨_, rfl⟩
             replace H : (if 0 ≤ (ji20) then (if (ji20) < (x7_2.length : Int) then (gradineref03_Mul.l1 k2 t613 t616 (x7_2.set ((ji20) : Int).toNat (Go.bits .and .u64 (IntKind.u64.wrap ((IntKind.u64.wrap (x9_2 + (IntKind.u64.wrap ((rd t613 x24_1) * (rd t616 x29_2))))) + (rd x7_2 (ji20)))) 4294967295)) x24_1 ((IntKind.u64.wrap ((IntKind.u64.wrap (x9_2 + (IntKind.u64.wrap ((rd t613 x24_1) * (rd t616 x29_2))))) + (rd x7_2 (ji20)))) / 4294967296) (t613.length : Int) x24_1 (t616.length : Int) (wrap64 (x29_2 + 1))) else (none)) else (none)) = some r := by first | (rw [hji20] at H; exact H) | (simp only [hji20] at H ⊢; exact H)
             have hji20w : (IntKind.i64.wrap (x24_1 + x29_2)) = ji20 := (i64_w _).trans hji20
             by_cases c21 : 0 ≤ (ji20)
             ·rw [if_pos c21] at H
              have c21b0 : decide (0 ≤ (ji20)) = true := decide_eq_true c21
              clear c21
              by_cases c22 : (ji20) < (x7_2.length : Int)
              ·rw [if_pos c22] at H
               have c22b0 : decide ((ji20) < (x7_2.length : Int)) = true := decide_eq_true c22
               clear c22
               obtain ⟨y628, hy628⟩ : ∃ y_ : List Int, y_ = (x7_2.set ((ji20) : Int).toNat (Go.bits .and .u64 (IntKind.u64.wrap ((IntKind.u64.wrap (x9_2 + (IntKind.u64.wrap ((rd t613 x24_1) * (rd t616 x29_2))))) + (rd x7_2 (ji20)))) 4294967295)) := ⟨_, rfl⟩
               replace H : (gradineref03_Mul.l1 k2 t613 t616 y628 x24_1 ((IntKind.u64.wrap ((IntKind.u64.wrap (x9_2 + (IntKind.u64.wrap ((rd t613 x24_1) * (rd t616 x29_2))))) + (rd x7_2 (ji20)))) / 4294967296) (t613.length : Int) x24_1 (t616.length : Int) (wrap64 (x29_2 + 1))) = some r := by first | (rw [hy628]; with_reducible exact H) | (have H2_ := (Option.bind_some _ _).symm.trans H; rw [hy628]; with_reducible exact H2_) | (have H2_ := (Option.bind_some _ _).symm.trans H; with_reducible exact H2_) | with_reducible exact H | (rw [hy628]; exact H) | exact H
               have Ny628 := Aside0.mk hy628
               clear hy628
               have H' := Aside0.mk H
               clear H
               have p625 : 0 ≤ (x24_1 : Int) := of_decide_eq_true (by first | (with_reducible assumption) | assumption)
               have q625 : x24_1 < (t613.length : Int) := of_decide_eq_true (by first | (with_reducible assumption) | assumption)
               obtain ⟨ad625, e625, hx625_0⟩ := Kd.at_int (Kd.R_reads' HO_5.out).2.2 x24_1 p625 q625
               cases e625
               replace p625 := eq_true p625
               replace q625 := eq_true q625
               have p626 : 0 ≤ (x29_2 : Int) := of_decide_eq_true (by first | (with_reducible assumption) | assumption)
               have q626 : x29_2 < (t616.length : Int) := of_decide_eq_true (by first | (with_reducible assumption) | assumption)
               obtain ⟨ad626, e626, hx626_0⟩ := Kd.at_int (Kd.R_reads' HO_6.out).2.2 x29_2 p626 q626
               cases e626
               replace p626 := eq_true p626
               replace q626 := eq_true q626
               obtain ⟨Ao24, co24, eo24⟩ := Kd.R_slice HO_7.out
               subst eo24
               have p627 : 0 ≤ ((ji20) : Int) := of_decide_eq_true (by first | (with_reducible assumption) | assumption)
               have q627 : (ji20) < (x7_2.length : Int) := of_decide_eq_true (by first | (with_reducible assumption) | assumption)
               obtain ⟨ad627, e627, hx627_0⟩ := Kd.at_int (Kd.R_reads' HO_7.out).2.2 (ji20) p627 q627
               cases e627
               replace p627 := eq_true p627
               replace q627 := eq_true q627
               have p23 : 0 ≤ ((ji20) : Int) := of_decide_eq_true (by first | (with_reducible assumption) | assumption)
               have q23 : ((ji20) : Int) < ((x7_2.length : Int) : Int) := of_decide_eq_true (by first | (with_reducible assumption) | assumption)
               obtain ⟨go23, co23, eo23, gb23, gl23, cl23, HG23⟩ := Kd.R_form HO_7.out (by omega)
               (first | cases eo23 | (injection eo23 with ea_ en_ ec_; (first | subst ea_ | (injection ea_ with ea_; subst ea_)); subst ec_; clear en_))
               have GB23 := Aside0.mk gb23
               have GG23 := Aside0.mk HG23
               clear gb23 gl23 HG23
               (first | simp only [add_plain] at hx627_0 | skip)
               obtain ⟨hx23_0, hf23_0⟩ := Kd.R_celln 0 HO_7.out ((ji20) : Int) p23 q23
               replace p23 := eq_true p23
               replace q23 := eq_true q23
               have HP25 := Kd.R_putg HO_7.out ((ji20) : Int) (Go.bits .and .u64 (IntKind.u64.wrap ((IntKind.u64.wrap (x9_2 + (IntKind.u64.wrap ((rd t613 x24_1) * (rd t616 x29_2))))) + (rd x7_2 (ji20)))) 4294967295)
               iterate 6 (first | go_quiet (first | ((with_reducible refine gate_store (t := 22) (p := 56) rfl ?_); (try (rw [drewN_self wr]; generalize hq_ : World.drewN wr _ = wr; have n0_ := Aside0.mk (Kd.R_at hq_ HO_5.out); have n1_ := Aside0.mk (Kd.R_at hq_ HO_6.out); have n2_ := Aside0.mk (Kd.R_at hq_ HO_7.out); have n3_ := Aside0.mk (below_at hq_ HB.out); clear hq_ HO_5 HO_6 HO_7 HB; have HO_5 := n0_; have HO_6 := n1_; have HO_7 := n2_; have HB := n3_; clear n0_ n1_ n2_ n3_; (try (obtain ⟨hx23_0, hf23_0⟩ := Kd.R_celln 0 HO_7.out ((ji20) : Int) (of_eq_true p23) (of_eq_true q23))); (try (have HP25 := Kd.R_putg HO_7.out ((ji20) : Int) (Go.bits .and .u64 (IntKind.u64.wrap ((IntKind.u64.wrap (x9_2 + (IntKind.u64.wrap ((rd t613 x24_1) * (rd t616 x29_2))))) + (rd x7_2 (ji20)))) 4294967295))))); refine store_event (t := 22) (p := 56) (v := ?vo_w26) (w1 := (wr.setCell ⟨go23, ((ji20) : Int).toNat, none⟩ (.int .u64 (Go.bits .and .u64 (IntKind.u64.wrap ((IntKind.u64.wrap (x9_2 + (IntKind.u64.wrap ((rd t613 x24_1) * (rd t616 x29_2))))) + (rd x7_2 (ji20)))) 4294967295)))) ?hg ?ho ?hn ?hr ?_; (case ho => rfl); (case hg => rfl); (case hn => rfl); (case hr => first | (go_simp; done) | (go_simp; rfl)); intro w26 hw; have hg : wr.grownBy w26 (some go23) := (by rw [hw]; exact HP25.2); have hp_ : Kd.R (Kd.int .u64) 22 w26 w.heap.size (fun k_ => some k_ ≠ (.slice (some ad625) t613.length co10 : Value).ownBlock ∧ some k_ ≠ (.slice (some ad626) t616.length co11 : Value).ownBlock) (.slice (some ⟨go23, 0, none⟩) x7_2.length co24) y628 := (by rw [hw, Ny628.out]; exact HP25.1); clear HP25; have n0_ := Aside0.mk (Kd.R_after (v := (.slice (some ⟨go23, 0, none⟩) x7_2.length co24)) (v1 := (.slice (some ⟨go23, 0, none⟩) x7_2.length co24)) (ok := (fun k_ => some k_ ≠ (.slice (some ad626) t616.length co11 : Value).ownBlock)) (st HO_5.out) hg (.inl rfl)); have n1_ := Aside0.mk (Kd.R_after (v := (.slice (some ⟨go23, 0, none⟩) x7_2.length co24)) (v1 := (.slice (some ⟨go23, 0, none⟩) x7_2.length co24)) (ok := (fun k_ => some k_ ≠ (.slice (some ad625) t613.length co10 : Value).ownBlock)) (st HO_6.out) hg (.inl rfl)); have n2_ := Aside0.mk (hp_); have n3_ := Aside0.mk ((by rw [hw]; exact below_set (HB.out) GB23.out : Below w.heap.size w w26)); clear HO_5; clear HO_6; clear HO_7; clear HB; have HO_5 := n0_; have HO_6 := n1_; have HO_7 := n2_; have HB := n3_; clear n0_ n1_ n2_ n3_; clear hg hw hp_)) | go_wp2_with (first | ((with_reducible refine gate_store (t := 22) (p := 56) rfl ?_); (try (rw [drewN_self wr]; generalize hq_ : World.drewN wr _ = wr; have n0_ := Aside0.mk (Kd.R_at hq_ HO_5.out); have n1_ := Aside0.mk (Kd.R_at hq_ HO_6.out); have n2_ := Aside0.mk (Kd.R_at hq_ HO_7.out); have n3_ := Aside0.mk (below_at hq_ HB.out); clear hq_ HO_5 HO_6 HO_7 HB; have HO_5 := n0_; have HO_6 := n1_; have HO_7 := n2_; have HB := n3_; clear n0_ n1_ n2_ n3_; (try (obtain ⟨hx23_0, hf23_0⟩ := Kd.R_celln 0 HO_7.out ((ji20) : Int) (of_eq_true p23) (of_eq_true q23))); (try (have HP25 := Kd.R_putg HO_7.out ((ji20) : Int) (Go.bits .and .u64 (IntKind.u64.wrap ((IntKind.u64.wrap (x9_2 + (IntKind.u64.wrap ((rd t613 x24_1) * (rd t616 x29_2))))) + (rd x7_2 (ji20)))) 4294967295))))); refine store_event (t := 22) (p := 56) (v := ?vo_w26) (w1 := (wr.setCell ⟨go23, ((ji20) : Int).toNat, none⟩ (.int .u64 (Go.bits .and .u64 (IntKind.u64.wrap ((IntKind.u64.wrap (x9_2 + (IntKind.u64.wrap ((rd t613 x24_1) * (rd t616 x29_2))))) + (rd x7_2 (ji20)))) 4294967295)))) ?hg ?ho ?hn ?hr ?_; (case ho => rfl); (case hg => rfl); (case hn => rfl); (case hr => first | (go_simp; done) | (go_simp; rfl)); intro w26 hw; have hg : wr.grownBy w26 (some go23) := (by rw [hw]; exact HP25.2); have hp_ : Kd.R (Kd.int .u64) 22 w26 w.heap.size (fun k_ => some k_ ≠ (.slice (some ad625) t613.length co10 : Value).ownBlock ∧ some k_ ≠ (.slice (some ad626) t616.length co11 : Value).ownBlock) (.slice (some ⟨go23, 0, none⟩) x7_2.length co24) y628 := (by rw [hw, Ny628.out]; exact HP25.1); clear HP25; have n0_ := Aside0.mk (Kd.R_after (v := (.slice (some ⟨go23, 0, none⟩) x7_2.length co24)) (v1 := (.slice (some ⟨go23, 0, none⟩) x7_2.length co24)) (ok := (fun k_ => some k_ ≠ (.slice (some ad626) t616.length co11 : Value).ownBlock)) (st HO_5.out) hg (.inl rfl)); have n1_ := Aside0.mk (Kd.R_after (v := (.slice (some ⟨go23, 0, none⟩) x7_2.length co24)) (v1 := (.slice (some ⟨go23, 0, none⟩) x7_2.length co24)) (ok := (fun k_ => some k_ ≠ (.slice (some ad625) t613.length co10 : Value).ownBlock)) (st HO_6.out) hg (.inl rfl)); have n2_ := Aside0.mk (hp_); have n3_ := Aside0.mk ((by rw [hw]; exact below_set (HB.out) GB23.out : Below w.heap.size w w26)); clear HO_5; clear HO_6; clear HO_7; clear HB; have HO_5 := n0_; have HO_6 := n1_; have HO_7 := n2_; have HB := n3_; clear n0_ n1_ n2_ n3_; clear hg hw hp_)) | skip)
               go_roundg k2
               case measure => have := HK1.out; have := HK2.out; omega
               case rel => exact ⟨(y628), ((IntKind.u64.wrap ((IntKind.u64.wrap (x9_2 + (IntKind.u64.wrap ((rd t613 x24_1) * (rd t616 x29_2))))) + (rd x7_2 (ji20)))) / 4294967296), (wrap64 (x29_2 + 1)), (by first | rfl | (simp; done) | (simp only [← hji20] <;> (first | rfl | simp)) | (simp [*]; done)), (by first | rfl | (simp; done) | (simp [*]; done)), H', ⟨by have := HK1.out; have := HK2.out; omega⟩, ⟨by (with_reducible repeat (first | apply Kd.R_alloc | apply Kd.R_drewN | apply Kd.R_drew)); exact HO_5.out⟩, ⟨by (with_reducible repeat (first | apply Kd.R_alloc | apply Kd.R_drewN | apply Kd.R_drew)); exact HO_6.out⟩, ⟨by (with_reducible repeat (first | apply Kd.R_alloc | apply Kd.R_drewN | apply Kd.R_drew)); exact HO_7.out⟩, ⟨bb HB.out⟩⟩
              ·rw [if_neg c22] at H
               exact absurd H (by simp)
             ·rw [if_neg c21] at H
              exact absurd H (by simp)
            ·rw [if_neg c19] at H
             exact absurd H (by simp)
           ·rw [if_neg c18] at H
            exact absurd H (by simp)
          ·rw [if_neg c17] at H
           exact absurd H (by simp)
         ·rw [if_neg c16] at H
          exact absurd H (by simp)
        ·rw [if_neg c15] at H
         have c15b0 : decide (x29_2 < (t616.length : Int)) = false := decide_eq_false c15
         clear c15
         obtain ⟨ji27, hji27⟩ : ∃ j_ : Int, (wrap64 (x24_1 + (t616.length : Int))) = j_ := ⟨_, rfl⟩
         replace H : (if 0 ≤ (ji27) then (if (ji27) < (x7_2.length : Int) then (gradineref03_Mul.l0 k2 t613 t616 (x7_2.set ((ji27) : Int).toNat x9_2) (t613.length : Int) (wrap64 (x24_1 + 1))) else (none)) else (none)) = some r := by first | (rw [hji27] at H; exact H) | (simp only [hji27] at H ⊢; exact H)
         have hji27w : (IntKind.i64.wrap (x24_1 + (t616.length : Int))) = ji27 := (i64_w _).trans hji27
         by_cases c28 : 0 ≤ (ji27)
         ·rw [if_pos c28] at H
          have c28b0 : decide (0 ≤ (ji27)) = true := decide_eq_true c28
          clear c28
          by_cases c29 : (ji27) < (x7_2.length : Int)
          ·rw [if_pos c29] at H
           have c29b0 : decide ((ji27) < (x7_2.length : Int)) = true := decide_eq_true c29
           clear c29
           obtain ⟨y629, hy629⟩ : ∃ y_ : List Int, y_ = (x7_2.set ((ji27) : Int).toNat x9_2) := ⟨_, rfl⟩
           replace H : (gradineref03_Mul.l0 k2 t613 t616 y629 (t613.length : Int) (wrap64 (x24_1 + 1))) = some r := by first | (rw [hy629]; with_reducible exact H) | (have H2_ := (Option.bind_some _ _).symm.trans H; rw [hy629]; with_reducible exact H2_) | (have H2_ := (Option.bind_some _ _).symm.trans H; with_reducible exact H2_) | with_reducible exact H | (rw [hy629]; exact H) | exact H
           have Ny629 := Aside0.mk hy629
           clear hy629
           have H' := Aside0.mk H
           clear H
           have p30 : 0 ≤ ((ji27) : Int) := of_decide_eq_true (by first | (with_reducible assumption) | assumption)
           have q30 : ((ji27) : Int) < ((x7_2.length : Int) : Int) := of_decide_eq_true (by first | (with_reducible assumption) | assumption)
           obtain ⟨go30, co30, eo30, gb30, gl30, cl30, HG30⟩ := Kd.R_form HO_7.out (by omega)
           (first | cases eo30 | (injection eo30 with ea_ en_ ec_; (first | subst ea_ | (injection ea_ with ea_; subst ea_)); subst ec_; clear en_))
           have GB30 := Aside0.mk gb30
           have GG30 := Aside0.mk HG30
           clear gb30 gl30 HG30
           obtain ⟨hx30_0, hf30_0⟩ := Kd.R_celln 0 HO_7.out ((ji27) : Int) p30 q30
           replace p30 := eq_true p30
           replace q30 := eq_true q30
           have HP31 := Kd.R_putg HO_7.out ((ji27) : Int) x9_2
           iterate 6 (first | go_quiet (first | ((with_reducible refine gate_store (t := 22) (p := 66) rfl ?_); (try (rw [drewN_self wr]; generalize hq_ : World.drewN wr _ = wr; have n0_ := Aside0.mk (Kd.R_at hq_ HO_5.out); have n1_ := Aside0.mk (Kd.R_at hq_ HO_6.out); have n2_ := Aside0.mk (Kd.R_at hq_ HO_7.out); have n3_ := Aside0.mk (below_at hq_ HB.out); clear hq_ HO_5 HO_6 HO_7 HB; have HO_5 := n0_; have HO_6 := n1_; have HO_7 := n2_; have HB := n3_; clear n0_ n1_ n2_ n3_; (try (obtain ⟨hx30_0, hf30_0⟩ := Kd.R_celln 0 HO_7.out ((ji27) : Int) (of_eq_true p30) (of_eq_true q30))); (try (have HP31 := Kd.R_putg HO_7.out ((ji27) : Int) x9_2)))); refine store_event (t := 22) (p := 66) (v := ?vo_w32) (w1 := (wr.setCell ⟨go30, ((ji27) : Int).toNat, none⟩ (.int .u64 x9_2))) ?hg ?ho ?hn ?hr ?_; (case ho => rfl); (case hg => rfl); (case hn => rfl); (case hr => first | (go_simp; done) | (go_simp; rfl)); intro w32 hw; have hg : wr.grownBy w32 (some go30) := (by rw [hw]; exact HP31.2); have hp_ : Kd.R (Kd.int .u64) 22 w32 w.heap.size (fun k_ => some k_ ≠ (.slice Ao10 t613.length co10 : Value).ownBlock ∧ some k_ ≠ (.slice Ao11 t616.length co11 : Value).ownBlock) (.slice (some ⟨go30, 0, none⟩) x7_2.length co30) y629 := (by rw [hw, Ny629.out]; exact HP31.1); clear HP31; have n0_ := Aside0.mk (Kd.R_after (v := (.slice (some ⟨go30, 0, none⟩) x7_2.length co30)) (v1 := (.slice (some ⟨go30, 0, none⟩) x7_2.length co30)) (ok := (fun k_ => some k_ ≠ (.slice Ao11 t616.length co11 : Value).ownBlock)) (st HO_5.out) hg (.inl rfl)); have n1_ := Aside0.mk (Kd.R_after (v := (.slice (some ⟨go30, 0, none⟩) x7_2.length co30)) (v1 := (.slice (some ⟨go30, 0, none⟩) x7_2.length co30)) (ok := (fun k_ => some k_ ≠ (.slice Ao10 t613.length co10 : Value).ownBlock)) (st HO_6.out) hg (.inl rfl)); have n2_ := Aside0.mk (hp_); have n3_ := Aside0.mk ((by rw [hw]; exact below_set (HB.out) GB30.out : Below w.heap.size w w32)); clear HO_5; clear HO_6; clear HO_7; clear HB; have HO_5 := n0_; have HO_6 := n1_; have HO_7 := n2_; have HB := n3_; clear n0_ n1_ n2_ n3_; clear hg hw hp_)) | go_wp2_with (first | ((with_reducible refine gate_store (t := 22) (p := 66) rfl ?_); (try (rw [drewN_self wr]; generalize hq_ : World.drewN wr _ = wr; have n0_ := Aside0.mk (Kd.R_at hq_ HO_5.out); have n1_ := Aside0.mk (Kd.R_at hq_ HO_6.out); have n2_ := Aside0.mk (Kd.R_at hq_ HO_7.out); have n3_ := Aside0.mk (below_at hq_ HB.out); clear hq_ HO_5 HO_6 HO_7 HB; have HO_5 := n0_; have HO_6 := n1_; have HO_7 := n2_; have HB := n3_; clear n0_ n1_ n2_ n3_; (try (obtain ⟨hx30_0, hf30_0⟩ := Kd.R_celln 0 HO_7.out ((ji27) : Int) (of_eq_true p30) (of_eq_true q30))); (try (have HP31 := Kd.R_putg HO_7.out ((ji27) : Int) x9_2)))); refine store_event (t := 22) (p := 66) (v := ?vo_w32) (w1 := (wr.setCell ⟨go30, ((ji27) : Int).toNat, none⟩ (.int .u64 x9_2))) ?hg ?ho ?hn ?hr ?_; (case ho => rfl); (case hg => rfl); (case hn => rfl); (case hr => first | (go_simp; done) | (go_simp; rfl)); intro w32 hw; have hg : wr.grownBy w32 (some go30) := (by rw [hw]; exact HP31.2); have hp_ : Kd.R (Kd.int .u64) 22 w32 w.heap.size (fun k_ => some k_ ≠ (.slice Ao10 t613.length co10 : Value).ownBlock ∧ some k_ ≠ (.slice Ao11 t616.length co11 : Value).ownBlock) (.slice (some ⟨go30, 0, none⟩) x7_2.length co30) y629 := (by rw [hw, Ny629.out]; exact HP31.1); clear HP31; have n0_ := Aside0.mk (Kd.R_after (v := (.slice (some ⟨go30, 0, none⟩) x7_2.length co30)) (v1 := (.slice (some ⟨go30, 0, none⟩) x7_2.length co30)) (ok := (fun k_ => some k_ ≠ (.slice Ao11 t616.length co11 : Value).ownBlock)) (st HO_5.out) hg (.inl rfl)); have n1_ := Aside0.mk (Kd.R_after (v := (.slice (some ⟨go30, 0, none⟩) x7_2.length co30)) (v1 := (.slice (some ⟨go30, 0, none⟩) x7_2.length co30)) (ok := (fun k_ => some k_ ≠ (.slice Ao10 t613.length co10 : Value).ownBlock)) (st HO_6.out) hg (.inl rfl)); have n2_ := Aside0.mk (hp_); have n3_ := Aside0.mk ((by rw [hw]; exact below_set (HB.out) GB30.out : Below w.heap.size w w32)); clear HO_5; clear HO_6; clear HO_7; clear HB; have HO_5 := n0_; have HO_6 := n1_; have HO_7 := n2_; have HB := n3_; clear n0_ n1_ n2_ n3_; clear hg hw hp_)) | skip)
           go_roundg k2
           case measure => have := HK1.out; have := HK2.out; omega
           case rel => exact ⟨(y629), (wrap64 (x24_1 + 1)), (by first | rfl | (simp; done) | (simp [*]; done)), H', ⟨by have := HK1.out; have := HK2.out; omega⟩, ⟨by (with_reducible repeat (first | apply Kd.R_alloc | apply Kd.R_drewN | apply Kd.R_drew)); exact HO_5.out⟩, ⟨by (with_reducible repeat (first | apply Kd.R_alloc | apply Kd.R_drewN | apply Kd.R_drew)); exact HO_6.out⟩, ⟨by (with_reducible repeat (first | apply Kd.R_alloc | apply Kd.R_drewN | apply Kd.R_drew)); exact HO_7.out⟩, ⟨bb HB.out⟩⟩
          ·rw [if_neg c29] at H
           exact absurd H (by simp)
         ·rw [if_neg c28] at H
          exact absurd H (by simp)
     ·rw [if_neg c14] at H
      have c14b0 : decide (x24_1 < (t613.length : Int)) = false := decide_eq_false c14
      clear c14
      replace H := Option.bind_eq_some_iff.mp H
      obtain ⟨t622, A330, H⟩ := H
      replace H : (some t622) = some r := H
      have A33 := Aside0.mk A330
      clear A330
      obtain rfl := Option.some.inj H
      obtain ⟨Ao34, co34, eo34⟩ := Kd.R_slice HO_7.out
      subst eo34
      iterate 6 (first | go_quiet (first | (go_at_call 143; (with_reducible refine (gradineref02_Whole.calls k1 _ _ x7_1 t622 _ ?side1 ?side2 A33.out).mono ?_); (case side1 => exact cs (Kd.R_reads' HO_7.out).2.2); (case side2 => exact (Kd.R_reads' HO_7.out).2.1); rintro e w35 ⟨v623, rfl, ho0, hb⟩; have n0_ := Aside0.mk (Kd.R_elder' (st HO_5.out) (Kd.R_base ho0) hb); have n1_ := Aside0.mk (Kd.R_elder' (st HO_6.out) (Kd.R_base ho0) hb); have n2_ := Aside0.mk (Kd.R_elder' (st HO_7.out) (Kd.R_base ho0) hb); have n3_ := Aside0.mk (Kd.R_lower (Kd.R_new' (Kd.R_new' (Kd.R_new' ho0 (Kd.R_lt (st HO_5.out))) (Kd.R_lt (st HO_6.out))) (Kd.R_lt (st HO_7.out))) (below_size (bb HB.out))); have n4_ := Aside0.mk (below_step (bb HB.out) hb); clear HO_5; clear HO_6; clear HO_7; clear HB; have HO_5 := n0_; have HO_6 := n1_; have HO_7 := n2_; have HO624 := n3_; have HB := n4_; clear n0_ n1_ n2_ n3_ n4_)) | go_wp2_with (first | (go_at_call 143; (with_reducible refine (gradineref02_Whole.calls k1 _ _ x7_1 t622 _ ?side1 ?side2 A33.out).mono ?_); (case side1 => exact cs (Kd.R_reads' HO_7.out).2.2); (case side2 => exact (Kd.R_reads' HO_7.out).2.1); rintro e w35 ⟨v623, rfl, ho0, hb⟩; have n0_ := Aside0.mk (Kd.R_elder' (st HO_5.out) (Kd.R_base ho0) hb); have n1_ := Aside0.mk (Kd.R_elder' (st HO_6.out) (Kd.R_base ho0) hb); have n2_ := Aside0.mk (Kd.R_elder' (st HO_7.out) (Kd.R_base ho0) hb); have n3_ := Aside0.mk (Kd.R_lower (Kd.R_new' (Kd.R_new' (Kd.R_new' ho0 (Kd.R_lt (st HO_5.out))) (Kd.R_lt (st HO_6.out))) (Kd.R_lt (st HO_7.out))) (below_size (bb HB.out))); have n4_ := Aside0.mk (below_step (bb HB.out) hb); clear HO_5; clear HO_6; clear HO_7; clear HB; have HO_5 := n0_; have HO_6 := n1_; have HO_7 := n2_; have HO624 := n3_; have HB := n4_; clear n0_ n1_ n2_ n3_ n4_)) | skip)
      go_ret
      exact ⟨_, by first | rfl | (simp [errW_none, errW_some] <;> rfl) | (simp only [← hji5]; first | rfl | (simp [errW_none, errW_some] <;> rfl)) | (simp [*, errW_none, errW_some] <;> rfl), by (with_reducible repeat (first | apply Kd.R_alloc | apply Kd.R_drewN | apply Kd.R_drew)); exact Kd.R_mono HO624.out (fun _ hk => trivial), by repeat (first | (with_reducible first | exact HB.out | apply below_alloc | apply pw_below_drewN | apply below_drew1) | exact HB.out)⟩
  ·rw [if_neg c7] at H
   exact absurd H (by simp)
 ·rw [if_neg c6] at H
  exact absurd H (by simp)

def gradineref03_Word.f (k : Nat) (l0 : List Int) (a1 : Int) (a2 : Int) : Option (List Int) := (gradineref03_Mul.f k l0 (([a1] : List Int))).bind fun t767 => ((gradineref02_Add.f k t767 (([a2] : List Int))).bind fun t773 => (some t773))
set_option maxHeartbeats 8000000 in
set_option maxRecDepth 100000 in
theorem gradineref03_Word.calls (k : Nat) (A0 : Option Addr) (c0 : Nat) (l0 : List Int) (a1 : Int) (a2 : Int) (r : List Int) (w : World) (hr0 : Kd.C (Kd.int .u64) w A0 l0.length l0) (hc0 : l0.length ≤ c0) (h : gradineref03_Word.f k l0 a1 a2 = some r) :
  Calls Try.prog 79 #[.slice A0 l0.length c0, .int .u64 a1, .int .u64 a2] w fun e w' => ∃ v0_ : Value, e = .returned (v0_) ∧ Kd.R (Kd.int .u64) 22 w' w.heap.size (fun _ => True) v0_ r ∧ Below w.heap.size w w' := by
 have HR0 := Aside0.mk hr0
 have HC0 := Aside0.mk hc0
 clear hr0 hc0
 have HB := Aside0.mk (Below.refl w.heap.size w)
 have H : ((gradineref03_Mul.f k l0 (([a1] : List Int))).bind fun t767 => ((gradineref02_Add.f k t767 (([a2] : List Int))).bind fun t773 => (some t773))) = some r := h
 clear h
 obtain ⟨y764, hy764⟩ : ∃ y_ : List Int, y_ = (([a1] : List Int)) := ⟨_, rfl⟩
 replace H : ((gradineref03_Mul.f k l0 y764).bind fun t767 => ((gradineref02_Add.f k t767 (([a2] : List Int))).bind fun t773 => (some t773))) = some r := by first | (rw [hy764]; with_reducible exact H) | (have H2_ := (Option.bind_some _ _).symm.trans H; rw [hy764]; with_reducible exact H2_) | (have H2_ := (Option.bind_some _ _).symm.trans H; with_reducible exact H2_) | with_reducible exact H | (rw [hy764]; exact H) | exact H
 have Ny764 := Aside0.mk hy764
 clear hy764
 replace H := Option.bind_eq_some_iff.mp H
 obtain ⟨t767, A40, H⟩ := H
 replace H : ((gradineref02_Add.f k t767 (([a2] : List Int))).bind fun t773 => (some t773)) = some r := H
 have A4 := Aside0.mk A40
 clear A40
 obtain ⟨y770, hy770⟩ : ∃ y_ : List Int, y_ = (([a2] : List Int)) := ⟨_, rfl⟩
 replace H : ((gradineref02_Add.f k t767 y770).bind fun t773 => (some t773)) = some r := by first | (rw [hy770]; with_reducible exact H) | (have H2_ := (Option.bind_some _ _).symm.trans H; rw [hy770]; with_reducible exact H2_) | (have H2_ := (Option.bind_some _ _).symm.trans H; with_reducible exact H2_) | with_reducible exact H | (rw [hy770]; exact H) | exact H
 have Ny770 := Aside0.mk hy770
 clear hy770
 replace H := Option.bind_eq_some_iff.mp H
 obtain ⟨t773, A50, H⟩ := H
 replace H : (some t773) = some r := H
 have A5 := Aside0.mk A50
 clear A50
 obtain rfl := Option.some.inj H
 go_enter Try.func79, Try.ntmps79
 go_wp2_with (first | ((with_reducible refine gate_dst (N := 9) rfl ?_); refine Kd.R_lit (Kd.int .u64) _ 22 ?hg (N := 9) ?hd (xs := ([a1] : List Int)) (inner := [.int .u64 a1]) (ok := fun _ => True) (okp := fun _ => True) ?hr ?hp (fun _ hk => hk) trivial (Below.refl _ _) (Nat.le_refl _) (by simp) ?_; (case hd => rfl); (case hg => rfl); (case hr => first | (go_simp; done) | (go_simp; rfl)); (case hp => exact (Reps.one (show Kd.M (Kd.int .u64) _ _ _ a1 [.int .u64 a1] from rfl) (Reps.none _ _))); intro v765 w6 ho7 hb hg_ hnew_; clear hg_ hnew_; (first | rw [← Ny764.out] at ho7 | (simp only [Int.reduceToNat] at ho7; rw [← Ny764.out] at ho7)); have n0_ := Aside0.mk (Kd.R_lower ho7 (below_size (by repeat (first | (with_reducible first | exact HB.out | apply below_alloc | apply pw_below_drewN | apply below_drew1) | exact HB.out)))); have n1_ := Aside0.mk (below_step (by repeat (first | (with_reducible first | exact HB.out | apply below_alloc | apply pw_below_drewN | apply below_drew1) | exact HB.out)) hb); clear HB; have HO766 := n0_; have HB := n1_; clear n0_ n1_; clear hb ho7; obtain ⟨Ao8, co8, eo8⟩ := Kd.R_slice HO766.out; subst eo8) | ((with_reducible refine gate_callee (f := 77) rfl ?_); refine goesL_ (some 10) rfl rfl Try.func77 (by kernel_rfl) rfl #[.slice A0 l0.length c0, .slice Ao8 y764.length co8] rfl (by (try simp only [List.map_toArray, List.map_cons, List.map_nil]); first | done | rfl | (simp only [List.length_drop, List.length_take]; rfl) | (simp only [*]; done)) ?_; (with_reducible refine (gradineref03_Mul.calls k _ _ l0 _ _ y764 t767 _ ?side1 ?side2 ?side3 ?side4 A4.out).mono ?_); (case side1 => repeat (first | exact (Kd.C_below HR0.out HB.out) | (with_reducible refine Kd.C_alloc ?_ _) | (with_reducible refine Kd.C_drewN ?_ _) | (with_reducible refine Kd.C_drew ?_))); (case side2 => exact HC0.out); (case side3 => repeat (first | exact (Kd.R_reads' HO766.out).2.2 | (with_reducible refine Kd.C_alloc ?_ _) | (with_reducible refine Kd.C_drewN ?_ _) | (with_reducible refine Kd.C_drew ?_))); (case side4 => exact (Kd.R_reads' HO766.out).2.1); rintro e w9 ⟨v768, rfl, ho0, hb⟩; refine ⟨_, rfl, ?_⟩; have n0_ := Aside0.mk (Kd.R_elder' (by (with_reducible repeat (first | apply Kd.R_alloc | apply Kd.R_drewN | apply Kd.R_drew)); exact HO766.out) (Kd.R_base ho0) hb); have n1_ := Aside0.mk (Kd.R_lower (Kd.R_new' ho0 (Kd.R_lt (by (with_reducible repeat (first | apply Kd.R_alloc | apply Kd.R_drewN | apply Kd.R_drew)); exact HO766.out))) (below_size (by repeat (first | (with_reducible first | exact HB.out | apply below_alloc | apply pw_below_drewN | apply below_drew1) | exact HB.out)))); have n2_ := Aside0.mk (below_step (by repeat (first | (with_reducible first | exact HB.out | apply below_alloc | apply pw_below_drewN | apply below_drew1) | exact HB.out)) hb); clear HO766; clear HB; have HO766 := n0_; have HO769 := n1_; have HB := n2_; clear n0_ n1_ n2_; (try clear hb); (try clear hb2); (try clear hk); (try clear hi); (try clear ho0)) | ((with_reducible refine gate_dst (N := 12) rfl ?_); refine Kd.R_lit (Kd.int .u64) _ 22 ?hg (N := 12) ?hd (xs := ([a2] : List Int)) (inner := [.int .u64 a2]) (ok := fun _ => True) (okp := fun _ => True) ?hr ?hp (fun _ hk => hk) trivial (Below.refl _ _) (Nat.le_refl _) (by simp) ?_; (case hd => rfl); (case hg => rfl); (case hr => first | (go_simp; done) | (go_simp; rfl)); (case hp => exact (Reps.one (show Kd.M (Kd.int .u64) _ _ _ a2 [.int .u64 a2] from rfl) (Reps.none _ _))); intro v771 w10 ho11 hb hg_ hnew_; clear hg_ hnew_; (first | rw [← Ny770.out] at ho11 | (simp only [Int.reduceToNat] at ho11; rw [← Ny770.out] at ho11)); have n0_ := Aside0.mk (Kd.R_elder' (by (with_reducible repeat (first | apply Kd.R_alloc | apply Kd.R_drewN | apply Kd.R_drew)); exact HO766.out) (Kd.R_base ho11) hb); have n1_ := Aside0.mk (Kd.R_elder' (by (with_reducible repeat (first | apply Kd.R_alloc | apply Kd.R_drewN | apply Kd.R_drew)); exact HO769.out) (Kd.R_base ho11) hb); have n2_ := Aside0.mk (Kd.R_lower (Kd.R_new' (Kd.R_new' ho11 (Kd.R_lt (by (with_reducible repeat (first | apply Kd.R_alloc | apply Kd.R_drewN | apply Kd.R_drew)); exact HO766.out))) (Kd.R_lt (by (with_reducible repeat (first | apply Kd.R_alloc | apply Kd.R_drewN | apply Kd.R_drew)); exact HO769.out))) (below_size (by repeat (first | (with_reducible first | exact HB.out | apply below_alloc | apply pw_below_drewN | apply below_drew1) | exact HB.out)))); have n3_ := Aside0.mk (below_step (by repeat (first | (with_reducible first | exact HB.out | apply below_alloc | apply pw_below_drewN | apply below_drew1) | exact HB.out)) hb); clear HO766; clear HO769; clear HB; have HO766 := n0_; have HO769 := n1_; have HO772 := n2_; have HB := n3_; clear n0_ n1_ n2_ n3_; clear hb ho11; obtain ⟨Ao12, co12, eo12⟩ := Kd.R_slice HO769.out; subst eo12; obtain ⟨Ao13, co13, eo13⟩ := Kd.R_slice HO772.out; subst eo13) | ((with_reducible refine gate_callee (f := 65) rfl ?_); refine goesL_ (some 13) rfl rfl Try.func65 (by kernel_rfl) rfl #[.slice Ao12 t767.length co12, .slice Ao13 y770.length co13] rfl (by (try simp only [List.map_toArray, List.map_cons, List.map_nil]); first | done | rfl | (simp only [List.length_drop, List.length_take]; rfl) | (simp only [*]; done)) ?_; (with_reducible refine (gradineref02_Add.calls k _ _ t767 _ _ y770 t773 _ ?side1 ?side2 ?side3 ?side4 A5.out).mono ?_); (case side1 => repeat (first | exact (Kd.R_reads' HO769.out).2.2 | (with_reducible refine Kd.C_alloc ?_ _) | (with_reducible refine Kd.C_drewN ?_ _) | (with_reducible refine Kd.C_drew ?_))); (case side2 => exact (Kd.R_reads' HO769.out).2.1); (case side3 => repeat (first | exact (Kd.R_reads' HO772.out).2.2 | (with_reducible refine Kd.C_alloc ?_ _) | (with_reducible refine Kd.C_drewN ?_ _) | (with_reducible refine Kd.C_drew ?_))); (case side4 => exact (Kd.R_reads' HO772.out).2.1); rintro e w14 ⟨v774, rfl, ho0, hb⟩; refine ⟨_, rfl, ?_⟩; have n0_ := Aside0.mk (Kd.R_elder' (by (with_reducible repeat (first | apply Kd.R_alloc | apply Kd.R_drewN | apply Kd.R_drew)); exact HO766.out) (Kd.R_base ho0) hb); have n1_ := Aside0.mk (Kd.R_elder' (by (with_reducible repeat (first | apply Kd.R_alloc | apply Kd.R_drewN | apply Kd.R_drew)); exact HO769.out) (Kd.R_base ho0) hb); have n2_ := Aside0.mk (Kd.R_elder' (by (with_reducible repeat (first | apply Kd.R_alloc | apply Kd.R_drewN | apply Kd.R_drew)); exact HO772.out) (Kd.R_base ho0) hb); have n3_ := Aside0.mk (Kd.R_lower (Kd.R_new' (Kd.R_new' (Kd.R_new' ho0 (Kd.R_lt (by (with_reducible repeat (first | apply Kd.R_alloc | apply Kd.R_drewN | apply Kd.R_drew)); exact HO766.out))) (Kd.R_lt (by (with_reducible repeat (first | apply Kd.R_alloc | apply Kd.R_drewN | apply Kd.R_drew)); exact HO769.out))) (Kd.R_lt (by (with_reducible repeat (first | apply Kd.R_alloc | apply Kd.R_drewN | apply Kd.R_drew)); exact HO772.out))) (below_size (by repeat (first | (with_reducible first | exact HB.out | apply below_alloc | apply pw_below_drewN | apply below_drew1) | exact HB.out)))); have n4_ := Aside0.mk (below_step (by repeat (first | (with_reducible first | exact HB.out | apply below_alloc | apply pw_below_drewN | apply below_drew1) | exact HB.out)) hb); clear HO766; clear HO769; clear HO772; clear HB; have HO766 := n0_; have HO769 := n1_; have HO772 := n2_; have HO775 := n3_; have HB := n4_; clear n0_ n1_ n2_ n3_ n4_; (try clear hb); (try clear hb2); (try clear hk); (try clear hi); (try clear ho0)))
 go_ret
 exact ⟨_, by first | rfl | (simp [errW_none, errW_some] <;> rfl) | (simp [*, errW_none, errW_some] <;> rfl), by (with_reducible repeat (first | apply Kd.R_alloc | apply Kd.R_drewN | apply Kd.R_drew)); exact Kd.R_mono HO775.out (fun _ hk => trivial), by repeat (first | (with_reducible first | exact HB.out | apply below_alloc | apply pw_below_drewN | apply below_drew1) | exact HB.out)⟩

end Go.Proofs.Ytldcgclbgbhffaa.P
