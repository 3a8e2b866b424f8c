/- Functions of one package as Lean functions, and walks: written by a program for this claim. -/
import Derived.Test.YtldcgclbgbhffaaFbase
import Derived.Test.YtldcgclbgbhffaaBgradineref02
namespace Go.Proofs.Ytldcgclbgbhffaa.P
open Go.RowKit Go.Proofs.YtldcgclbgbhffaaW.PrintWords Go.Proofs.YtldcgclbgbhffaaW.PrintLast Go.Proofs.YtldcgclbgbhffaaW.PrintMore
attribute [local go_sem] max2_int min2_int max_two min_two max_three min_three max_four min_four   -- for this text's walks alone
set_option linter.unusedVariables false
set_option linter.unusedSimpArgs false

def gradineref04_set.l0 : Nat → List Int → Int → List Int → Int → Int → Option (List Int)
 | 0, _, _, _, _, _ => none
 | k + 1, x0, x1, x5, x13, x14 => if x14 < x13 then (if x14 < (x0.length : Int) then (if 0 ≤ x14 then (if x14 = (wrap64 (Int.tdiv x1 64)) then (if 0 ≤ (IntKind.u64.wrap (Int.tmod x1 64)) then (if x5.length < 17592186044416 then (gradineref04_set.l0 k x0 x1 (x5 ++ [Go.bits .or .u64 (rd x0 x14) (shl .u64 1 (IntKind.u64.wrap (Int.tmod x1 64)))]) x13 (wrap64 (x14 + 1))) else (none)) else (none)) else (if x5.length < 17592186044416 then (gradineref04_set.l0 k x0 x1 (x5 ++ [rd x0 x14]) x13 (wrap64 (x14 + 1))) else (none))) else (none)) else (if x14 = (wrap64 (Int.tdiv x1 64)) then (if 0 ≤ (IntKind.u64.wrap (Int.tmod x1 64)) then (if x5.length < 17592186044416 then (gradineref04_set.l0 k x0 x1 (x5 ++ [Go.bits .or .u64 0 (shl .u64 1 (IntKind.u64.wrap (Int.tmod x1 64)))]) x13 (wrap64 (x14 + 1))) else (none)) else (none)) else (if x5.length < 17592186044416 then (gradineref04_set.l0 k x0 x1 (x5 ++ [0]) x13 (wrap64 (x14 + 1))) else (none)))) else (some x5)
def gradineref04_set.f (k : Nat) (l0 : List Int) (a1 : Int) : Option (List Int) := gradineref04_set.l0 k l0 a1 ([] : List Int) (mx (l0.length : Int) (wrap64 ((wrap64 (Int.tdiv a1 64)) + 1))) 0
set_option maxHeartbeats 8000000 in
set_option maxRecDepth 100000 in
theorem gradineref04_set.calls (k : Nat) (A0 : Option Addr) (c0 : Nat) (l0 : List Int) (a1 : Int) (r : List Int) (w : World) (hr0 : Kd.C (Kd.int .u64) w A0 l0.length l0) (hc0 : l0.length ≤ c0) (h : gradineref04_set.f k l0 a1 = some r) :
  Calls Try.prog 151 #[.slice A0 l0.length c0, .int .i64 a1] w fun e w' => ∃ v0_ : Value, e = .returned (v0_) ∧ Kd.R (Kd.int .u64) 22 w' w.heap.size (fun _ => True) v0_ r ∧ Below w.heap.size w w' := by
 have HR0 := Aside0.mk hr0
 have HC0 := Aside0.mk hc0
 clear hr0 hc0
 have HB := Aside0.mk (Below.refl w.heap.size w)
 have H : (gradineref04_set.l0 k l0 a1 ([] : List Int) (mx (l0.length : Int) (wrap64 ((wrap64 (Int.tdiv a1 64)) + 1))) 0) = some r := h
 clear h
 obtain ⟨ji3, hji3⟩ : ∃ j_ : Int, (mx (l0.length : Int) (wrap64 ((wrap64 (Int.tdiv a1 64)) + 1))) = j_ := ⟨_, rfl⟩
 replace H : (gradineref04_set.l0 k l0 a1 ([] : List Int) ji3 0) = some r := by first | (rw [hji3] at H; exact H) | (simp only [hji3] at H ⊢; exact H)
 (try (have hji3l : 0 ≤ ji3 := by (rw [← hji3]; unfold mx; (repeat' split) <;> omega)))
 (try (have hji3m : 0 ≤ ji3 := by omega))
 (try (have hji3t : ∀ m_ : Int, Int.tdiv ji3 m_ = ji3 / m_ := fun m_ => Int.tdiv_eq_ediv_of_nonneg (by omega)))
 have hji3_ : (if (l0.length : Int) < (wrap64 ((wrap64 (Int.tdiv a1 64)) + 1)) then (wrap64 ((wrap64 (Int.tdiv a1 64)) + 1)) else (l0.length : Int)) = ji3 := hji3
 have H' := Aside0.mk H
 clear H
 go_enter Try.func151, Try.ntmps151
 go_wp2
 go_loopg [5, 14] k (fun kq v5 v14 w' => ∃ (x5_1 : List Int) (x14_1 : Int), v14 = .int .i64 x14_1 ∧ Aside0 (gradineref04_set.l0 kq l0 a1 x5_1 ji3 x14_1 = some r) ∧ Aside0 (kq ≤ k) ∧ Aside0 (Kd.R (Kd.int .u64) 22 w' w.heap.size (fun _ => True) v5 x5_1) ∧ Aside0 (Below w.heap.size w w'))
 case atStart => exact ⟨(([] : List Int)), (0), (by first | rfl | (simp; done) | (simp [*]; done)), H', ⟨Nat.le_refl _⟩, ⟨by first | exact Kd.R_nil _ _ _ _ _ | exact Kd.N_nil _ _ _ _ _ | exact Kd.V_nil _ _ _ _ _ | exact Kd.Q_nil _ _ _ _ _ | exact Kd.S_nil _ _ _ _ _⟩, ⟨bb HB.out⟩⟩
 case round =>
  clear H'
  try clear c1
  try clear p2
  obtain ⟨x5_1, x14_1, rfl, HA, HK1, HO_5, HB⟩ := hrel
  cases gk with
  | zero => exact absurd HA.out (by simp [gradineref04_set.l0])
  | succ k1 =>
   have H := HA.out
   clear HA
   simp only [gradineref04_set.l0] at H
   by_cases c4 : x14_1 < ji3
   ·rw [if_pos c4] at H
    have c4b0 : decide (x14_1 < ji3) = true := decide_eq_true c4
    clear c4
    by_cases c5 : x14_1 < (l0.length : Int)
    ·rw [if_pos c5] at H
     have c5b0 : decide (x14_1 < (l0.length : Int)) = true := decide_eq_true c5
     clear c5
     by_cases c6 : 0 ≤ x14_1
     ·rw [if_pos c6] at H
      have c6b0 : decide (0 ≤ x14_1) = true := decide_eq_true c6
      clear c6
      by_cases c7 : x14_1 = (wrap64 (Int.tdiv a1 64))
      ·rw [if_pos c7] at H
       have c7b0 : (x14_1 == (wrap64 (Int.tdiv a1 64))) = true := beq_iff_eq.mpr c7
       have c7b1 : (x14_1 != (wrap64 (Int.tdiv a1 64))) = false := bne_eq_false_iff_eq.mpr c7
       clear c7
       obtain ⟨ji8, hji8⟩ : ∃ j_ : Int, (IntKind.u64.wrap (Int.tmod a1 64)) = j_ := ⟨_, rfl⟩
       replace H : (if 0 ≤ (ji8) then (if x5_1.length < 17592186044416 then (gradineref04_set.l0 k1 l0 a1 (x5_1 ++ [Go.bits .or .u64 (rd l0 x14_1) (shl .u64 1 (ji8))]) ji3 (wrap64 (x14_1 + 1))) else (none)) else (none)) = some r := by first | (rw [hji8] at H; exact H) | (simp only [hji8] at H ⊢; exact H)
       by_cases c9 : 0 ≤ (ji8)
       ·rw [if_pos c9] at H
        have c9b0 := eq_true c9
        have c9b1 : decide (0 ≤ (ji8)) = true := decide_eq_true c9
        clear c9
        obtain ⟨ji10, hji10⟩ : ∃ j_ : Int, (shl .u64 1 (ji8)) = j_ := ⟨_, rfl⟩
        replace H : (if x5_1.length < 17592186044416 then (gradineref04_set.l0 k1 l0 a1 (x5_1 ++ [Go.bits .or .u64 (rd l0 x14_1) (ji10)]) ji3 (wrap64 (x14_1 + 1))) else (none)) = some r := by first | (rw [hji10] at H; exact H) | (simp only [hji10] at H ⊢; exact H)
        have hji10_ : (IntKind.u64.wrap (1 * 2 ^ min (ji8).toNat 64)) = ji10 := hji10
        have hji10z : (ji8) ≤ 64 → (IntKind.u64.wrap (1 * 2 ^ (ji8).toNat)) = ji10 := shl_small hji10
        have hji10u : (IntKind.u64.wrap (2 ^ min (ji8).toNat 64)) = ji10 := by have h_ := hji10_; rw [Int.one_mul] at h_; exact h_
        have hji10v : (ji8) ≤ 64 → (IntKind.u64.wrap (2 ^ (ji8).toNat)) = ji10 := fun hle_ => by have h_ := hji10z hle_; rw [Int.one_mul] at h_; exact h_
        by_cases c11 : x5_1.length < 17592186044416
        ·rw [if_pos c11] at H
         have LMc11 := Aside0.mk c11
         clear c11
         obtain ⟨y979, hy979⟩ : ∃ y_ : List Int, y_ = (x5_1 ++ [Go.bits .or .u64 (rd l0 x14_1) (ji10)]) := ⟨_, rfl⟩
         replace H : (gradineref04_set.l0 k1 l0 a1 y979 ji3 (wrap64 (x14_1 + 1))) = some r := by first | (rw [hy979]; with_reducible exact H) | (have H2_ := (Option.bind_some _ _).symm.trans H; rw [hy979]; with_reducible exact H2_) | (have H2_ := (Option.bind_some _ _).symm.trans H; with_reducible exact H2_) | with_reducible exact H | (rw [hy979]; exact H) | exact H
         have Ny979 := Aside0.mk hy979
         clear hy979
         have H' := Aside0.mk H
         clear H
         have p978 : 0 ≤ (x14_1 : Int) := of_decide_eq_true (by first | (with_reducible assumption) | assumption)
         have q978 : x14_1 < (l0.length : Int) := of_decide_eq_true (by first | (with_reducible assumption) | assumption)
         obtain ⟨ad978, e978, hx978_0⟩ := Kd.at_int HR0.out x14_1 p978 q978
         cases e978
         replace hx978_0 := (HB.out.cell (World.block_lt_of_cell? w _ hx978_0)).trans hx978_0
         replace p978 := eq_true p978
         replace q978 := eq_true q978
         go_wp2_with (first | ((with_reducible refine gate_builtin (b := .append) (xs := #[.tmp 35, .tmp 37]) rfl ?_); at_builtin; refine Kd.R_append (Kd.int .u64) (w0 := w) w.heap.size rfl (.tmp 35) (.tmp 37) 31 22 (.int .u64 0) 8 rfl Try.underlying31 info22 rfl (by decide) (by omega) u5 x5_1 (Go.bits .or .u64 (rd l0 x14_1) (ji10)) [.int .u64 (Go.bits .or .u64 (rd l0 x14_1) (ji10))] (fun _ => True) (fun _ => False) rfl rfl ?aP (fun _ hk => hk.elim) ?aF ?aO ?aB ?aS ?aL ?_; (case aP => exact rfl); (case aB => exact (bb HB.out)); (case aF => exact (fun _ _ => trivial)); (case aO => exact (st HO_5.out)); (case aS => exact (below_size (bb HB.out))); (case aL => have := LMc11.out; omega); intro v980 w12 ho hb hg hat; rw [← Ny979.out] at ho; have n0_ := Aside0.mk (hb); have n1_ := Aside0.mk (ho); clear HB; clear HO_5; have HB := n0_; have HO981 := n1_; clear n0_ n1_; clear ho hb hg hat))
         go_roundg k1
         case measure => have := HK1.out; omega
         case rel => exact ⟨(y979), (wrap64 (x14_1 + 1)), (by first | rfl | (simp; done) | (simp [*]; done)), H', ⟨by have := HK1.out; omega⟩, ⟨by (with_reducible repeat (first | apply Kd.R_alloc | apply Kd.R_drewN | apply Kd.R_drew)); exact HO981.out⟩, ⟨bb HB.out⟩⟩
        ·rw [if_neg c11] at H
         exact absurd H (by simp)
       ·rw [if_neg c9] at H
        exact absurd H (by simp)
      ·rw [if_neg c7] at H
       have c7b0 : (x14_1 == (wrap64 (Int.tdiv a1 64))) = false := beq_eq_false_iff_ne.mpr c7
       have c7b1 : (x14_1 != (wrap64 (Int.tdiv a1 64))) = true := bne_iff_ne.mpr c7
       by_cases c13 : x5_1.length < 17592186044416
       ·rw [if_pos c13] at H
        have LMc13 := Aside0.mk c13
        clear c13
        obtain ⟨y982, hy982⟩ : ∃ y_ : List Int, y_ = (x5_1 ++ [rd l0 x14_1]) := ⟨_, rfl⟩
        replace H : (gradineref04_set.l0 k1 l0 a1 y982 ji3 (wrap64 (x14_1 + 1))) = some r := by first | (rw [hy982]; with_reducible exact H) | (have H2_ := (Option.bind_some _ _).symm.trans H; rw [hy982]; with_reducible exact H2_) | (have H2_ := (Option.bind_some _ _).symm.trans H; with_reducible exact H2_) | with_reducible exact H | (rw [hy982]; exact H) | exact H
        have Ny982 := Aside0.mk hy982
        clear hy982
        have H' := Aside0.mk H
        clear H
        have p978 : 0 ≤ (x14_1 : Int) := of_decide_eq_true (by first | (with_reducible assumption) | assumption)
        have q978 : x14_1 < (l0.length : Int) := of_decide_eq_true (by first | (with_reducible assumption) | assumption)
        obtain ⟨ad978, e978, hx978_0⟩ := Kd.at_int HR0.out x14_1 p978 q978
        cases e978
        replace hx978_0 := (HB.out.cell (World.block_lt_of_cell? w _ hx978_0)).trans hx978_0
        replace p978 := eq_true p978
        replace q978 := eq_true q978
        go_wp2_with (first | ((with_reducible refine gate_builtin (b := .append) (xs := #[.tmp 35, .tmp 37]) rfl ?_); at_builtin; refine Kd.R_append (Kd.int .u64) (w0 := w) w.heap.size rfl (.tmp 35) (.tmp 37) 31 22 (.int .u64 0) 8 rfl Try.underlying31 info22 rfl (by decide) (by omega) u5 x5_1 (rd l0 x14_1) [.int .u64 (rd l0 x14_1)] (fun _ => True) (fun _ => False) rfl rfl ?aP (fun _ hk => hk.elim) ?aF ?aO ?aB ?aS ?aL ?_; (case aP => exact rfl); (case aB => exact (bb HB.out)); (case aF => exact (fun _ _ => trivial)); (case aO => exact (st HO_5.out)); (case aS => exact (below_size (bb HB.out))); (case aL => have := LMc13.out; omega); intro v983 w14 ho hb hg hat; rw [← Ny982.out] at ho; have n0_ := Aside0.mk (hb); have n1_ := Aside0.mk (ho); clear HB; clear HO_5; have HB := n0_; have HO984 := n1_; clear n0_ n1_; clear ho hb hg hat))
        go_roundg k1
        case measure => have := HK1.out; omega
        case rel => exact ⟨(y982), (wrap64 (x14_1 + 1)), (by first | rfl | (simp; done) | (simp [*]; done)), H', ⟨by have := HK1.out; omega⟩, ⟨by (with_reducible repeat (first | apply Kd.R_alloc | apply Kd.R_drewN | apply Kd.R_drew)); exact HO984.out⟩, ⟨bb HB.out⟩⟩
       ·rw [if_neg c13] at H
        exact absurd H (by simp)
     ·rw [if_neg c6] at H
      exact absurd H (by simp)
    ·rw [if_neg c5] at H
     have c5b0 : decide (x14_1 < (l0.length : Int)) = false := decide_eq_false c5
     clear c5
     by_cases c15 : x14_1 = (wrap64 (Int.tdiv a1 64))
     ·rw [if_pos c15] at H
      have c15b0 : (x14_1 == (wrap64 (Int.tdiv a1 64))) = true := beq_iff_eq.mpr c15
      have c15b1 : (x14_1 != (wrap64 (Int.tdiv a1 64))) = false := bne_eq_false_iff_eq.mpr c15
      clear c15
      obtain ⟨ji16, hji16⟩ : ∃ j_ : Int, (IntKind.u64.wrap (Int.tmod a1 64)) = j_ := ⟨_, rfl⟩
      replace H : (if 0 ≤ (ji16) then (if x5_1.length < 17592186044416 then (gradineref04_set.l0 k1 l0 a1 (x5_1 ++ [Go.bits .or .u64 0 (shl .u64 1 (ji16))]) ji3 (wrap64 (x14_1 + 1))) else (none)) else (none)) = some r := by first | (rw [hji16] at H; exact H) | (simp only [hji16] at H ⊢; exact H)
      by_cases c17 : 0 ≤ (ji16)
      ·rw [if_pos c17] at H
       have c17b0 := eq_true c17
       have c17b1 : decide (0 ≤ (ji16)) = true := decide_eq_true c17
       clear c17
       obtain ⟨ji18, hji18⟩ : ∃ j_ : Int, (shl .u64 1 (ji16)) = j_ := ⟨_, rfl⟩
       replace H : (if x5_1.length < 17592186044416 then (gradineref04_set.l0 k1 l0 a1 (x5_1 ++ [Go.bits .or .u64 0 (ji18)]) ji3 (wrap64 (x14_1 + 1))) else (none)) = some r := by first | (rw [hji18] at H; exact H) | (simp only [hji18] at H ⊢; exact H)
       have hji18_ : (IntKind.u64.wrap (1 * 2 ^ min (ji16).toNat 64)) = ji18 := hji18
       have hji18z : (ji16) ≤ 64 → (IntKind.u64.wrap (1 * 2 ^ (ji16).toNat)) = ji18 := shl_small hji18
       have hji18u : (IntKind.u64.wrap (2 ^ min (ji16).toNat 64)) = ji18 := by have h_ := hji18_; rw [Int.one_mul] at h_; exact h_
       have hji18v : (ji16) ≤ 64 → (IntKind.u64.wrap (2 ^ (ji16).toNat)) = ji18 := fun hle_ => by have h_ := hji18z hle_; rw [Int.one_mul] at h_; exact h_
       by_cases c19 : x5_1.length < 17592186044416
       ·rw [if_pos c19] at H
        have LMc19 := Aside0.mk c19
        clear c19
        obtain ⟨y985, hy985⟩ : ∃ y_ : List Int, y_ = (x5_1 ++ [Go.bits .or .u64 0 (ji18)]) := ⟨_, rfl⟩
        replace H : (gradineref04_set.l0 k1 l0 a1 y985 ji3 (wrap64 (x14_1 + 1))) = some r := by first | (rw [hy985]; with_reducible exact H) | (have H2_ := (Option.bind_some _ _).symm.trans H; rw [hy985]; with_reducible exact H2_) | (have H2_ := (Option.bind_some _ _).symm.trans H; with_reducible exact H2_) | with_reducible exact H | (rw [hy985]; exact H) | exact H
        have Ny985 := Aside0.mk hy985
        clear hy985
        have H' := Aside0.mk H
        clear H
        go_wp2_with (first | ((with_reducible refine gate_builtin (b := .append) (xs := #[.tmp 35, .tmp 37]) rfl ?_); at_builtin; refine Kd.R_append (Kd.int .u64) (w0 := w) w.heap.size rfl (.tmp 35) (.tmp 37) 31 22 (.int .u64 0) 8 rfl Try.underlying31 info22 rfl (by decide) (by omega) u5 x5_1 (Go.bits .or .u64 0 (ji18)) [.int .u64 (Go.bits .or .u64 0 (ji18))] (fun _ => True) (fun _ => False) rfl rfl ?aP (fun _ hk => hk.elim) ?aF ?aO ?aB ?aS ?aL ?_; (case aP => exact rfl); (case aB => exact (bb HB.out)); (case aF => exact (fun _ _ => trivial)); (case aO => exact (st HO_5.out)); (case aS => exact (below_size (bb HB.out))); (case aL => have := LMc19.out; omega); intro v986 w20 ho hb hg hat; rw [← Ny985.out] at ho; have n0_ := Aside0.mk (hb); have n1_ := Aside0.mk (ho); clear HB; clear HO_5; have HB := n0_; have HO987 := n1_; clear n0_ n1_; clear ho hb hg hat))
        go_roundg k1
        case measure => have := HK1.out; omega
        case rel => exact ⟨(y985), (wrap64 (x14_1 + 1)), (by first | rfl | (simp; done) | (simp [*]; done)), H', ⟨by have := HK1.out; omega⟩, ⟨by (with_reducible repeat (first | apply Kd.R_alloc | apply Kd.R_drewN | apply Kd.R_drew)); exact HO987.out⟩, ⟨bb HB.out⟩⟩
       ·rw [if_neg c19] at H
        exact absurd H (by simp)
      ·rw [if_neg c17] at H
       exact absurd H (by simp)
     ·rw [if_neg c15] at H
      have c15b0 : (x14_1 == (wrap64 (Int.tdiv a1 64))) = false := beq_eq_false_iff_ne.mpr c15
      have c15b1 : (x14_1 != (wrap64 (Int.tdiv a1 64))) = true := bne_iff_ne.mpr c15
      by_cases c21 : x5_1.length < 17592186044416
      ·rw [if_pos c21] at H
       have LMc21 := Aside0.mk c21
       clear c21
       obtain ⟨y988, hy988⟩ : ∃ y_ : List Int, y_ = (x5_1 ++ [0]) := ⟨_, rfl⟩
       replace H : (gradineref04_set.l0 k1 l0 a1 y988 ji3 (wrap64 (x14_1 + 1))) = some r := by first | (rw [hy988]; with_reducible exact H) | (have H2_ := (Option.bind_some _ _).symm.trans H; rw [hy988]; with_reducible exact H2_) | (have H2_ := (Option.bind_some _ _).symm.trans H; with_reducible exact H2_) | with_reducible exact H | (rw [hy988]; exact H) | exact H
       have Ny988 := Aside0.mk hy988
       clear hy988
       have H' := Aside0.mk H
       clear H
       go_wp2_with (first | ((with_reducible refine gate_builtin (b := .append) (xs := #[.tmp 35, .tmp 37]) rfl ?_); at_builtin; refine Kd.R_append (Kd.int .u64) (w0 := w) w.heap.size rfl (.tmp 35) (.tmp 37) 31 22 (.int .u64 0) 8 rfl Try.underlying31 info22 rfl (by decide) (by omega) u5 x5_1 0 [.int .u64 0] (fun _ => True) (fun _ => False) rfl rfl ?aP (fun _ hk => hk.elim) ?aF ?aO ?aB ?aS ?aL ?_; (case aP => exact rfl); (case aB => exact (bb HB.out)); (case aF => exact (fun _ _ => trivial)); (case aO => exact (st HO_5.out)); (case aS => exact (below_size (bb HB.out))); (case aL => have := LMc21.out; omega); intro v989 w22 ho hb hg hat; rw [← Ny988.out] at ho; have n0_ := Aside0.mk (hb); have n1_ := Aside0.mk (ho); clear HB; clear HO_5; have HB := n0_; have HO990 := n1_; clear n0_ n1_; clear ho hb hg hat))
       go_roundg k1
       case measure => have := HK1.out; omega
       case rel => exact ⟨(y988), (wrap64 (x14_1 + 1)), (by first | rfl | (simp; done) | (simp [*]; done)), H', ⟨by have := HK1.out; omega⟩, ⟨by (with_reducible repeat (first | apply Kd.R_alloc | apply Kd.R_drewN | apply Kd.R_drew)); exact HO990.out⟩, ⟨bb HB.out⟩⟩
      ·rw [if_neg c21] at H
       exact absurd H (by simp)
   ·rw [if_neg c4] at H
    have c4b0 : decide (x14_1 < ji3) = false := decide_eq_false c4
    clear c4
    obtain rfl := Option.some.inj H
    go_wp2
    go_ret
    exact ⟨_, by first | rfl | (simp [errW_none, errW_some] <;> rfl) | (simp only [← hji3]; first | rfl | (simp [errW_none, errW_some] <;> rfl)) | (simp [*, errW_none, errW_some] <;> rfl), by (with_reducible repeat (first | apply Kd.R_alloc | apply Kd.R_drewN | apply Kd.R_drew)); exact HO_5.out, by repeat (first | (with_reducible first | exact HB.out | apply below_alloc | apply pw_below_drewN | apply below_drew1) | exact HB.out)⟩

mutual
def gradineref04_Div.j0 : Nat → List Int → List Int → List Int → Bool → Option (List Int × List Int)
 | 0, _, _, _, _ => none
 | k + 1, x0, x1, x6, x18 => if x18 = true then (if 0 < (x0.length : Int) then (if 0 < (x1.length : Int) then (if (rd x1 0) = 0 then (none) else ((gradineref02_Trim.f k (([IntKind.u64.wrap (Int.tdiv (rd x0 0) (rd x1 0))] : List Int))).bind fun t998 => ((gradineref02_Trim.f k (([Int.tmod (rd x0 0) (rd x1 0)] : List Int))).bind fun t1006 => (some (t998, t1006))))) else (none)) else (none)) else ((gradineref02_Bits.f k x0).bind fun t1009 => ((gradineref02_Bits.f k x1).bind fun t1010 => ((gradineref02_Shr.f k x0 (mx 0 (wrap64 ((wrap64 (t1009 - t1010)) + 1)))).bind fun t1011 => (gradineref04_Div.l0 k x0 x1 x6 t1011 (wrap64 ((mx 0 (wrap64 ((wrap64 (t1009 - t1010)) + 1))) - 1))))))
def gradineref04_Div.l0 : Nat → List Int → List Int → List Int → List Int → Int → Option (List Int × List Int)
 | 0, _, _, _, _, _ => none
 | k + 1, x0, x1, x6, x7, x10 => if x10 ≥ 0 then ((gradineref02_Shl.f k x7 1).bind fun t1020 => ((gradineref02_Bit.f x0 x10).bind fun t1023 => (if t1023 = true then ((gradineref04_set.f k t1020 0).bind fun t1024 => (gradineref04_Div.j2 k x0 x1 x6 t1024 x10)) else (gradineref04_Div.j2 k x0 x1 x6 t1020 x10)))) else ((gradineref02_Trim.f k x6).bind fun t1014 => ((gradineref02_Trim.f k x7).bind fun t1017 => (some (t1014, t1017))))
def gradineref04_Div.j2 : Nat → List Int → List Int → List Int → List Int → Int → Option (List Int × List Int)
 | 0, _, _, _, _, _ => none
 | k + 1, x0, x1, x6, x7, x10 => (gradineref02_Cmp.f k x7 x1).bind fun t1027 => (if t1027 ≥ 0 then ((gradineref02_Sub.f k x7 x1).bind fun t1028 => ((gradineref04_set.f k x6 x10).bind fun t1031 => (gradineref04_Div.l0 k x0 x1 t1031 t1028 (wrap64 (x10 - 1))))) else (gradineref04_Div.l0 k x0 x1 x6 x7 (wrap64 (x10 - 1))))
end
def gradineref04_Div.f (k : Nat) (l0 : List Int) (l1 : List Int) : Option (List Int × List Int) := (gradineref02_Size.f k l0).bind fun t991 => (if t991 = 1 then ((gradineref02_Size.f k l1).bind fun t992 => (gradineref04_Div.j0 k l0 l1 ([] : List Int) (t992 == 1))) else (gradineref04_Div.j0 k l0 l1 ([] : List Int) false))
def gradineref04_Div.T3 : Bool × List (List Nat × List Nat) := (true, [([], []), ([0], [0]), ([1], [1]), ([], []), ([3], [3]), ([4], [4]), ([2, 5], [2, 5]), ([6], [6]), ([7], [7]), ([], []), ([9], [9]), ([10], [10]), ([], []), ([12], [12]), ([13], [13]), ([11, 14], [11, 14]), ([15], [15]), ([16, 8], [16]), ([8, 17, 0, 1, 2, 3, 4, 5, 6, 7, 8], [8]), ([17, 18, 0, 1, 2, 3, 4, 5, 6, 7, 8, 9, 10, 11, 12, 13, 14, 15, 16, 17, 18], [17])])
def gradineref04_Div.B3 : List Nat := [0, 1, 3, 0, 8, 24, 63, 127, 255, 0, 512, 1536, 0, 4096, 12288, 32256, 65024, 131071, 262143, 524287]
theorem gradineref04_Div.tab3 : rtab .any (opsOf Try.f84 3) = gradineref04_Div.T3 := by kernel_rfl
theorem gradineref04_Div.bits3 : waitsOk gradineref04_Div.T3.2 gradineref04_Div.B3 = true := by kernel_rfl
set_option maxHeartbeats 8000000 in
set_option maxRecDepth 100000 in
theorem gradineref04_Div.calls (k : Nat) (A0 : Option Addr) (c0 : Nat) (l0 : List Int) (A1 : Option Addr) (c1 : Nat) (l1 : List Int) (r1 : List Int) (r2 : List Int) (w : World) (hr0 : Kd.C (Kd.int .u64) w A0 l0.length l0) (hc0 : l0.length ≤ c0) (hr1 : Kd.C (Kd.int .u64) w A1 l1.length l1) (hc1 : l1.length ≤ c1) (h : gradineref04_Div.f k l0 l1 = some (r1, r2)) :
  Calls Try.prog 84 #[.slice A0 l0.length c0, .slice A1 l1.length c1] w fun e w' => ∃ v0_ v1_ : Value, e = .returned (.tuple #[v0_, v1_]) ∧ Kd.R (Kd.int .u64) 22 w' w.heap.size (fun k_ => some k_ ≠ (v1_ : Value).ownBlock) v0_ r1 ∧ Kd.R (Kd.int .u64) 22 w' w.heap.size (fun k_ => some k_ ≠ (v0_ : Value).ownBlock) v1_ r2 ∧ Below w.heap.size w w' := by
 have HR0 := Aside0.mk hr0
 have HC0 := Aside0.mk hc0
 clear hr0 hc0
 have HR1 := Aside0.mk hr1
 have HC1 := Aside0.mk hc1
 clear hr1 hc1
 have HB := Aside0.mk (Below.refl w.heap.size w)
 have H : ((gradineref02_Size.f k l0).bind fun t991 => (if t991 = 1 then ((gradineref02_Size.f k l1).bind fun t992 => (gradineref04_Div.j0 k l0 l1 ([] : List Int) (t992 == 1))) else (gradineref04_Div.j0 k l0 l1 ([] : List Int) false))) = some (r1, r2) := h
 clear h
 have HC3 := Aside0.mk H
 clear H
 go_enter Try.func84, Try.ntmps84
 go_upto_region 2 with (fail)
 go_cut [18] (fun v18 wc => ∃ (kq : Nat) (x18_2 : Bool), v18 = .bool x18_2 ∧ Aside0 (gradineref04_Div.j0 kq l0 l1 ([] : List Int) x18_2 = some (r1, r2)) ∧ Aside0 (kq ≤ k) ∧ Aside0 (Kd.R (Kd.int .u64) 22 wc w.heap.size (fun _ => True) (.slice none 0 0) ([] : List Int)) ∧ Aside0 (Below w.heap.size w wc))
 case first =>
  have H := HC3.out
  clear HC3
  replace H := Option.bind_eq_some_iff.mp H
  obtain ⟨t991, A40, H⟩ := H
  replace H : (if t991 = 1 then ((gradineref02_Size.f k l1).bind fun t992 => (gradineref04_Div.j0 k l0 l1 ([] : List Int) (t992 == 1))) else (gradineref04_Div.j0 k l0 l1 ([] : List Int) false)) = some (r1, r2) := H
  have A4 := Aside0.mk A40
  clear A40
  by_cases c5 : t991 = 1
  ·rw [if_pos c5] at H
   have c5b0 : (t991 == 1) = true := beq_iff_eq.mpr c5
   have c5b1 : (t991 != 1) = false := bne_eq_false_iff_eq.mpr c5
   clear c5
   (first | rw [c5b0] | (simp only [i64_w, i32_w]; rw [c5b0]) | rw [c5b1] | skip)
   replace H := Option.bind_eq_some_iff.mp H
   obtain ⟨t992, A60, H⟩ := H
   replace H : (gradineref04_Div.j0 k l0 l1 ([] : List Int) (t992 == 1)) = some (r1, r2) := H
   have A6 := Aside0.mk A60
   clear A60
   have H' := Aside0.mk H
   clear H
   go_wp2_with (first | ((with_reducible refine gate_callee (f := 83) rfl ?_); refine goesL_ (some 12) rfl rfl Try.func83 (by kernel_rfl) rfl #[.slice A0 l0.length c0] rfl (by (try simp only [List.map_toArray, List.map_cons, List.map_nil]); first | done | rfl | (simp only [List.length_drop, List.length_take]; rfl) | (go_simp; done) | (go_simp; rfl) | (simp only [*]; done)) ?_; (with_reducible refine (gradineref02_Size.calls k _ _ l0 t991 _ ?side1 ?side2 A4.out).mono ?_); (case side1 => exact cs (Kd.C_below HR0.out HB.out)); (case side2 => exact HC0.out); rintro e w' ⟨rfl, ⟨nd, rfl⟩⟩; refine ⟨_, rfl, ?_⟩) | (go_at_call 83; (with_reducible refine (gradineref02_Size.calls k _ _ l1 t992 _ ?side1 ?side2 A6.out).mono ?_); (case side1 => repeat (first | exact (Kd.C_below HR1.out (bb HB.out)) | (with_reducible refine Kd.C_alloc ?_ _) | (with_reducible refine Kd.C_drewN ?_ _) | (with_reducible refine Kd.C_drew ?_))); (case side2 => exact HC1.out); rintro e w' ⟨rfl, ⟨nd, rfl⟩⟩))
   go_meet
   case rel => exact ⟨_, ((t992 == 1)), (by first | rfl | (simp; done) | (simp [*]; done)), H', ⟨by first | omega | exact Nat.le_refl _⟩, ⟨by first | exact Kd.R_nil _ _ _ _ _ | exact Kd.N_nil _ _ _ _ _ | exact Kd.V_nil _ _ _ _ _ | exact Kd.Q_nil _ _ _ _ _ | exact Kd.S_nil _ _ _ _ _⟩, ⟨bb HB.out⟩⟩
  ·rw [if_neg c5] at H
   have c5b0 : (t991 == 1) = false := beq_eq_false_iff_ne.mpr c5
   have c5b1 : (t991 != 1) = true := bne_iff_ne.mpr c5
   (first | rw [c5b0] | (simp only [i64_w, i32_w]; rw [c5b0]) | rw [c5b1] | skip)
   have H' := Aside0.mk H
   clear H
   go_wp2_with (first | ((with_reducible refine gate_callee (f := 83) rfl ?_); refine goesL_ (some 12) rfl rfl Try.func83 (by kernel_rfl) rfl #[.slice A0 l0.length c0] rfl (by (try simp only [List.map_toArray, List.map_cons, List.map_nil]); first | done | rfl | (simp only [List.length_drop, List.length_take]; rfl) | (go_simp; done) | (go_simp; rfl) | (simp only [*]; done)) ?_; (with_reducible refine (gradineref02_Size.calls k _ _ l0 t991 _ ?side1 ?side2 A4.out).mono ?_); (case side1 => exact cs (Kd.C_below HR0.out HB.out)); (case side2 => exact HC0.out); rintro e w' ⟨rfl, ⟨nd, rfl⟩⟩; refine ⟨_, rfl, ?_⟩))
   go_meet
   case rel => exact ⟨_, (false), (by first | rfl | (simp; done) | (simp [*]; done)), H', ⟨by first | omega | exact Nat.le_refl _⟩, ⟨by first | exact Kd.R_nil _ _ _ _ _ | exact Kd.N_nil _ _ _ _ _ | exact Kd.V_nil _ _ _ _ _ | exact Kd.Q_nil _ _ _ _ _ | exact Kd.S_nil _ _ _ _ _⟩, ⟨bb HB.out⟩⟩
 case rest =>
  clear HC3
  try clear c1
  try clear p2
  try clear c5
  try clear c5b0
  try clear c5b1
  obtain ⟨kq, x18_2, rfl, HA, HJ2, HO_6, HB⟩ := hcut
  cases kq with
  | zero => exact absurd HA.out (by simp [gradineref04_Div.j0])
  | succ kj2 =>
   have H := HA.out
   clear HA
   simp only [gradineref04_Div.j0] at H
   by_cases c7 : x18_2 = true
   ·subst c7
    have H1 : (if 0 < (l0.length : Int) then (if 0 < (l1.length : Int) then (if (rd l1 0) = 0 then (none) else ((gradineref02_Trim.f kj2 (([IntKind.u64.wrap (Int.tdiv (rd l0 0) (rd l1 0))] : List Int))).bind fun t998 => ((gradineref02_Trim.f kj2 (([Int.tmod (rd l0 0) (rd l1 0)] : List Int))).bind fun t1006 => (some (t998, t1006))))) else (none)) else (none)) = some (r1, r2) := by rw [if_pos rfl] at H; exact H
    clear H
    have H := H1
    clear H1
    by_cases c8 : 0 < (l0.length : Int)
    ·rw [if_pos c8] at H
     have c8b0 : decide (0 < (l0.length : Int)) = true := decide_eq_true c8
     have c8b1 : decide (0 < l0.length) = true := decide_eq_true (by omega)
     clear c8
     by_cases c9 : 0 < (l1.length : Int)
     ·rw [if_pos c9] at H
      have c9b0 : decide (0 < (l1.length : Int)) = true := decide_eq_true c9
      have c9b1 : decide (0 < l1.length) = true := decide_eq_true (by omega)
      clear c9
      by_cases c10 : (rd l1 0) = 0
      ·rw [if_pos c10] at H
       exact absurd H (by simp)
      ·rw [if_neg c10] at H
       have c10b0 : ((rd l1 0) == 0) = false := beq_eq_false_iff_ne.mpr c10
       have c10b1 : ((rd l1 0) != 0) = true := bne_iff_ne.mpr c10
       obtain ⟨y995, hy995⟩ : ∃ y_ : List Int, y_ = (([IntKind.u64.wrap (Int.tdiv (rd l0 0) (rd l1 0))] : List Int)) := ⟨_, rfl⟩
       replace H : ((gradineref02_Trim.f kj2 y995).bind fun t998 => ((gradineref02_Trim.f kj2 (([Int.tmod (rd l0 0) (rd l1 0)] : List Int))).bind fun t1006 => (some (t998, t1006)))) = some (r1, r2) := by first | (rw [hy995]; with_reducible exact H) | (have H2_ := (Option.bind_some _ _).symm.trans H; rw [hy995]; with_reducible exact H2_) | (have H2_ := (Option.bind_some _ _).symm.trans H; with_reducible exact H2_) | with_reducible exact H | (rw [hy995]; exact H) | exact H
       have Ny995 := Aside0.mk hy995
       clear hy995
       replace H := Option.bind_eq_some_iff.mp H
       obtain ⟨t998, A110, H⟩ := H
       replace H : ((gradineref02_Trim.f kj2 (([Int.tmod (rd l0 0) (rd l1 0)] : List Int))).bind fun t1006 => (some (t998, t1006))) = some (r1, r2) := H
       have A11 := Aside0.mk A110
       clear A110
       obtain ⟨y1003, hy1003⟩ : ∃ y_ : List Int, y_ = (([Int.tmod (rd l0 0) (rd l1 0)] : List Int)) := ⟨_, rfl⟩
       replace H : ((gradineref02_Trim.f kj2 y1003).bind fun t1006 => (some (t998, t1006))) = some (r1, r2) := by first | (rw [hy1003]; with_reducible exact H) | (have H2_ := (Option.bind_some _ _).symm.trans H; rw [hy1003]; with_reducible exact H2_) | (have H2_ := (Option.bind_some _ _).symm.trans H; with_reducible exact H2_) | with_reducible exact H | (rw [hy1003]; exact H) | exact H
       have Ny1003 := Aside0.mk hy1003
       clear hy1003
       replace H := Option.bind_eq_some_iff.mp H
       obtain ⟨t1006, A120, H⟩ := H
       replace H : (some (t998, t1006)) = some (r1, r2) := H
       have A12 := Aside0.mk A120
       clear A120
       simp only [Option.some.injEq, Prod.mk.injEq] at H
       obtain ⟨rfl, rfl⟩ := H
       try go_wp2
       have n0_ := Aside0.mk (Kd.R_drew HO_6.out)
       have n1_ := Aside0.mk (below_drew1 HB.out)
       clear HO_6
       clear HB
       have HO_6 := n0_
       have HB := n1_
       clear n0_ n1_
       have p993 : 0 ≤ (0 : Int) := (by omega)
       have q993 : 0 < (l0.length : Int) := of_decide_eq_true (by first | (with_reducible assumption) | assumption)
       obtain ⟨ad993, e993, hx993_0⟩ := Kd.at_int HR0.out 0 p993 q993
       have hw993_0 := hx993_0
       (try rw [show ((0 : Int)).toNat = 0 from rfl] at hw993_0)
       (try rw [show 0 * 1 = 0 from rfl] at hw993_0)
       (try rw [Addr.add_zero'] at hw993_0)
       cases e993
       have qi993 : (0 < l0.length) = True := eq_true (by omega)
       (try rw [show ((0 : Int)).toNat = 0 from rfl] at hx993_0)
       (try rw [Addr.add_zero'] at hx993_0)
       replace hx993_0 := (HB.out.cell (World.block_lt_of_cell? w _ hx993_0)).trans hx993_0
       replace p993 := eq_true p993
       replace q993 := eq_true q993
       have p994 : 0 ≤ (0 : Int) := (by omega)
       have q994 : 0 < (l1.length : Int) := of_decide_eq_true (by first | (with_reducible assumption) | assumption)
       obtain ⟨ad994, e994, hx994_0⟩ := Kd.at_int HR1.out 0 p994 q994
       have hw994_0 := hx994_0
       (try rw [show ((0 : Int)).toNat = 0 from rfl] at hw994_0)
       (try rw [show 0 * 1 = 0 from rfl] at hw994_0)
       (try rw [Addr.add_zero'] at hw994_0)
       cases e994
       have qi994 : (0 < l1.length) = True := eq_true (by omega)
       (try rw [show ((0 : Int)).toNat = 0 from rfl] at hx994_0)
       (try rw [Addr.add_zero'] at hx994_0)
       replace hx994_0 := (HB.out.cell (World.block_lt_of_cell? w _ hx994_0)).trans hx994_0
       replace p994 := eq_true p994
       replace q994 := eq_true q994
       have p1001 : 0 ≤ (0 : Int) := (by omega)
       have q1001 : 0 < (l0.length : Int) := of_decide_eq_true (by first | (with_reducible assumption) | assumption)
       obtain ⟨ad1001, e1001, hx1001_0⟩ := Kd.at_int HR0.out 0 p1001 q1001
       have hw1001_0 := hx1001_0
       (try rw [show ((0 : Int)).toNat = 0 from rfl] at hw1001_0)
       (try rw [show 0 * 1 = 0 from rfl] at hw1001_0)
       (try rw [Addr.add_zero'] at hw1001_0)
       obtain rfl : ad993 = ad1001 := (by injection e1001)
       have qi1001 : (0 < l0.length) = True := eq_true (by omega)
       (try rw [show ((0 : Int)).toNat = 0 from rfl] at hx1001_0)
       (try rw [Addr.add_zero'] at hx1001_0)
       replace hx1001_0 := (HB.out.cell (World.block_lt_of_cell? w _ hx1001_0)).trans hx1001_0
       replace p1001 := eq_true p1001
       replace q1001 := eq_true q1001
       have p1002 : 0 ≤ (0 : Int) := (by omega)
       have q1002 : 0 < (l1.length : Int) := of_decide_eq_true (by first | (with_reducible assumption) | assumption)
       obtain ⟨ad1002, e1002, hx1002_0⟩ := Kd.at_int HR1.out 0 p1002 q1002
       have hw1002_0 := hx1002_0
       (try rw [show ((0 : Int)).toNat = 0 from rfl] at hw1002_0)
       (try rw [show 0 * 1 = 0 from rfl] at hw1002_0)
       (try rw [Addr.add_zero'] at hw1002_0)
       obtain rfl : ad994 = ad1002 := (by injection e1002)
       have qi1002 : (0 < l1.length) = True := eq_true (by omega)
       (try rw [show ((0 : Int)).toNat = 0 from rfl] at hx1002_0)
       (try rw [Addr.add_zero'] at hx1002_0)
       replace hx1002_0 := (HB.out.cell (World.block_lt_of_cell? w _ hx1002_0)).trans hx1002_0
       replace p1002 := eq_true p1002
       replace q1002 := eq_true q1002
       refine start_ (n := 20) (S := fun w' => True) (ds := []) #[false, false, false, false, false, false, false, false, false, false, false, false, false, false, false, false, false, false, false, false] (by kernel_rfl) rfl rfl trivial (fun hHeld => ?_); refine with_tabW gradineref04_Div.tab3 gradineref04_Div.bits3 (fun HT_ HW_ => ?_)
       generalize wc.drew = w13 at HO_6 HB hx1001_0 hx1002_0 hx993_0 hx994_0 hHeld ⊢
       refine pure_ (i := 0) (N := some 19) (v := ?_) (a' := ?_) #[true, false, false, false, false, false, false, false, false, false, false, false, false, false, false, false, false, false, false, false] rfl rfl (any_of HT_.out (by kernel_rfl)) (fun _ _ _ h => h) (Or.inl ⟨by rfl, ?_⟩) ?_ ?_
       rotate_left
       ·intro w'
        go_simp
        with_reducible rfl
       rotate_left
       ·simp only [Act.put, List.setIfInBounds_toArray, List.set_cons_zero, List.set_cons_succ, i64_w, i32_w]
        rfl
       refine pure_ (i := 3) (N := some 22) (v := ?_) (a' := ?_) #[true, false, false, true, false, false, false, false, false, false, false, false, false, false, false, false, false, false, false, false] rfl rfl (any_of HT_.out (by kernel_rfl)) (fun _ _ _ h => h) (Or.inl ⟨by rfl, ?_⟩) ?_ ?_
       rotate_left
       ·intro w'
        go_simp
        with_reducible rfl
       rotate_left
       ·simp only [Act.put, List.setIfInBounds_toArray, List.set_cons_zero, List.set_cons_succ, i64_w, i32_w]
        rfl
       refine pure_ (i := 9) (N := some 28) (v := ?_) (a' := ?_) #[true, false, false, true, false, false, false, false, false, true, false, false, false, false, false, false, false, false, false, false] rfl rfl (any_of HT_.out (by kernel_rfl)) (fun _ _ _ h => h) (Or.inl ⟨by rfl, ?_⟩) ?_ ?_
       rotate_left
       ·intro w'
        go_simp
        with_reducible rfl
       rotate_left
       ·simp only [Act.put, List.setIfInBounds_toArray, List.set_cons_zero, List.set_cons_succ, i64_w, i32_w]
        rfl
       refine pure_ (i := 12) (N := some 31) (v := ?_) (a' := ?_) #[true, false, false, true, false, false, false, false, false, true, false, false, true, false, false, false, false, false, false, false] rfl rfl (any_of HT_.out (by kernel_rfl)) (fun _ _ _ h => h) (Or.inl ⟨by rfl, ?_⟩) ?_ ?_
       rotate_left
       ·intro w'
        go_simp
        with_reducible rfl
       rotate_left
       ·simp only [Act.put, List.setIfInBounds_toArray, List.set_cons_zero, List.set_cons_succ, i64_w, i32_w]
        rfl
       refine inv_at [1, 2, 4, 5, 6, 7, 8, 10, 11, 13, 14, 15, 16, 17, 18, 19] (fun a0_ b a w' => ∃ (v996 : Value) (v999 : Value) (v1004 : Value) (v1007 : Value) (m18_ : Value) (m19_ : Value), a = putSel a0_ b [(1, 20, .pointer (some ad993)), (2, 21, .int .u64 (rd l0 0)), (4, 23, .pointer (some ad994)), (5, 24, .int .u64 (rd l1 0)), (6, 25, .int .u64 (IntKind.u64.wrap (Int.tdiv (rd l0 0) (rd l1 0)))), (7, 26, v996), (8, 27, v999), (10, 29, .pointer (some ad993)), (11, 30, .int .u64 (rd l0 0)), (13, 32, .pointer (some ad994)), (14, 33, .int .u64 (rd l1 0)), (15, 34, .int .u64 (Int.tmod (rd l0 0) (rd l1 0))), (16, 35, v1004), (17, 36, v1007), (18, 4, m18_), (19, 5, m19_)] ∧ (Kd.R (Kd.int .u64) 22 w' w.heap.size (fun _ => True) (.slice none 0 0) ([] : List Int)) ∧ (Below w.heap.size w w') ∧ (b 7 = true → Kd.R (Kd.int .u64) 22 w' w.heap.size (fun k_ => some k_ ≠ (.slice none 0 0 : Value).ownBlock) v996 y995) ∧ (b 8 = true → Kd.R (Kd.int .u64) 22 w' w.heap.size (fun k_ => some k_ ≠ (.slice none 0 0 : Value).ownBlock ∧ (b 17 = true → some k_ ≠ (v1007 : Value).ownBlock)) v999 t998) ∧ (b 16 = true → Kd.R (Kd.int .u64) 22 w' w.heap.size (fun k_ => some k_ ≠ (.slice none 0 0 : Value).ownBlock) v1004 y1003) ∧ (b 17 = true → Kd.R (Kd.int .u64) 22 w' w.heap.size (fun k_ => some k_ ≠ (.slice none 0 0 : Value).ownBlock ∧ some k_ ≠ (v999 : Value).ownBlock) v1007 t1006) ∧ (b 18 = true → (m18_ : Value) = v999) ∧ (b 19 = true → (m19_ : Value) = v1007)) HT_.out HW_.out (by kernel_rfl) (by kernel_rfl) ?_ ?_ ?_
       ·exact ⟨.bool false, .bool false, .bool false, .bool false, .bool false, .bool false, by simp only [putSel, Bool.false_eq_true, if_false], HO_6.out, HB.out, fun h_ => absurd h_ (by decide), fun h_ => absurd h_ (by decide), fun h_ => absurd h_ (by decide), fun h_ => absurd h_ (by decide), fun h_ => absurd h_ (by decide), fun h_ => absurd h_ (by decide)⟩
       ·skip
        clear HB HO_6
        refine steps_cons ?_ ?_
        ·rintro b a w' ⟨v996, v999, v1004, v1007, m18_, m19_, ha, Q_HO_6, Q_HB, Q_HO997, Q_HO1000, Q_HO1005, Q_HO1008, Q_X18_, Q_X19_⟩ hb_ hon hoff
         refine ⟨_, rfl, fun K hK => ?_⟩
         have e19 : a.tmps[19]? = some (.slice (some ad993) l0.length c0) := by rw [ha]; exact (putSel_off rfl).trans rfl
         replace ha := Aside0.mk ha
         have HO_6 := Aside0.mk Q_HO_6
         have HB := Aside0.mk Q_HB
         have hs0_ : w'.cell? ad993 = some (.int .u64 (rd l0 0)) := ((HB.out.cell (World.block_lt_of_cell? w _ hw993_0)).trans hw993_0)
         refine value_ (w1 := w') (v := .pointer (some ad993)) (by rfl) rfl ?_ ?_
         ·go_simp
          (try simp only [i64_w])
          try rfl
         refine hK.out _ _ ⟨v996, v999, v1004, v1007, m18_, m19_, (by rw [ha.out]; exact putSel_upk 0 hb_ rfl rfl rfl), Q_HO_6, Q_HB, fun h0_ => absurd ((hoff 7 (by kernel_rfl)).symm.trans h0_) (by decide), fun h0_ => absurd ((hoff 8 (by kernel_rfl)).symm.trans h0_) (by decide), Q_HO1005, fun h0_ => absurd ((hoff 17 (by kernel_rfl)).symm.trans h0_) (by decide), fun h0_ => absurd ((hoff 18 (by kernel_rfl)).symm.trans h0_) (by decide), fun h0_ => absurd ((hoff 19 (by kernel_rfl)).symm.trans h0_) (by decide)⟩
        refine steps_cons ?_ ?_
        ·rintro b a w' ⟨v996, v999, v1004, v1007, m18_, m19_, ha, Q_HO_6, Q_HB, Q_HO997, Q_HO1000, Q_HO1005, Q_HO1008, Q_X18_, Q_X19_⟩ hb_ hon hoff
         refine ⟨_, rfl, fun K hK => ?_⟩
         have e20 : a.tmps[20]? = some (.pointer (some ad993)) := by rw [ha]; exact putSel_on (e := (1, 20, .pointer (some ad993))) 0 rfl rfl (hon 1 (by kernel_rfl)) rfl
         replace ha := Aside0.mk ha
         have HO_6 := Aside0.mk Q_HO_6
         have HB := Aside0.mk Q_HB
         have hs0_ : w'.cell? ad993 = some (.int .u64 (rd l0 0)) := ((HB.out.cell (World.block_lt_of_cell? w _ hw993_0)).trans hw993_0)
         refine value_ (w1 := w') (v := .int .u64 (rd l0 0)) (by rfl) rfl ?_ ?_
         ·go_simp
          (try simp only [i64_w])
          try rfl
         refine hK.out _ _ ⟨v996, v999, v1004, v1007, m18_, m19_, (by rw [ha.out]; exact putSel_upk 1 hb_ rfl rfl rfl), Q_HO_6, Q_HB, fun h0_ => absurd ((hoff 7 (by kernel_rfl)).symm.trans h0_) (by decide), fun h0_ => absurd ((hoff 8 (by kernel_rfl)).symm.trans h0_) (by decide), Q_HO1005, fun h0_ => absurd ((hoff 17 (by kernel_rfl)).symm.trans h0_) (by decide), fun h0_ => absurd ((hoff 18 (by kernel_rfl)).symm.trans h0_) (by decide), fun h0_ => absurd ((hoff 19 (by kernel_rfl)).symm.trans h0_) (by decide)⟩
        refine steps_cons ?_ ?_
        ·rintro b a w' ⟨v996, v999, v1004, v1007, m18_, m19_, ha, Q_HO_6, Q_HB, Q_HO997, Q_HO1000, Q_HO1005, Q_HO1008, Q_X18_, Q_X19_⟩ hb_ hon hoff
         refine ⟨_, rfl, fun K hK => ?_⟩
         have e22 : a.tmps[22]? = some (.slice (some ad994) l1.length c1) := by rw [ha]; exact (putSel_off rfl).trans rfl
         replace ha := Aside0.mk ha
         have HO_6 := Aside0.mk Q_HO_6
         have HB := Aside0.mk Q_HB
         have hs1_ : w'.cell? ad994 = some (.int .u64 (rd l1 0)) := ((HB.out.cell (World.block_lt_of_cell? w _ hw994_0)).trans hw994_0)
         refine value_ (w1 := w') (v := .pointer (some ad994)) (by rfl) rfl ?_ ?_
         ·go_simp
          (try simp only [i64_w])
          try rfl
         refine hK.out _ _ ⟨v996, v999, v1004, v1007, m18_, m19_, (by rw [ha.out]; exact putSel_upk 2 hb_ rfl rfl rfl), Q_HO_6, Q_HB, fun h0_ => absurd ((hoff 7 (by kernel_rfl)).symm.trans h0_) (by decide), fun h0_ => absurd ((hoff 8 (by kernel_rfl)).symm.trans h0_) (by decide), Q_HO1005, fun h0_ => absurd ((hoff 17 (by kernel_rfl)).symm.trans h0_) (by decide), fun h0_ => absurd ((hoff 18 (by kernel_rfl)).symm.trans h0_) (by decide), fun h0_ => absurd ((hoff 19 (by kernel_rfl)).symm.trans h0_) (by decide)⟩
        refine steps_cons ?_ ?_
        ·rintro b a w' ⟨v996, v999, v1004, v1007, m18_, m19_, ha, Q_HO_6, Q_HB, Q_HO997, Q_HO1000, Q_HO1005, Q_HO1008, Q_X18_, Q_X19_⟩ hb_ hon hoff
         refine ⟨_, rfl, fun K hK => ?_⟩
         have e23 : a.tmps[23]? = some (.pointer (some ad994)) := by rw [ha]; exact putSel_on (e := (4, 23, .pointer (some ad994))) 2 rfl rfl (hon 4 (by kernel_rfl)) rfl
         replace ha := Aside0.mk ha
         have HO_6 := Aside0.mk Q_HO_6
         have HB := Aside0.mk Q_HB
         have hs1_ : w'.cell? ad994 = some (.int .u64 (rd l1 0)) := ((HB.out.cell (World.block_lt_of_cell? w _ hw994_0)).trans hw994_0)
         refine value_ (w1 := w') (v := .int .u64 (rd l1 0)) (by rfl) rfl ?_ ?_
         ·go_simp
          (try simp only [i64_w])
          try rfl
         refine hK.out _ _ ⟨v996, v999, v1004, v1007, m18_, m19_, (by rw [ha.out]; exact putSel_upk 3 hb_ rfl rfl rfl), Q_HO_6, Q_HB, fun h0_ => absurd ((hoff 7 (by kernel_rfl)).symm.trans h0_) (by decide), fun h0_ => absurd ((hoff 8 (by kernel_rfl)).symm.trans h0_) (by decide), Q_HO1005, fun h0_ => absurd ((hoff 17 (by kernel_rfl)).symm.trans h0_) (by decide), fun h0_ => absurd ((hoff 18 (by kernel_rfl)).symm.trans h0_) (by decide), fun h0_ => absurd ((hoff 19 (by kernel_rfl)).symm.trans h0_) (by decide)⟩
        refine steps_cons ?_ ?_
        ·rintro b a w' ⟨v996, v999, v1004, v1007, m18_, m19_, ha, Q_HO_6, Q_HB, Q_HO997, Q_HO1000, Q_HO1005, Q_HO1008, Q_X18_, Q_X19_⟩ hb_ hon hoff
         refine ⟨_, rfl, fun K hK => ?_⟩
         have e21 : a.tmps[21]? = some (.int .u64 (rd l0 0)) := by rw [ha]; exact putSel_on (e := (2, 21, .int .u64 (rd l0 0))) 1 rfl rfl (hon 2 (by kernel_rfl)) rfl
         have e24 : a.tmps[24]? = some (.int .u64 (rd l1 0)) := by rw [ha]; exact putSel_on (e := (5, 24, .int .u64 (rd l1 0))) 3 rfl rfl (hon 5 (by kernel_rfl)) rfl
         replace ha := Aside0.mk ha
         have HO_6 := Aside0.mk Q_HO_6
         have HB := Aside0.mk Q_HB
         refine value_ (w1 := w') (v := .int .u64 (IntKind.u64.wrap (Int.tdiv (rd l0 0) (rd l1 0)))) (by rfl) rfl ?_ ?_
         ·go_simp
          (try simp only [i64_w])
          try rfl
         refine hK.out _ _ ⟨v996, v999, v1004, v1007, m18_, m19_, (by rw [ha.out]; exact putSel_upk 4 hb_ rfl rfl rfl), Q_HO_6, Q_HB, fun h0_ => absurd ((hoff 7 (by kernel_rfl)).symm.trans h0_) (by decide), fun h0_ => absurd ((hoff 8 (by kernel_rfl)).symm.trans h0_) (by decide), Q_HO1005, fun h0_ => absurd ((hoff 17 (by kernel_rfl)).symm.trans h0_) (by decide), fun h0_ => absurd ((hoff 18 (by kernel_rfl)).symm.trans h0_) (by decide), fun h0_ => absurd ((hoff 19 (by kernel_rfl)).symm.trans h0_) (by decide)⟩
        refine steps_cons ?_ ?_
        ·rintro b a w' ⟨v996, v999, v1004, v1007, m18_, m19_, ha, Q_HO_6, Q_HB, Q_HO997, Q_HO1000, Q_HO1005, Q_HO1008, Q_X18_, Q_X19_⟩ hb_ hon hoff
         refine ⟨_, rfl, fun K hK => ?_⟩
         have e25 : a.tmps[25]? = some (.int .u64 (IntKind.u64.wrap (Int.tdiv (rd l0 0) (rd l1 0)))) := by rw [ha]; exact putSel_on (e := (6, 25, .int .u64 (IntKind.u64.wrap (Int.tdiv (rd l0 0) (rd l1 0))))) 4 rfl rfl (hon 6 (by kernel_rfl)) rfl
         replace ha := Aside0.mk ha
         have HO_6 := Aside0.mk Q_HO_6
         have HB := Aside0.mk Q_HB
         refine Kd.R_lit_step (Kd.int .u64) _ 22 ?hg (N := 26) ?hd (xs := ([IntKind.u64.wrap (Int.tdiv (rd l0 0) (rd l1 0))] : List Int)) (inner := [.int .u64 (IntKind.u64.wrap (Int.tdiv (rd l0 0) (rd l1 0)))]) (ok := fun _ => True) (okp := fun _ => True) ?hr ?hp (fun _ hk => by first | exact hk | trivial | (intro h_; cases h_) | exact ⟨(fun h_ => by cases h_), fun h0_ => absurd ((hoff 17 (by kernel_rfl)).symm.trans h0_) (by decide)⟩ | exact ⟨hk.1.1, fun _ => hk.2⟩ | exact ⟨hk.1.1.1.2, hk.1.2⟩ | exact hk.2 hb17_ | exact hk.2 | exact hk.1 | exact hk) trivial (Below.refl _ _) (Nat.le_refl _) (by simp) ?_; (case hd => rfl); (case hg => rfl); (case hr => first | (go_simp; done) | (go_simp; rfl)); (case hp => exact (Reps.one (show Kd.M (Kd.int .u64) _ _ _ (IntKind.u64.wrap (Int.tdiv (rd l0 0) (rd l1 0))) [.int .u64 (IntKind.u64.wrap (Int.tdiv (rd l0 0) (rd l1 0)))] from rfl) (Reps.none _ _)))
         intro v996 w14 ho15 hb hg_ hnew_
         clear hg_ hnew_
         (first | rw [← Ny995.out] at ho15 | (simp only [Int.reduceToNat] at ho15; rw [← Ny995.out] at ho15))
         have n0_ := Aside0.mk (Kd.R_elder' (st HO_6.out) (Kd.R_base ho15) hb)
         have n1_ := Aside0.mk (Kd.R_lower (Kd.R_new' ho15 (Kd.R_lt (st HO_6.out))) (below_size (bb HB.out)))
         have n2_ := Aside0.mk (below_step (bb HB.out) hb)
         have z_HO1005 := fun (h0_ : b 16 = true) => (show Kd.R (Kd.int .u64) 22 w14 w.heap.size (fun k_ => some k_ ≠ (.slice none 0 0 : Value).ownBlock) v1004 y1003 from by first | exact (Kd.R_elder' (st (Q_HO1005 h0_)) (Kd.R_base ho15) hb) | exact Kd.R_mono (Kd.R_elder' (st (Q_HO1005 h0_)) (Kd.R_base ho15) hb) (fun _ h_ => by first | trivial | exact h_ | exact h_.1))
         clear HO_6
         clear HB
         have HO_6 := n0_
         have HO997 := n1_
         have HB := n2_
         clear n0_ n1_ n2_
         clear hb ho15
         refine hK.out _ _ ⟨v996, v999, v1004, v1007, m18_, m19_, (by rw [ha.out]; exact putSel_upk 5 hb_ rfl rfl rfl), (st (Kd.R_mono HO_6.out (fun _ hk => by first | exact hk.2 | trivial | (intro h_; cases h_) | exact ⟨(fun h_ => by cases h_), fun h0_ => absurd ((hoff 17 (by kernel_rfl)).symm.trans h0_) (by decide)⟩ | exact ⟨hk.1.1, fun _ => hk.2⟩ | exact ⟨hk.1.1.1.2, hk.1.2⟩ | exact hk.2 hb17_ | exact hk.2 | exact hk.1 | exact hk))), (bb HB.out), fun _ => (st (Kd.R_mono HO997.out (fun _ hk => by first | exact hk.2 | trivial | (intro h_; cases h_) | exact ⟨(fun h_ => by cases h_), fun h0_ => absurd ((hoff 17 (by kernel_rfl)).symm.trans h0_) (by decide)⟩ | exact ⟨hk.1.1, fun _ => hk.2⟩ | exact ⟨hk.1.1.1.2, hk.1.2⟩ | exact hk.2 hb17_ | exact hk.2 | exact hk.1 | exact hk))), fun h0_ => absurd ((hoff 8 (by kernel_rfl)).symm.trans h0_) (by decide), z_HO1005, fun h0_ => absurd ((hoff 17 (by kernel_rfl)).symm.trans h0_) (by decide), fun h0_ => absurd ((hoff 18 (by kernel_rfl)).symm.trans h0_) (by decide), fun h0_ => absurd ((hoff 19 (by kernel_rfl)).symm.trans h0_) (by decide)⟩
        refine steps_cons ?_ ?_
        ·rintro b a w' ⟨v996, v999, v1004, v1007, m18_, m19_, ha, Q_HO_6, Q_HB, Q_HO997, Q_HO1000, Q_HO1005, Q_HO1008, Q_X18_, Q_X19_⟩ hb_ hon hoff
         refine ⟨_, rfl, fun K hK => ?_⟩
         have e26 : a.tmps[26]? = some (v996) := by rw [ha]; exact putSel_on (e := (7, 26, v996)) 5 rfl rfl (hon 7 (by kernel_rfl)) rfl
         replace ha := Aside0.mk ha
         have HO_6 := Aside0.mk Q_HO_6
         have HB := Aside0.mk Q_HB
         have HO997 := Aside0.mk (Q_HO997 (hon 7 (by kernel_rfl)))
         obtain ⟨Ao17, co17, eo17⟩ := Kd.R_slice HO997.out
         (first | subst eo17 | (injection eo17 with f1_ f2_ f3_; have f4_ := f1_.symm; have f5_ := f3_.symm; clear f1_ f2_ f3_; subst f4_; subst f5_))
         refine goes_ Try.func52 (by kernel_rfl) rfl #[.slice Ao17 y995.length co17] (by rfl) rfl rfl (by (try simp only [List.map_toArray, List.map_cons, List.map_nil]); first | done | rfl | (simp only [List.length_drop, List.length_take]; rfl) | (go_simp; done) | (go_simp; rfl) | (simp only [*]; done)) ?_
         with_reducible refine (gradineref02_Trim.calls kj2 _ _ y995 t998 _ ?side1 ?side2 A11.out).mono ?_
         (case side1 => exact cs (Kd.R_reads' HO997.out).2.2)
         (case side2 => exact (Kd.R_reads' HO997.out).2.1)
         rintro e w18 ⟨v999, rfl, ho0, hb⟩
         refine ⟨_, rfl, ?_⟩
         have n0_ := Aside0.mk (Kd.R_elder' (st HO_6.out) (Kd.R_base ho0) hb)
         have n1_ := Aside0.mk (Kd.R_elder' (st HO997.out) (Kd.R_base ho0) hb)
         have n2_ := Aside0.mk (Kd.R_lower (Kd.R_new' (Kd.R_new' ho0 (Kd.R_lt (st HO_6.out))) (Kd.R_lt (st HO997.out))) (below_size (bb HB.out)))
         have n3_ := Aside0.mk (below_step (bb HB.out) hb)
         have z_HO1005 := fun (h0_ : b 16 = true) => (show Kd.R (Kd.int .u64) 22 w18 w.heap.size (fun k_ => some k_ ≠ (.slice none 0 0 : Value).ownBlock) v1004 y1003 from by first | exact (Kd.R_elder' (st (Q_HO1005 h0_)) (Kd.R_base ho0) hb) | exact Kd.R_mono (Kd.R_elder' (st (Q_HO1005 h0_)) (Kd.R_base ho0) hb) (fun _ h_ => by first | trivial | exact h_ | exact h_.1))
         clear HO_6
         clear HO997
         clear HB
         have HO_6 := n0_
         have HO997 := n1_
         have HO1000 := n2_
         have HB := n3_
         clear n0_ n1_ n2_ n3_
         (try clear hb)
         (try clear hb2)
         (try clear hk)
         (try clear hi)
         (try clear ho0)
         refine hK.out _ _ ⟨.slice Ao17 y995.length co17, v999, v1004, v1007, m18_, m19_, (by rw [ha.out]; exact putSel_upk 6 hb_ rfl rfl rfl), (st (Kd.R_mono HO_6.out (fun _ hk => by first | exact ⟨hk.2, hk.1⟩ | trivial | (intro h_; cases h_) | exact ⟨(fun h_ => by cases h_), fun h0_ => absurd ((hoff 17 (by kernel_rfl)).symm.trans h0_) (by decide)⟩ | exact ⟨hk.1.1, fun _ => hk.2⟩ | exact ⟨hk.1.1.1.2, hk.1.2⟩ | exact hk.2 hb17_ | exact hk.2 | exact hk.1 | exact hk))), (bb HB.out), fun _ => (st (Kd.R_mono HO997.out (fun _ hk => by first | exact ⟨hk.2, hk.1⟩ | trivial | (intro h_; cases h_) | exact ⟨(fun h_ => by cases h_), fun h0_ => absurd ((hoff 17 (by kernel_rfl)).symm.trans h0_) (by decide)⟩ | exact ⟨hk.1.1, fun _ => hk.2⟩ | exact ⟨hk.1.1.1.2, hk.1.2⟩ | exact hk.2 hb17_ | exact hk.2 | exact hk.1 | exact hk))), fun _ => (st (Kd.R_mono HO1000.out (fun _ hk => by first | exact ⟨hk.2, hk.1.2⟩ | trivial | (intro h_; cases h_) | exact ⟨(fun h_ => by cases h_), fun h0_ => absurd ((hoff 17 (by kernel_rfl)).symm.trans h0_) (by decide)⟩ | exact ⟨hk.1.1, fun _ => hk.2⟩ | exact ⟨hk.1.1.1.2, hk.1.2⟩ | exact hk.2 hb17_ | exact hk.2 | exact hk.1 | exact hk))), z_HO1005, fun h0_ => absurd ((hoff 17 (by kernel_rfl)).symm.trans h0_) (by decide), fun h0_ => absurd ((hoff 18 (by kernel_rfl)).symm.trans h0_) (by decide), fun h0_ => absurd ((hoff 19 (by kernel_rfl)).symm.trans h0_) (by decide)⟩
        refine steps_cons ?_ ?_
        ·rintro b a w' ⟨v996, v999, v1004, v1007, m18_, m19_, ha, Q_HO_6, Q_HB, Q_HO997, Q_HO1000, Q_HO1005, Q_HO1008, Q_X18_, Q_X19_⟩ hb_ hon hoff
         refine ⟨_, rfl, fun K hK => ?_⟩
         have e28 : a.tmps[28]? = some (.slice (some ad993) l0.length c0) := by rw [ha]; exact (putSel_off rfl).trans rfl
         replace ha := Aside0.mk ha
         have HO_6 := Aside0.mk Q_HO_6
         have HB := Aside0.mk Q_HB
         have hs2_ : w'.cell? ad993 = some (.int .u64 (rd l0 0)) := ((HB.out.cell (World.block_lt_of_cell? w _ hw1001_0)).trans hw1001_0)
         refine value_ (w1 := w') (v := .pointer (some ad993)) (by rfl) rfl ?_ ?_
         ·go_simp
          (try simp only [i64_w])
          try rfl
         refine hK.out _ _ ⟨v996, v999, v1004, v1007, m18_, m19_, (by rw [ha.out]; exact putSel_upk 7 hb_ rfl rfl rfl), Q_HO_6, Q_HB, Q_HO997, Q_HO1000, fun h0_ => absurd ((hoff 16 (by kernel_rfl)).symm.trans h0_) (by decide), fun h0_ => absurd ((hoff 17 (by kernel_rfl)).symm.trans h0_) (by decide), fun h0_ => absurd ((hoff 18 (by kernel_rfl)).symm.trans h0_) (by decide), fun h0_ => absurd ((hoff 19 (by kernel_rfl)).symm.trans h0_) (by decide)⟩
        refine steps_cons ?_ ?_
        ·rintro b a w' ⟨v996, v999, v1004, v1007, m18_, m19_, ha, Q_HO_6, Q_HB, Q_HO997, Q_HO1000, Q_HO1005, Q_HO1008, Q_X18_, Q_X19_⟩ hb_ hon hoff
         refine ⟨_, rfl, fun K hK => ?_⟩
         have e29 : a.tmps[29]? = some (.pointer (some ad993)) := by rw [ha]; exact putSel_on (e := (10, 29, .pointer (some ad993))) 7 rfl rfl (hon 10 (by kernel_rfl)) rfl
         replace ha := Aside0.mk ha
         have HO_6 := Aside0.mk Q_HO_6
         have HB := Aside0.mk Q_HB
         have hs2_ : w'.cell? ad993 = some (.int .u64 (rd l0 0)) := ((HB.out.cell (World.block_lt_of_cell? w _ hw1001_0)).trans hw1001_0)
         refine value_ (w1 := w') (v := .int .u64 (rd l0 0)) (by rfl) rfl ?_ ?_
         ·go_simp
          (try simp only [i64_w])
          try rfl
         refine hK.out _ _ ⟨v996, v999, v1004, v1007, m18_, m19_, (by rw [ha.out]; exact putSel_upk 8 hb_ rfl rfl rfl), Q_HO_6, Q_HB, Q_HO997, Q_HO1000, fun h0_ => absurd ((hoff 16 (by kernel_rfl)).symm.trans h0_) (by decide), fun h0_ => absurd ((hoff 17 (by kernel_rfl)).symm.trans h0_) (by decide), fun h0_ => absurd ((hoff 18 (by kernel_rfl)).symm.trans h0_) (by decide), fun h0_ => absurd ((hoff 19 (by kernel_rfl)).symm.trans h0_) (by decide)⟩
        refine steps_cons ?_ ?_
        ·rintro b a w' ⟨v996, v999, v1004, v1007, m18_, m19_, ha, Q_HO_6, Q_HB, Q_HO997, Q_HO1000, Q_HO1005, Q_HO1008, Q_X18_, Q_X19_⟩ hb_ hon hoff
         refine ⟨_, rfl, fun K hK => ?_⟩
         have e31 : a.tmps[31]? = some (.slice (some ad994) l1.length c1) := by rw [ha]; exact (putSel_off rfl).trans rfl
         replace ha := Aside0.mk ha
         have HO_6 := Aside0.mk Q_HO_6
         have HB := Aside0.mk Q_HB
         have hs3_ : w'.cell? ad994 = some (.int .u64 (rd l1 0)) := ((HB.out.cell (World.block_lt_of_cell? w _ hw1002_0)).trans hw1002_0)
         refine value_ (w1 := w') (v := .pointer (some ad994)) (by rfl) rfl ?_ ?_
         ·go_simp
          (try simp only [i64_w])
          try rfl
         refine hK.out _ _ ⟨v996, v999, v1004, v1007, m18_, m19_, (by rw [ha.out]; exact putSel_upk 9 hb_ rfl rfl rfl), Q_HO_6, Q_HB, Q_HO997, Q_HO1000, fun h0_ => absurd ((hoff 16 (by kernel_rfl)).symm.trans h0_) (by decide), fun h0_ => absurd ((hoff 17 (by kernel_rfl)).symm.trans h0_) (by decide), fun h0_ => absurd ((hoff 18 (by kernel_rfl)).symm.trans h0_) (by decide), fun h0_ => absurd ((hoff 19 (by kernel_rfl)).symm.trans h0_) (by decide)⟩
        refine steps_cons ?_ ?_
        ·rintro b a w' ⟨v996, v999, v1004, v1007, m18_, m19_, ha, Q_HO_6, Q_HB, Q_HO997, Q_HO1000, Q_HO1005, Q_HO1008, Q_X18_, Q_X19_⟩ hb_ hon hoff
         refine ⟨_, rfl, fun K hK => ?_⟩
         have e32 : a.tmps[32]? = some (.pointer (some ad994)) := by rw [ha]; exact putSel_on (e := (13, 32, .pointer (some ad994))) 9 rfl rfl (hon 13 (by kernel_rfl)) rfl
         replace ha := Aside0.mk ha
         have HO_6 := Aside0.mk Q_HO_6
         have HB := Aside0.mk Q_HB
         have hs3_ : w'.cell? ad994 = some (.int .u64 (rd l1 0)) := ((HB.out.cell (World.block_lt_of_cell? w _ hw1002_0)).trans hw1002_0)
         refine value_ (w1 := w') (v := .int .u64 (rd l1 0)) (by rfl) rfl ?_ ?_
         ·go_simp
          (try simp only [i64_w])
          try rfl
         refine hK.out _ _ ⟨v996, v999, v1004, v1007, m18_, m19_, (by rw [ha.out]; exact putSel_upk 10 hb_ rfl rfl rfl), Q_HO_6, Q_HB, Q_HO997, Q_HO1000, fun h0_ => absurd ((hoff 16 (by kernel_rfl)).symm.trans h0_) (by decide), fun h0_ => absurd ((hoff 17 (by kernel_rfl)).symm.trans h0_) (by decide), fun h0_ => absurd ((hoff 18 (by kernel_rfl)).symm.trans h0_) (by decide), fun h0_ => absurd ((hoff 19 (by kernel_rfl)).symm.trans h0_) (by decide)⟩
        refine steps_cons ?_ ?_
        ·rintro b a w' ⟨v996, v999, v1004, v1007, m18_, m19_, ha, Q_HO_6, Q_HB, Q_HO997, Q_HO1000, Q_HO1005, Q_HO1008, Q_X18_, Q_X19_⟩ hb_ hon hoff
         refine ⟨_, rfl, fun K hK => ?_⟩
         have e30 : a.tmps[30]? = some (.int .u64 (rd l0 0)) := by rw [ha]; exact putSel_on (e := (11, 30, .int .u64 (rd l0 0))) 8 rfl rfl (hon 11 (by kernel_rfl)) rfl
         have e33 : a.tmps[33]? = some (.int .u64 (rd l1 0)) := by rw [ha]; exact putSel_on (e := (14, 33, .int .u64 (rd l1 0))) 10 rfl rfl (hon 14 (by kernel_rfl)) rfl
         replace ha := Aside0.mk ha
         have HO_6 := Aside0.mk Q_HO_6
         have HB := Aside0.mk Q_HB
         refine value_ (w1 := w') (v := .int .u64 (Int.tmod (rd l0 0) (rd l1 0))) (by rfl) rfl ?_ ?_
         ·go_simp
          (try simp only [i64_w])
          try rfl
         refine hK.out _ _ ⟨v996, v999, v1004, v1007, m18_, m19_, (by rw [ha.out]; exact putSel_upk 11 hb_ rfl rfl rfl), Q_HO_6, Q_HB, Q_HO997, Q_HO1000, fun h0_ => absurd ((hoff 16 (by kernel_rfl)).symm.trans h0_) (by decide), fun h0_ => absurd ((hoff 17 (by kernel_rfl)).symm.trans h0_) (by decide), fun h0_ => absurd ((hoff 18 (by kernel_rfl)).symm.trans h0_) (by decide), fun h0_ => absurd ((hoff 19 (by kernel_rfl)).symm.trans h0_) (by decide)⟩
        refine steps_cons ?_ ?_
        ·rintro b a w' ⟨v996, v999, v1004, v1007, m18_, m19_, ha, Q_HO_6, Q_HB, Q_HO997, Q_HO1000, Q_HO1005, Q_HO1008, Q_X18_, Q_X19_⟩ hb_ hon hoff
         refine ⟨_, rfl, fun K hK => ?_⟩
         have e34 : a.tmps[34]? = some (.int .u64 (Int.tmod (rd l0 0) (rd l1 0))) := by rw [ha]; exact putSel_on (e := (15, 34, .int .u64 (Int.tmod (rd l0 0) (rd l1 0)))) 11 rfl rfl (hon 15 (by kernel_rfl)) rfl
         replace ha := Aside0.mk ha
         have HO_6 := Aside0.mk Q_HO_6
         have HB := Aside0.mk Q_HB
         refine Kd.R_lit_step (Kd.int .u64) _ 22 ?hg (N := 35) ?hd (xs := ([Int.tmod (rd l0 0) (rd l1 0)] : List Int)) (inner := [.int .u64 (Int.tmod (rd l0 0) (rd l1 0))]) (ok := fun _ => True) (okp := fun _ => True) ?hr ?hp (fun _ hk => by first | exact hk | trivial | (intro h_; cases h_) | exact ⟨(fun h_ => by cases h_), fun h0_ => absurd ((hoff 17 (by kernel_rfl)).symm.trans h0_) (by decide)⟩ | exact ⟨hk.1.1, fun _ => hk.2⟩ | exact ⟨hk.1.1.1.2, hk.1.2⟩ | exact hk.2 hb17_ | exact hk.2 | exact hk.1 | exact hk) trivial (Below.refl _ _) (Nat.le_refl _) (by simp) ?_; (case hd => rfl); (case hg => rfl); (case hr => first | (go_simp; done) | (go_simp; rfl)); (case hp => exact (Reps.one (show Kd.M (Kd.int .u64) _ _ _ (Int.tmod (rd l0 0) (rd l1 0)) [.int .u64 (Int.tmod (rd l0 0) (rd l1 0))] from rfl) (Reps.none _ _)))
         intro v1004 w14 ho15 hb hg_ hnew_
         clear hg_ hnew_
         (first | rw [← Ny1003.out] at ho15 | (simp only [Int.reduceToNat] at ho15; rw [← Ny1003.out] at ho15))
         have n0_ := Aside0.mk (Kd.R_elder' (st HO_6.out) (Kd.R_base ho15) hb)
         have n1_ := Aside0.mk (Kd.R_lower (Kd.R_new' ho15 (Kd.R_lt (st HO_6.out))) (below_size (bb HB.out)))
         have n2_ := Aside0.mk (below_step (bb HB.out) hb)
         have z_HO997 := fun (h0_ : b 7 = true) => (show Kd.R (Kd.int .u64) 22 w14 w.heap.size (fun k_ => some k_ ≠ (.slice none 0 0 : Value).ownBlock) v996 y995 from by first | exact (Kd.R_elder' (st (Q_HO997 h0_)) (Kd.R_base ho15) hb) | exact Kd.R_mono (Kd.R_elder' (st (Q_HO997 h0_)) (Kd.R_base ho15) hb) (fun _ h_ => by first | trivial | exact h_ | exact h_.1))
         have z_HO1000 := fun (h0_ : b 8 = true) => (show Kd.R (Kd.int .u64) 22 w14 w.heap.size (fun k_ => some k_ ≠ (.slice none 0 0 : Value).ownBlock ∧ (b 17 = true → some k_ ≠ (v1007 : Value).ownBlock)) v999 t998 from by first | exact (Kd.R_elder' (st (Q_HO1000 h0_)) (Kd.R_base ho15) hb) | exact Kd.R_mono (Kd.R_elder' (st (Q_HO1000 h0_)) (Kd.R_base ho15) hb) (fun _ h_ => by first | trivial | exact h_ | exact h_.1))
         clear HO_6
         clear HB
         have HO_6 := n0_
         have HO1005 := n1_
         have HB := n2_
         clear n0_ n1_ n2_
         clear hb ho15
         refine hK.out _ _ ⟨v996, v999, v1004, v1007, m18_, m19_, (by rw [ha.out]; exact putSel_upk 12 hb_ rfl rfl rfl), (st (Kd.R_mono HO_6.out (fun _ hk => by first | exact hk.2 | trivial | (intro h_; cases h_) | exact ⟨(fun h_ => by cases h_), fun h0_ => absurd ((hoff 17 (by kernel_rfl)).symm.trans h0_) (by decide)⟩ | exact ⟨hk.1.1, fun _ => hk.2⟩ | exact ⟨hk.1.1.1.2, hk.1.2⟩ | exact hk.2 hb17_ | exact hk.2 | exact hk.1 | exact hk))), (bb HB.out), z_HO997, z_HO1000, fun _ => (st (Kd.R_mono HO1005.out (fun _ hk => by first | exact hk.2 | trivial | (intro h_; cases h_) | exact ⟨(fun h_ => by cases h_), fun h0_ => absurd ((hoff 17 (by kernel_rfl)).symm.trans h0_) (by decide)⟩ | exact ⟨hk.1.1, fun _ => hk.2⟩ | exact ⟨hk.1.1.1.2, hk.1.2⟩ | exact hk.2 hb17_ | exact hk.2 | exact hk.1 | exact hk))), fun h0_ => absurd ((hoff 17 (by kernel_rfl)).symm.trans h0_) (by decide), fun h0_ => absurd ((hoff 18 (by kernel_rfl)).symm.trans h0_) (by decide), fun h0_ => absurd ((hoff 19 (by kernel_rfl)).symm.trans h0_) (by decide)⟩
        refine steps_cons ?_ ?_
        ·rintro b a w' ⟨v996, v999, v1004, v1007, m18_, m19_, ha, Q_HO_6, Q_HB, Q_HO997, Q_HO1000, Q_HO1005, Q_HO1008, Q_X18_, Q_X19_⟩ hb_ hon hoff
         refine ⟨_, rfl, fun K hK => ?_⟩
         have e35 : a.tmps[35]? = some (v1004) := by rw [ha]; exact putSel_on (e := (16, 35, v1004)) 12 rfl rfl (hon 16 (by kernel_rfl)) rfl
         replace ha := Aside0.mk ha
         have HO_6 := Aside0.mk Q_HO_6
         have HB := Aside0.mk Q_HB
         have HO997 := Aside0.mk (Q_HO997 (hon 7 (by kernel_rfl)))
         have HO1000 := Aside0.mk (Q_HO1000 (hon 8 (by kernel_rfl)))
         have HO1005 := Aside0.mk (Q_HO1005 (hon 16 (by kernel_rfl)))
         obtain ⟨Ao21, co21, eo21⟩ := Kd.R_slice HO1005.out
         (first | subst eo21 | (injection eo21 with f1_ f2_ f3_; have f4_ := f1_.symm; have f5_ := f3_.symm; clear f1_ f2_ f3_; subst f4_; subst f5_))
         refine goes_ Try.func52 (by kernel_rfl) rfl #[.slice Ao21 y1003.length co21] (by rfl) rfl rfl (by (try simp only [List.map_toArray, List.map_cons, List.map_nil]); first | done | rfl | (simp only [List.length_drop, List.length_take]; rfl) | (go_simp; done) | (go_simp; rfl) | (simp only [*]; done)) ?_
         with_reducible refine (gradineref02_Trim.calls kj2 _ _ y1003 t1006 _ ?side1 ?side2 A12.out).mono ?_
         (case side1 => exact cs (Kd.R_reads' HO1005.out).2.2)
         (case side2 => exact (Kd.R_reads' HO1005.out).2.1)
         rintro e w22 ⟨v1007, rfl, ho0, hb⟩
         refine ⟨_, rfl, ?_⟩
         have n0_ := Aside0.mk (Kd.R_elder' (st HO_6.out) (Kd.R_base ho0) hb)
         have n1_ := Aside0.mk (Kd.R_elder' (st HO997.out) (Kd.R_base ho0) hb)
         have n2_ := Aside0.mk (Kd.R_elder' (st HO1000.out) (Kd.R_base ho0) hb)
         have n3_ := Aside0.mk (Kd.R_elder' (st HO1005.out) (Kd.R_base ho0) hb)
         have n4_ := Aside0.mk (Kd.R_lower (Kd.R_new' (Kd.R_new' (Kd.R_new' (Kd.R_new' ho0 (Kd.R_lt (st HO_6.out))) (Kd.R_lt (st HO997.out))) (Kd.R_lt (st HO1000.out))) (Kd.R_lt (st HO1005.out))) (below_size (bb HB.out)))
         have n5_ := Aside0.mk (below_step (bb HB.out) hb)
         clear HO_6
         clear HO997
         clear HO1000
         clear HO1005
         clear HB
         have HO_6 := n0_
         have HO997 := n1_
         have HO1000 := n2_
         have HO1005 := n3_
         have HO1008 := n4_
         have HB := n5_
         clear n0_ n1_ n2_ n3_ n4_ n5_
         (try clear hb)
         (try clear hb2)
         (try clear hk)
         (try clear hi)
         (try clear ho0)
         refine hK.out _ _ ⟨v996, v999, .slice Ao21 y1003.length co21, v1007, m18_, m19_, (by rw [ha.out]; exact putSel_upk 13 hb_ rfl rfl rfl), (st (Kd.R_mono HO_6.out (fun _ hk => by first | exact ⟨hk.1.1, ⟨hk.1.2.1, ⟨hk.2, hk.1.2.2⟩⟩⟩ | trivial | (intro h_; cases h_) | exact ⟨(fun h_ => by cases h_), fun h0_ => absurd ((hoff 17 (by kernel_rfl)).symm.trans h0_) (by decide)⟩ | exact ⟨hk.1.1, fun _ => hk.2⟩ | exact ⟨hk.1.1.1.2, hk.1.2⟩ | exact hk.2 hb17_ | exact hk.2 | exact hk.1 | exact hk))), (bb HB.out), fun _ => (st (Kd.R_mono HO997.out (fun _ hk => by first | exact ⟨hk.1.1, ⟨hk.1.2.1, ⟨hk.2, hk.1.2.2⟩⟩⟩ | trivial | (intro h_; cases h_) | exact ⟨(fun h_ => by cases h_), fun h0_ => absurd ((hoff 17 (by kernel_rfl)).symm.trans h0_) (by decide)⟩ | exact ⟨hk.1.1, fun _ => hk.2⟩ | exact ⟨hk.1.1.1.2, hk.1.2⟩ | exact hk.2 hb17_ | exact hk.2 | exact hk.1 | exact hk))), fun _ => (st (Kd.R_mono HO1000.out (fun _ hk => by first | exact ⟨hk.1.1, ⟨hk.2, ⟨hk.1.2.1, hk.1.2.2⟩⟩⟩ | trivial | (intro h_; cases h_) | exact ⟨(fun h_ => by cases h_), fun h0_ => absurd ((hoff 17 (by kernel_rfl)).symm.trans h0_) (by decide)⟩ | exact ⟨hk.1.1, fun _ => hk.2⟩ | exact ⟨hk.1.1.1.2, hk.1.2⟩ | exact hk.2 hb17_ | exact hk.2 | exact hk.1 | exact hk))), fun _ => (st (Kd.R_mono HO1005.out (fun _ hk => by first | exact ⟨hk.1.1, ⟨hk.2, ⟨hk.1.2.1, hk.1.2.2⟩⟩⟩ | trivial | (intro h_; cases h_) | exact ⟨(fun h_ => by cases h_), fun h0_ => absurd ((hoff 17 (by kernel_rfl)).symm.trans h0_) (by decide)⟩ | exact ⟨hk.1.1, fun _ => hk.2⟩ | exact ⟨hk.1.1.1.2, hk.1.2⟩ | exact hk.2 hb17_ | exact hk.2 | exact hk.1 | exact hk))), fun _ => (st (Kd.R_mono HO1008.out (fun _ hk => by first | exact ⟨hk.1.2, ⟨hk.2, ⟨hk.1.1.2, hk.1.1.1.2⟩⟩⟩ | trivial | (intro h_; cases h_) | exact ⟨(fun h_ => by cases h_), fun h0_ => absurd ((hoff 17 (by kernel_rfl)).symm.trans h0_) (by decide)⟩ | exact ⟨hk.1.1, fun _ => hk.2⟩ | exact ⟨hk.1.1.1.2, hk.1.2⟩ | exact hk.2 hb17_ | exact hk.2 | exact hk.1 | exact hk))), fun h0_ => absurd ((hoff 18 (by kernel_rfl)).symm.trans h0_) (by decide), fun h0_ => absurd ((hoff 19 (by kernel_rfl)).symm.trans h0_) (by decide)⟩
        refine steps_cons ?_ ?_
        ·rintro b a w' ⟨v996, v999, v1004, v1007, m18_, m19_, ha, Q_HO_6, Q_HB, Q_HO997, Q_HO1000, Q_HO1005, Q_HO1008, Q_X18_, Q_X19_⟩ hb_ hon hoff
         refine ⟨_, rfl, fun K hK => ?_⟩
         have e27 : a.tmps[27]? = some (v999) := by rw [ha]; exact putSel_on (e := (8, 27, v999)) 6 rfl rfl (hon 8 (by kernel_rfl)) rfl
         replace ha := Aside0.mk ha
         have HO_6 := Aside0.mk Q_HO_6
         have HB := Aside0.mk Q_HB
         have HO997 := Aside0.mk (Q_HO997 (hon 7 (by kernel_rfl)))
         have HO1000 := Aside0.mk (Q_HO1000 (hon 8 (by kernel_rfl)))
         have HO1005 := Aside0.mk (Q_HO1005 (hon 16 (by kernel_rfl)))
         have HO1008 := Aside0.mk (Q_HO1008 (hon 17 (by kernel_rfl)))
         refine value_ (w1 := w') (v := v999) (by rfl) rfl ?_ ?_
         ·go_simp
          (try simp only [i64_w])
          try rfl
         refine hK.out _ _ ⟨v996, v999, v1004, v1007, (v999), m19_, (by rw [ha.out]; exact putSel_upk 14 hb_ rfl rfl rfl), Q_HO_6, Q_HB, Q_HO997, Q_HO1000, Q_HO1005, Q_HO1008, fun _ => rfl, fun h0_ => absurd ((hoff 19 (by kernel_rfl)).symm.trans h0_) (by decide)⟩
        refine steps_cons ?_ ?_
        ·rintro b a w' ⟨v996, v999, v1004, v1007, m18_, m19_, ha, Q_HO_6, Q_HB, Q_HO997, Q_HO1000, Q_HO1005, Q_HO1008, Q_X18_, Q_X19_⟩ hb_ hon hoff
         refine ⟨_, rfl, fun K hK => ?_⟩
         have e36 : a.tmps[36]? = some (v1007) := by rw [ha]; exact putSel_on (e := (17, 36, v1007)) 13 rfl rfl (hon 17 (by kernel_rfl)) rfl
         replace ha := Aside0.mk ha
         have HO_6 := Aside0.mk Q_HO_6
         have HB := Aside0.mk Q_HB
         have HO997 := Aside0.mk (Q_HO997 (hon 7 (by kernel_rfl)))
         have HO1000 := Aside0.mk (Q_HO1000 (hon 8 (by kernel_rfl)))
         have HO1005 := Aside0.mk (Q_HO1005 (hon 16 (by kernel_rfl)))
         have HO1008 := Aside0.mk (Q_HO1008 (hon 17 (by kernel_rfl)))
         refine value_ (w1 := w') (v := v1007) (by rfl) rfl ?_ ?_
         ·go_simp
          (try simp only [i64_w])
          try rfl
         refine hK.out _ _ ⟨v996, v999, v1004, v1007, m18_, (v1007), (by rw [ha.out]; exact putSel_upk 15 hb_ rfl rfl rfl), Q_HO_6, Q_HB, Q_HO997, Q_HO1000, Q_HO1005, Q_HO1008, Q_X18_, fun _ => rfl⟩
        exact steps_nil
       rintro b a w22 hall ⟨v996, v999, v1004, v1007, m18_, m19_, ha, Q_HO_6, Q_HB, Q_HO997, Q_HO1000, Q_HO1005, Q_HO1008, Q_X18_, Q_X19_⟩
       clear HB HO_6
       have hb1_ := hall 1 (by kernel_rfl)
       have hb2_ := hall 2 (by kernel_rfl)
       have hb4_ := hall 4 (by kernel_rfl)
       have hb5_ := hall 5 (by kernel_rfl)
       have hb6_ := hall 6 (by kernel_rfl)
       have hb7_ := hall 7 (by kernel_rfl)
       have hb8_ := hall 8 (by kernel_rfl)
       have hb10_ := hall 10 (by kernel_rfl)
       have hb11_ := hall 11 (by kernel_rfl)
       have hb13_ := hall 13 (by kernel_rfl)
       have hb14_ := hall 14 (by kernel_rfl)
       have hb15_ := hall 15 (by kernel_rfl)
       have hb16_ := hall 16 (by kernel_rfl)
       have hb17_ := hall 17 (by kernel_rfl)
       have hb18_ := hall 18 (by kernel_rfl)
       have hb19_ := hall 19 (by kernel_rfl)
       subst ha
       obtain rfl := Q_X18_ hb18_
       obtain rfl := Q_X19_ hb19_
       simp only [putSel, hb1_, hb2_, hb4_, hb5_, hb6_, hb7_, hb8_, hb10_, hb11_, hb13_, hb14_, hb15_, hb16_, hb17_, hb18_, hb19_, if_true, Act.put, List.setIfInBounds_toArray, List.set_cons_zero, List.set_cons_succ]
       have HO_6 := Aside0.mk Q_HO_6
       clear Q_HO_6
       have HB := Aside0.mk Q_HB
       clear Q_HB
       have HO997 := Aside0.mk (Q_HO997 hb7_)
       clear Q_HO997
       have HO1000 := Aside0.mk (Kd.R_mono (Q_HO1000 hb8_) (fun _ hk_ => hk_.2 hb17_))
       clear Q_HO1000
       have HO1005 := Aside0.mk (Q_HO1005 hb16_)
       clear Q_HO1005
       have HO1008 := Aside0.mk (Q_HO1008 hb17_)
       clear Q_HO1008
       clear hall hb1_ hb2_ hb4_ hb5_ hb6_ hb7_ hb8_ hb10_ hb11_ hb13_ hb14_ hb15_ hb16_ hb17_ hb18_ hb19_
       try go_wp2
       go_ret2
       exact ⟨_, _, by first | rfl | (simp [errW_none, errW_some] <;> rfl) | (simp [*, errW_none, errW_some] <;> rfl), by (with_reducible repeat (first | apply Kd.R_alloc | apply Kd.R_drewN | apply Kd.R_drew)); exact Kd.R_mono HO1000.out (fun _ hk => by first | exact hk.2.1 | trivial | (intro h_; cases h_) | exact ⟨(fun h_ => by cases h_), fun h0_ => absurd ((hoff 17 (by kernel_rfl)).symm.trans h0_) (by decide)⟩ | exact ⟨hk.1.1, fun _ => hk.2⟩ | exact ⟨hk.1.1.1.2, hk.1.2⟩ | exact hk.2 hb17_ | exact hk.2 | exact hk.1 | exact hk), by (with_reducible repeat (first | apply Kd.R_alloc | apply Kd.R_drewN | apply Kd.R_drew)); exact Kd.R_mono HO1008.out (fun _ hk => by first | exact hk.1 | trivial | (intro h_; cases h_) | exact ⟨(fun h_ => by cases h_), fun h0_ => absurd ((hoff 17 (by kernel_rfl)).symm.trans h0_) (by decide)⟩ | exact ⟨hk.1.1, fun _ => hk.2⟩ | exact ⟨hk.1.1.1.2, hk.1.2⟩ | exact hk.2 hb17_ | exact hk.2 | exact hk.1 | exact hk), by repeat (first | (with_reducible first | exact HB.out | apply below_alloc | apply pw_below_drewN | apply below_drew1) | exact HB.out)⟩
     ·rw [if_neg c9] at H
      exact absurd H (by simp)
    ·rw [if_neg c8] at H
     exact absurd H (by simp)
   ·replace c7 := Bool.eq_false_iff.mpr c7
    subst c7
    have H1 : ((gradineref02_Bits.f kj2 l0).bind fun t1009 => ((gradineref02_Bits.f kj2 l1).bind fun t1010 => ((gradineref02_Shr.f kj2 l0 (mx 0 (wrap64 ((wrap64 (t1009 - t1010)) + 1)))).bind fun t1011 => (gradineref04_Div.l0 kj2 l0 l1 ([] : List Int) t1011 (wrap64 ((mx 0 (wrap64 ((wrap64 (t1009 - t1010)) + 1))) - 1)))))) = some (r1, r2) := by rw [if_neg (show ¬ (false = true) by decide)] at H; exact H
    clear H
    have H := H1
    clear H1
    replace H := Option.bind_eq_some_iff.mp H
    obtain ⟨t1009, A230, H⟩ := H
    replace H : ((gradineref02_Bits.f kj2 l1).bind fun t1010 => ((gradineref02_Shr.f kj2 l0 (mx 0 (wrap64 ((wrap64 (t1009 - t1010)) + 1)))).bind fun t1011 => (gradineref04_Div.l0 kj2 l0 l1 ([] : List Int) t1011 (wrap64 ((mx 0 (wrap64 ((wrap64 (t1009 - t1010)) + 1))) - 1))))) = some (r1, r2) := H
    have A23 := Aside0.mk A230
    clear A230
    replace H := Option.bind_eq_some_iff.mp H
    obtain ⟨t1010, A240, H⟩ := H
    replace H : ((gradineref02_Shr.f kj2 l0 (mx 0 (wrap64 ((wrap64 (t1009 - t1010)) + 1)))).bind fun t1011 => (gradineref04_Div.l0 kj2 l0 l1 ([] : List Int) t1011 (wrap64 ((mx 0 (wrap64 ((wrap64 (t1009 - t1010)) + 1))) - 1)))) = some (r1, r2) := H
    have A24 := Aside0.mk A240
    clear A240
    obtain ⟨ji25, hji25⟩ : ∃ j_ : Int, (mx 0 (wrap64 ((wrap64 (t1009 - t1010)) + 1))) = j_ := ⟨_, rfl⟩
    replace H : ((gradineref02_Shr.f kj2 l0 (ji25)).bind fun t1011 => (gradineref04_Div.l0 kj2 l0 l1 ([] : List Int) t1011 (wrap64 ((ji25) - 1)))) = some (r1, r2) := by first | (rw [hji25] at H; exact H) | (simp only [hji25] at H ⊢; exact H)
    (try rw [hji25] at A23)
    (try rw [hji25] at A24)
    (try (have hji25l : 0 ≤ ji25 := by (rw [← hji25]; unfold mx; (repeat' split) <;> omega)))
    (try (have hji25m : 0 ≤ ji25 := by omega))
    (try (have hji25t : ∀ m_ : Int, Int.tdiv ji25 m_ = ji25 / m_ := fun m_ => Int.tdiv_eq_ediv_of_nonneg (by omega)))
    have hji25_ : (if 0 < (wrap64 ((wrap64 (t1009 - t1010)) + 1)) then (wrap64 ((wrap64 (t1009 - t1010)) + 1)) else 0) = ji25 := hji25
    replace H := Option.bind_eq_some_iff.mp H
    obtain ⟨t1011, A260, H⟩ := H
    replace H : (gradineref04_Div.l0 kj2 l0 l1 ([] : List Int) t1011 (wrap64 ((ji25) - 1))) = some (r1, r2) := H
    have A26 := Aside0.mk A260
    clear A260
    have H' := Aside0.mk H
    clear H
    go_wp2_with (first | ((with_reducible refine gate_callee (f := 58) rfl ?_); refine goesL_ (some 38) rfl rfl Try.func58 (by kernel_rfl) rfl #[.slice A0 l0.length c0] rfl (by (try simp only [List.map_toArray, List.map_cons, List.map_nil]); first | done | rfl | (simp only [List.length_drop, List.length_take]; rfl) | (go_simp; done) | (go_simp; rfl) | (simp only [*]; done)) ?_; (with_reducible refine (gradineref02_Bits.calls kj2 _ _ l0 t1009 _ ?side1 ?side2 A23.out).mono ?_); (case side1 => exact cs (Kd.C_below HR0.out HB.out)); (case side2 => exact HC0.out); rintro e w' ⟨rfl, ⟨nd, rfl⟩⟩; refine ⟨_, rfl, ?_⟩) | ((with_reducible refine gate_callee (f := 58) rfl ?_); refine goesL_ (some 41) rfl rfl Try.func58 (by kernel_rfl) rfl #[.slice A1 l1.length c1] rfl (by (try simp only [List.map_toArray, List.map_cons, List.map_nil]); first | done | rfl | (simp only [List.length_drop, List.length_take]; rfl) | (go_simp; done) | (go_simp; rfl) | (simp only [*]; done)) ?_; (with_reducible refine (gradineref02_Bits.calls kj2 _ _ l1 t1010 _ ?side1 ?side2 A24.out).mono ?_); (case side1 => repeat (first | exact (Kd.C_below HR1.out (bb HB.out)) | (with_reducible refine Kd.C_alloc ?_ _) | (with_reducible refine Kd.C_drewN ?_ _) | (with_reducible refine Kd.C_drew ?_))); (case side2 => exact HC1.out); rintro e w' ⟨rfl, ⟨nd, rfl⟩⟩; refine ⟨_, rfl, ?_⟩) | ((with_reducible refine gate_callee (f := 67) rfl ?_); refine goesL_ (some 47) rfl rfl Try.func67 (by kernel_rfl) rfl #[.slice A0 l0.length c0, .int .i64 ji25] rfl (by (try simp only [List.map_toArray, List.map_cons, List.map_nil]); first | done | (simp only [hji25]; rfl) | rfl | (simp only [List.length_drop, List.length_take]; rfl) | (go_simp; done) | (go_simp; rfl) | (simp only [*]; done)) ?_; (with_reducible refine (gradineref02_Shr.calls kj2 _ _ l0 ji25 t1011 _ ?side1 ?side2 A26.out).mono ?_); (case side1 => repeat (first | exact (Kd.C_below HR0.out (bb HB.out)) | (with_reducible refine Kd.C_alloc ?_ _) | (with_reducible refine Kd.C_drewN ?_ _) | (with_reducible refine Kd.C_drew ?_))); (case side2 => exact HC0.out); rintro e w27 ⟨v1012, rfl, ho0, hb⟩; refine ⟨_, rfl, ?_⟩; have n0_ := Aside0.mk (Kd.R_elder' (st HO_6.out) (Kd.R_base ho0) hb); have n1_ := Aside0.mk (Kd.R_lower (Kd.R_new' ho0 (Kd.R_lt (st HO_6.out))) (below_size (bb HB.out))); have n2_ := Aside0.mk (below_step (bb HB.out) hb); clear HO_6; clear HB; have HO_6 := n0_; have HO1013 := n1_; have HB := n2_; clear n0_ n1_ n2_))
    go_loopg [6, 7, 10] kj2 (fun kq v6 v7 v10 w' => ∃ (x6_2 : List Int) (x7_2 : List Int) (x10_2 : Int), v10 = .int .i64 x10_2 ∧ Aside0 (gradineref04_Div.l0 kq l0 l1 x6_2 x7_2 x10_2 = some (r1, r2)) ∧ Aside0 (kq ≤ kj2) ∧ Aside0 (Kd.R (Kd.int .u64) 22 w' w.heap.size (fun k_ => some k_ ≠ (v7 : Value).ownBlock) v6 x6_2) ∧ Aside0 (Kd.R (Kd.int .u64) 22 w' w.heap.size (fun k_ => some k_ ≠ (v6 : Value).ownBlock) v7 x7_2) ∧ Aside0 (Below w.heap.size w w'))
    case atStart => exact ⟨(([] : List Int)), (t1011), (wrap64 ((ji25) - 1)), (by first | rfl | (simp; done) | (simp only [← hji25] <;> (first | rfl | simp)) | (simp [*]; done)), H', ⟨Nat.le_refl _⟩, ⟨by (with_reducible repeat (first | apply Kd.R_alloc | apply Kd.R_drewN | apply Kd.R_drew)); exact Kd.R_mono HO_6.out (fun _ hk => by first | exact hk.2 | trivial | (intro h_; cases h_) | exact ⟨(fun h_ => by cases h_), fun h0_ => absurd ((hoff 17 (by kernel_rfl)).symm.trans h0_) (by decide)⟩ | exact ⟨hk.1.1, fun _ => hk.2⟩ | exact ⟨hk.1.1.1.2, hk.1.2⟩ | exact hk.2 hb17_ | exact hk.2 | exact hk.1 | exact hk)⟩, ⟨by (with_reducible repeat (first | apply Kd.R_alloc | apply Kd.R_drewN | apply Kd.R_drew)); exact Kd.R_mono HO1013.out (fun _ hk => by first | exact hk.2 | trivial | (intro h_; cases h_) | exact ⟨(fun h_ => by cases h_), fun h0_ => absurd ((hoff 17 (by kernel_rfl)).symm.trans h0_) (by decide)⟩ | exact ⟨hk.1.1, fun _ => hk.2⟩ | exact ⟨hk.1.1.1.2, hk.1.2⟩ | exact hk.2 hb17_ | exact hk.2 | exact hk.1 | exact hk)⟩, ⟨bb HB.out⟩⟩
    case round =>
     clear H'
     try clear c1
     try clear p1
     try clear q1
     try clear hx1
     try clear qi1
     try clear p2
     try clear c5
     try clear c5b0
     try clear c5b1
     try clear c6
     try clear p6
     try clear c7
     try clear c8
     try clear c8b0
     try clear c8b1
     try clear c9
     try clear c9b0
     try clear c9b1
     try clear p9
     try clear q9
     try clear hx9
     try clear qi9
     try clear c10
     try clear c10b0
     try clear c10b1
     try clear p10
     try clear q10
     try clear hx10
     try clear qi10
     try clear hx1001_0
     try clear hx1002_0
     try clear hx993_0
     try clear hx994_0
     try clear p1001
     try clear p1002
     try clear p2
     try clear p993
     try clear p994
     try clear q1001
     try clear q1002
     try clear q993
     try clear q994
     obtain ⟨x6_2, x7_2, x10_2, rfl, HA, HK2, HO_6, HO_7, HB⟩ := hrel
     cases gk with
     | zero => exact absurd HA.out (by simp [gradineref04_Div.l0])
     | succ k2 =>
      have H := HA.out
      clear HA
      simp only [gradineref04_Div.l0] at H
      by_cases c28 : x10_2 ≥ 0
      ·rw [if_pos c28] at H
       have c28b0 : decide (0 ≤ x10_2) = true := decide_eq_true c28
       clear c28
       replace H := Option.bind_eq_some_iff.mp H
       obtain ⟨t1020, A290, H⟩ := H
       replace H : ((gradineref02_Bit.f l0 x10_2).bind fun t1023 => (if t1023 = true then ((gradineref04_set.f k2 t1020 0).bind fun t1024 => (gradineref04_Div.j2 k2 l0 l1 x6_2 t1024 x10_2)) else (gradineref04_Div.j2 k2 l0 l1 x6_2 t1020 x10_2))) = some (r1, r2) := H
       have A29 := Aside0.mk A290
       clear A290
       replace H := Option.bind_eq_some_iff.mp H
       obtain ⟨t1023, A300, H⟩ := H
       replace H : (if t1023 = true then ((gradineref04_set.f k2 t1020 0).bind fun t1024 => (gradineref04_Div.j2 k2 l0 l1 x6_2 t1024 x10_2)) else (gradineref04_Div.j2 k2 l0 l1 x6_2 t1020 x10_2)) = some (r1, r2) := H
       have A30 := Aside0.mk A300
       clear A300
       have HC31 := Aside0.mk H
       clear H
       obtain ⟨Ao32, co32, eo32⟩ := Kd.R_slice HO_7.out
       subst eo32
       go_upto_if 58 with (first | ((with_reducible refine gate_callee (f := 66) rfl ?_); refine goesL_ (some 55) rfl rfl Try.func66 (by kernel_rfl) rfl #[.slice Ao32 x7_2.length co32, .int .i64 1] rfl (by (try simp only [List.map_toArray, List.map_cons, List.map_nil]); first | done | rfl | (simp only [List.length_drop, List.length_take]; rfl) | (go_simp; done) | (go_simp; rfl) | (simp only [*]; done)) ?_; (with_reducible refine (gradineref02_Shl.calls k2 _ _ x7_2 1 t1020 _ ?side1 ?side2 A29.out).mono ?_); (case side1 => exact cs (Kd.R_reads' HO_7.out).2.2); (case side2 => exact (Kd.R_reads' HO_7.out).2.1); rintro e w33 ⟨v1021, rfl, ho0, hb⟩; refine ⟨_, rfl, ?_⟩; have n0_ := Aside0.mk (Kd.R_elder' (st HO_6.out) (Kd.R_base ho0) hb); have n1_ := Aside0.mk (Kd.R_elder' (st HO_7.out) (Kd.R_base ho0) hb); have n2_ := Aside0.mk (Kd.R_lower (Kd.R_new' (Kd.R_new' ho0 (Kd.R_lt (st HO_6.out))) (Kd.R_lt (st HO_7.out))) (below_size (bb HB.out))); have n3_ := Aside0.mk (below_step (bb HB.out) hb); clear HO_6; clear HO_7; clear HB; have HO_6 := n0_; have HO_7 := n1_; have HO1022 := n2_; have HB := n3_; clear n0_ n1_ n2_ n3_) | ((with_reducible refine gate_callee (f := 60) rfl ?_); refine goesL_ (some 58) rfl rfl Try.func60 (by kernel_rfl) rfl #[.slice A0 l0.length c0, .int .i64 x10_2] rfl (by (try simp only [List.map_toArray, List.map_cons, List.map_nil]); first | done | rfl | (simp only [List.length_drop, List.length_take]; rfl) | (go_simp; done) | (go_simp; rfl) | (simp only [*]; done)) ?_; (with_reducible refine (gradineref02_Bit.calls _ _ l0 x10_2 t1023 _ ?side1 ?side2 A30.out).mono ?_); (case side1 => exact cs (Kd.C_below HR0.out HB.out)); (case side2 => exact HC0.out); rintro e w' ⟨rfl, ⟨nd, rfl⟩⟩; refine ⟨_, rfl, ?_⟩))
       (try simp only [Act.put, List.setIfInBounds_toArray, List.set_cons_zero, List.set_cons_succ])
       go_cut [7] (fun v7 wc => ∃ (kq : Nat) (x7_30 : List Int), Aside0 (gradineref04_Div.j2 kq l0 l1 x6_2 x7_30 x10_2 = some (r1, r2)) ∧ Aside0 (kq ≤ k2) ∧ Aside0 (Kd.R (Kd.int .u64) 22 wc w.heap.size (fun k_ => some k_ ≠ (v7 : Value).ownBlock) u6 x6_2) ∧ Aside0 (Kd.R (Kd.int .u64) 22 wc w.heap.size (fun k_ => some k_ ≠ (u6 : Value).ownBlock) v7 x7_30) ∧ Aside0 (Below w.heap.size w wc))
       case first =>
        have H := HC31.out
        clear HC31
        by_cases c34 : t1023 = true
        ·subst c34
         have H1 : ((gradineref04_set.f k2 t1020 0).bind fun t1024 => (gradineref04_Div.j2 k2 l0 l1 x6_2 t1024 x10_2)) = some (r1, r2) := by rw [if_pos rfl] at H; exact H
         clear H
         have H := H1
         clear H1
         replace H := Option.bind_eq_some_iff.mp H
         obtain ⟨t1024, A350, H⟩ := H
         replace H : (gradineref04_Div.j2 k2 l0 l1 x6_2 t1024 x10_2) = some (r1, r2) := H
         have A35 := Aside0.mk A350
         clear A350
         have H' := Aside0.mk H
         clear H
         obtain ⟨Ao36, co36, eo36⟩ := Kd.R_slice HO1022.out
         subst eo36
         go_wp2_with (first | ((with_reducible refine gate_callee (f := 151) rfl ?_); refine goesL_ (some 60) rfl rfl Try.func151 (by kernel_rfl) rfl #[.slice Ao36 t1020.length co36, .int .i64 0] rfl (by (try simp only [List.map_toArray, List.map_cons, List.map_nil]); first | done | rfl | (simp only [List.length_drop, List.length_take]; rfl) | (go_simp; done) | (go_simp; rfl) | (simp only [*]; done)) ?_; (with_reducible refine (gradineref04_set.calls k2 _ _ t1020 0 t1024 _ ?side1 ?side2 A35.out).mono ?_); (case side1 => exact cs (Kd.R_reads' HO1022.out).2.2); (case side2 => exact (Kd.R_reads' HO1022.out).2.1); rintro e w37 ⟨v1025, rfl, ho0, hb⟩; refine ⟨_, rfl, ?_⟩; have n0_ := Aside0.mk (Kd.R_elder' (st HO_6.out) (Kd.R_base ho0) hb); have n1_ := Aside0.mk (Kd.R_elder' (st HO_7.out) (Kd.R_base ho0) hb); have n2_ := Aside0.mk (Kd.R_elder' (st HO1022.out) (Kd.R_base ho0) hb); have n3_ := Aside0.mk (Kd.R_lower (Kd.R_new' (Kd.R_new' (Kd.R_new' ho0 (Kd.R_lt (st HO_6.out))) (Kd.R_lt (st HO_7.out))) (Kd.R_lt (st HO1022.out))) (below_size (bb HB.out))); have n4_ := Aside0.mk (below_step (bb HB.out) hb); clear HO_6; clear HO_7; clear HO1022; clear HB; have HO_6 := n0_; have HO_7 := n1_; have HO1022 := n2_; have HO1026 := n3_; have HB := n4_; clear n0_ n1_ n2_ n3_ n4_))
         go_meet
         case rel => exact ⟨_, (t1024), H', ⟨by have := HJ2.out; have := HK2.out; first | omega | exact Nat.le_refl _⟩, ⟨by (with_reducible repeat (first | apply Kd.R_alloc | apply Kd.R_drewN | apply Kd.R_drew)); exact Kd.R_mono HO_6.out (fun _ hk => by first | exact hk.2 | trivial | (intro h_; cases h_) | exact ⟨(fun h_ => by cases h_), fun h0_ => absurd ((hoff 17 (by kernel_rfl)).symm.trans h0_) (by decide)⟩ | exact ⟨hk.1.1, fun _ => hk.2⟩ | exact ⟨hk.1.1.1.2, hk.1.2⟩ | exact hk.2 hb17_ | exact hk.2 | exact hk.1 | exact hk)⟩, ⟨by (with_reducible repeat (first | apply Kd.R_alloc | apply Kd.R_drewN | apply Kd.R_drew)); exact Kd.R_mono HO1026.out (fun _ hk => by first | exact hk.1.1.2 | trivial | (intro h_; cases h_) | exact ⟨(fun h_ => by cases h_), fun h0_ => absurd ((hoff 17 (by kernel_rfl)).symm.trans h0_) (by decide)⟩ | exact ⟨hk.1.1, fun _ => hk.2⟩ | exact ⟨hk.1.1.1.2, hk.1.2⟩ | exact hk.2 hb17_ | exact hk.2 | exact hk.1 | exact hk)⟩, ⟨bb HB.out⟩⟩
        ·replace c34 := Bool.eq_false_iff.mpr c34
         subst c34
         have H1 : (gradineref04_Div.j2 k2 l0 l1 x6_2 t1020 x10_2) = some (r1, r2) := by rw [if_neg (show ¬ (false = true) by decide)] at H; exact H
         clear H
         have H := H1
         clear H1
         have H' := Aside0.mk H
         clear H
         go_wp2
         go_meet
         case rel => exact ⟨_, (t1020), H', ⟨by have := HJ2.out; have := HK2.out; first | omega | exact Nat.le_refl _⟩, ⟨by (with_reducible repeat (first | apply Kd.R_alloc | apply Kd.R_drewN | apply Kd.R_drew)); exact Kd.R_mono HO_6.out (fun _ hk => by first | exact hk.2 | trivial | (intro h_; cases h_) | exact ⟨(fun h_ => by cases h_), fun h0_ => absurd ((hoff 17 (by kernel_rfl)).symm.trans h0_) (by decide)⟩ | exact ⟨hk.1.1, fun _ => hk.2⟩ | exact ⟨hk.1.1.1.2, hk.1.2⟩ | exact hk.2 hb17_ | exact hk.2 | exact hk.1 | exact hk)⟩, ⟨by (with_reducible repeat (first | apply Kd.R_alloc | apply Kd.R_drewN | apply Kd.R_drew)); exact Kd.R_mono HO1022.out (fun _ hk => by first | exact hk.1.2 | trivial | (intro h_; cases h_) | exact ⟨(fun h_ => by cases h_), fun h0_ => absurd ((hoff 17 (by kernel_rfl)).symm.trans h0_) (by decide)⟩ | exact ⟨hk.1.1, fun _ => hk.2⟩ | exact ⟨hk.1.1.1.2, hk.1.2⟩ | exact hk.2 hb17_ | exact hk.2 | exact hk.1 | exact hk)⟩, ⟨bb HB.out⟩⟩
       case rest =>
        clear HC31
        try clear c1
        try clear p1
        try clear q1
        try clear hx1
        try clear qi1
        try clear c2
        try clear p2
        try clear c3
        try clear c5
        try clear c5b0
        try clear c5b1
        try clear c6
        try clear p6
        try clear c7
        try clear c8
        try clear c8b0
        try clear c8b1
        try clear c9
        try clear c9b0
        try clear c9b1
        try clear p9
        try clear q9
        try clear hx9
        try clear qi9
        try clear c10
        try clear c10b0
        try clear c10b1
        try clear p10
        try clear q10
        try clear hx10
        try clear qi10
        try clear c15
        try clear c28
        try clear c28b0
        try clear c34
        try clear hx1001_0
        try clear hx1002_0
        try clear hx993_0
        try clear hx994_0
        try clear p1
        try clear p10
        try clear p1001
        try clear p1002
        try clear p2
        try clear p6
        try clear p9
        try clear p993
        try clear p994
        try clear q1
        try clear q10
        try clear q1001
        try clear q1002
        try clear q9
        try clear q993
        try clear q994
        obtain ⟨kq, x7_30, HA, HJ30, HO_6, HO_7, HB⟩ := hcut
        cases kq with
        | zero => exact absurd HA.out (by simp [gradineref04_Div.j2])
        | succ kj30 =>
         have H := HA.out
         clear HA
         simp only [gradineref04_Div.j2] at H
         replace H := Option.bind_eq_some_iff.mp H
         obtain ⟨t1027, A380, H⟩ := H
         replace H : (if t1027 ≥ 0 then ((gradineref02_Sub.f kj30 x7_30 l1).bind fun t1028 => ((gradineref04_set.f kj30 x6_2 x10_2).bind fun t1031 => (gradineref04_Div.l0 kj30 l0 l1 t1031 t1028 (wrap64 (x10_2 - 1))))) else (gradineref04_Div.l0 kj30 l0 l1 x6_2 x7_30 (wrap64 (x10_2 - 1)))) = some (r1, r2) := H
         have A38 := Aside0.mk A380
         clear A380
         by_cases c39 : t1027 ≥ 0
         ·rw [if_pos c39] at H
          have c39b0 : decide (0 ≤ t1027) = true := decide_eq_true c39
          clear c39
          replace H := Option.bind_eq_some_iff.mp H
          obtain ⟨t1028, A400, H⟩ := H
          replace H : ((gradineref04_set.f kj30 x6_2 x10_2).bind fun t1031 => (gradineref04_Div.l0 kj30 l0 l1 t1031 t1028 (wrap64 (x10_2 - 1)))) = some (r1, r2) := H
          have A40 := Aside0.mk A400
          clear A400
          replace H := Option.bind_eq_some_iff.mp H
          obtain ⟨t1031, A410, H⟩ := H
          replace H : (gradineref04_Div.l0 kj30 l0 l1 t1031 t1028 (wrap64 (x10_2 - 1))) = some (r1, r2) := H
          have A41 := Aside0.mk A410
          clear A410
          have H' := Aside0.mk H
          clear H
          obtain ⟨Ao42, co42, eo42⟩ := Kd.R_slice HO_7.out
          subst eo42
          go_wp2_with (first | ((with_reducible refine gate_callee (f := 57) rfl ?_); refine goesL_ (some 63) rfl rfl Try.func57 (by kernel_rfl) rfl #[.slice Ao42 x7_30.length co42, .slice A1 l1.length c1] rfl (by (try simp only [List.map_toArray, List.map_cons, List.map_nil]); first | done | rfl | (simp only [List.length_drop, List.length_take]; rfl) | (go_simp; done) | (go_simp; rfl) | (simp only [*]; done)) ?_; (with_reducible refine (gradineref02_Cmp.calls kj30 _ _ x7_30 _ _ l1 t1027 _ ?side1 ?side2 ?side3 ?side4 A38.out).mono ?_); (case side1 => exact cs (Kd.R_reads' HO_7.out).2.2); (case side2 => exact (Kd.R_reads' HO_7.out).2.1); (case side3 => exact cs (Kd.C_below HR1.out HB.out)); (case side4 => exact HC1.out); rintro e w43 ⟨rfl, hb⟩; refine ⟨_, rfl, ?_⟩; have n0_ := Aside0.mk (Kd.R_below (st HO_6.out) hb); have n1_ := Aside0.mk (Kd.R_below (st HO_7.out) hb); have n2_ := Aside0.mk (below_step (bb HB.out) hb); clear HO_6; clear HO_7; clear HB; have HO_6 := n0_; have HO_7 := n1_; have HB := n2_; clear n0_ n1_ n2_) | ((with_reducible refine gate_callee (f := 64) rfl ?_); refine goesL_ (some 67) rfl rfl Try.func64 (by kernel_rfl) rfl #[.slice Ao42 x7_30.length co42, .slice A1 l1.length c1] rfl (by (try simp only [List.map_toArray, List.map_cons, List.map_nil]); first | done | rfl | (simp only [List.length_drop, List.length_take]; rfl) | (go_simp; done) | (go_simp; rfl) | (simp only [*]; done)) ?_; (with_reducible refine (gradineref02_Sub.calls kj30 _ _ x7_30 _ _ l1 t1028 _ ?side1 ?side2 ?side3 ?side4 A40.out).mono ?_); (case side1 => exact cs (Kd.R_reads' HO_7.out).2.2); (case side2 => exact (Kd.R_reads' HO_7.out).2.1); (case side3 => exact cs (Kd.C_below HR1.out HB.out)); (case side4 => exact HC1.out); rintro e w44 ⟨v1029, rfl, ho0, hb⟩; refine ⟨_, rfl, ?_⟩; have n0_ := Aside0.mk (Kd.R_elder' (st HO_6.out) (Kd.R_base ho0) hb); have n1_ := Aside0.mk (Kd.R_elder' (st HO_7.out) (Kd.R_base ho0) hb); have n2_ := Aside0.mk (Kd.R_lower (Kd.R_new' (Kd.R_new' ho0 (Kd.R_lt (st HO_6.out))) (Kd.R_lt (st HO_7.out))) (below_size (bb HB.out))); have n3_ := Aside0.mk (below_step (bb HB.out) hb); clear HO_6; clear HO_7; clear HB; have HO_6 := n0_; have HO_7 := n1_; have HO1030 := n2_; have HB := n3_; clear n0_ n1_ n2_ n3_; (try clear hb); (try clear hb2); (try clear hk); (try clear hi); (try clear ho0); obtain ⟨Ao45, co45, eo45⟩ := Kd.R_slice HO_6.out; subst eo45) | ((with_reducible refine gate_callee (f := 151) rfl ?_); refine goesL_ (some 70) rfl rfl Try.func151 (by kernel_rfl) rfl #[.slice Ao45 x6_2.length co45, .int .i64 x10_2] rfl (by (try simp only [List.map_toArray, List.map_cons, List.map_nil]); first | done | rfl | (simp only [List.length_drop, List.length_take]; rfl) | (go_simp; done) | (go_simp; rfl) | (simp only [*]; done)) ?_; (with_reducible refine (gradineref04_set.calls kj30 _ _ x6_2 x10_2 t1031 _ ?side1 ?side2 A41.out).mono ?_); (case side1 => exact cs (Kd.R_reads' HO_6.out).2.2); (case side2 => exact (Kd.R_reads' HO_6.out).2.1); rintro e w46 ⟨v1032, rfl, ho0, hb⟩; refine ⟨_, rfl, ?_⟩; have n0_ := Aside0.mk (Kd.R_elder' (st HO_6.out) (Kd.R_base ho0) hb); have n1_ := Aside0.mk (Kd.R_elder' (st HO_7.out) (Kd.R_base ho0) hb); have n2_ := Aside0.mk (Kd.R_elder' (st HO1030.out) (Kd.R_base ho0) hb); have n3_ := Aside0.mk (Kd.R_lower (Kd.R_new' (Kd.R_new' (Kd.R_new' ho0 (Kd.R_lt (st HO_6.out))) (Kd.R_lt (st HO_7.out))) (Kd.R_lt (st HO1030.out))) (below_size (bb HB.out))); have n4_ := Aside0.mk (below_step (bb HB.out) hb); clear HO_6; clear HO_7; clear HO1030; clear HB; have HO_6 := n0_; have HO_7 := n1_; have HO1030 := n2_; have HO1033 := n3_; have HB := n4_; clear n0_ n1_ n2_ n3_ n4_))
          go_roundg kj30
          case measure => have := HJ2.out; have := HK2.out; have := HJ30.out; omega
          case rel => exact ⟨(t1031), (t1028), (wrap64 (x10_2 - 1)), (by first | rfl | (simp; done) | (simp [*]; done)), H', ⟨by have := HJ2.out; have := HK2.out; have := HJ30.out; omega⟩, ⟨by (with_reducible repeat (first | apply Kd.R_alloc | apply Kd.R_drewN | apply Kd.R_drew)); exact Kd.R_mono HO1033.out (fun _ hk => by first | exact hk.2 | trivial | (intro h_; cases h_) | exact ⟨(fun h_ => by cases h_), fun h0_ => absurd ((hoff 17 (by kernel_rfl)).symm.trans h0_) (by decide)⟩ | exact ⟨hk.1.1, fun _ => hk.2⟩ | exact ⟨hk.1.1.1.2, hk.1.2⟩ | exact hk.2 hb17_ | exact hk.2 | exact hk.1 | exact hk)⟩, ⟨by (with_reducible repeat (first | apply Kd.R_alloc | apply Kd.R_drewN | apply Kd.R_drew)); exact Kd.R_mono HO1030.out (fun _ hk => by first | exact hk.2 | trivial | (intro h_; cases h_) | exact ⟨(fun h_ => by cases h_), fun h0_ => absurd ((hoff 17 (by kernel_rfl)).symm.trans h0_) (by decide)⟩ | exact ⟨hk.1.1, fun _ => hk.2⟩ | exact ⟨hk.1.1.1.2, hk.1.2⟩ | exact hk.2 hb17_ | exact hk.2 | exact hk.1 | exact hk)⟩, ⟨bb HB.out⟩⟩
         ·rw [if_neg c39] at H
          have c39b0 : decide (0 ≤ t1027) = false := decide_eq_false c39
          clear c39
          have H' := Aside0.mk H
          clear H
          obtain ⟨Ao47, co47, eo47⟩ := Kd.R_slice HO_7.out
          subst eo47
          go_wp2_with (first | ((with_reducible refine gate_callee (f := 57) rfl ?_); refine goesL_ (some 63) rfl rfl Try.func57 (by kernel_rfl) rfl #[.slice Ao47 x7_30.length co47, .slice A1 l1.length c1] rfl (by (try simp only [List.map_toArray, List.map_cons, List.map_nil]); first | done | rfl | (simp only [List.length_drop, List.length_take]; rfl) | (go_simp; done) | (go_simp; rfl) | (simp only [*]; done)) ?_; (with_reducible refine (gradineref02_Cmp.calls kj30 _ _ x7_30 _ _ l1 t1027 _ ?side1 ?side2 ?side3 ?side4 A38.out).mono ?_); (case side1 => exact cs (Kd.R_reads' HO_7.out).2.2); (case side2 => exact (Kd.R_reads' HO_7.out).2.1); (case side3 => exact cs (Kd.C_below HR1.out HB.out)); (case side4 => exact HC1.out); rintro e w48 ⟨rfl, hb⟩; refine ⟨_, rfl, ?_⟩; have n0_ := Aside0.mk (Kd.R_below (st HO_6.out) hb); have n1_ := Aside0.mk (Kd.R_below (st HO_7.out) hb); have n2_ := Aside0.mk (below_step (bb HB.out) hb); clear HO_6; clear HO_7; clear HB; have HO_6 := n0_; have HO_7 := n1_; have HB := n2_; clear n0_ n1_ n2_))
          go_roundg kj30
          case measure => have := HJ2.out; have := HK2.out; have := HJ30.out; omega
          case rel => exact ⟨(x6_2), (x7_30), (wrap64 (x10_2 - 1)), (by first | rfl | (simp; done) | (simp [*]; done)), H', ⟨by have := HJ2.out; have := HK2.out; have := HJ30.out; omega⟩, ⟨by (with_reducible repeat (first | apply Kd.R_alloc | apply Kd.R_drewN | apply Kd.R_drew)); exact HO_6.out⟩, ⟨by (with_reducible repeat (first | apply Kd.R_alloc | apply Kd.R_drewN | apply Kd.R_drew)); exact HO_7.out⟩, ⟨bb HB.out⟩⟩
      ·rw [if_neg c28] at H
       have c28b0 : decide (0 ≤ x10_2) = false := decide_eq_false c28
       clear c28
       replace H := Option.bind_eq_some_iff.mp H
       obtain ⟨t1014, A490, H⟩ := H
       replace H : ((gradineref02_Trim.f k2 x7_2).bind fun t1017 => (some (t1014, t1017))) = some (r1, r2) := H
       have A49 := Aside0.mk A490
       clear A490
       replace H := Option.bind_eq_some_iff.mp H
       obtain ⟨t1017, A500, H⟩ := H
       replace H : (some (t1014, t1017)) = some (r1, r2) := H
       have A50 := Aside0.mk A500
       clear A500
       simp only [Option.some.injEq, Prod.mk.injEq] at H
       obtain ⟨rfl, rfl⟩ := H
       obtain ⟨Ao51, co51, eo51⟩ := Kd.R_slice HO_6.out
       subst eo51
       go_wp2_with (first | ((with_reducible refine gate_callee (f := 52) rfl ?_); refine goesL_ (some 72) rfl rfl Try.func52 (by kernel_rfl) rfl #[.slice Ao51 x6_2.length co51] rfl (by (try simp only [List.map_toArray, List.map_cons, List.map_nil]); first | done | rfl | (simp only [List.length_drop, List.length_take]; rfl) | (go_simp; done) | (go_simp; rfl) | (simp only [*]; done)) ?_; (with_reducible refine (gradineref02_Trim.calls k2 _ _ x6_2 t1014 _ ?side1 ?side2 A49.out).mono ?_); (case side1 => exact cs (Kd.R_reads' HO_6.out).2.2); (case side2 => exact (Kd.R_reads' HO_6.out).2.1); rintro e w52 ⟨v1015, rfl, ho0, hb⟩; refine ⟨_, rfl, ?_⟩; have n0_ := Aside0.mk (Kd.R_elder' (st HO_6.out) (Kd.R_base ho0) hb); have n1_ := Aside0.mk (Kd.R_elder' (st HO_7.out) (Kd.R_base ho0) hb); have n2_ := Aside0.mk (Kd.R_lower (Kd.R_new' (Kd.R_new' ho0 (Kd.R_lt (st HO_6.out))) (Kd.R_lt (st HO_7.out))) (below_size (bb HB.out))); have n3_ := Aside0.mk (below_step (bb HB.out) hb); clear HO_6; clear HO_7; clear HB; have HO_6 := n0_; have HO_7 := n1_; have HO1016 := n2_; have HB := n3_; clear n0_ n1_ n2_ n3_; (try clear hb); (try clear hb2); (try clear hk); (try clear hi); (try clear ho0); obtain ⟨Ao53, co53, eo53⟩ := Kd.R_slice HO_7.out; subst eo53) | ((with_reducible refine gate_callee (f := 52) rfl ?_); refine goesL_ (some 74) rfl rfl Try.func52 (by kernel_rfl) rfl #[.slice Ao53 x7_2.length co53] rfl (by (try simp only [List.map_toArray, List.map_cons, List.map_nil]); first | done | rfl | (simp only [List.length_drop, List.length_take]; rfl) | (go_simp; done) | (go_simp; rfl) | (simp only [*]; done)) ?_; (with_reducible refine (gradineref02_Trim.calls k2 _ _ x7_2 t1017 _ ?side1 ?side2 A50.out).mono ?_); (case side1 => exact cs (Kd.R_reads' HO_7.out).2.2); (case side2 => exact (Kd.R_reads' HO_7.out).2.1); rintro e w54 ⟨v1018, rfl, ho0, hb⟩; refine ⟨_, rfl, ?_⟩; have n0_ := Aside0.mk (Kd.R_elder' (st HO_6.out) (Kd.R_base ho0) hb); have n1_ := Aside0.mk (Kd.R_elder' (st HO_7.out) (Kd.R_base ho0) hb); have n2_ := Aside0.mk (Kd.R_elder' (st HO1016.out) (Kd.R_base ho0) hb); have n3_ := Aside0.mk (Kd.R_lower (Kd.R_new' (Kd.R_new' (Kd.R_new' ho0 (Kd.R_lt (st HO_6.out))) (Kd.R_lt (st HO_7.out))) (Kd.R_lt (st HO1016.out))) (below_size (bb HB.out))); have n4_ := Aside0.mk (below_step (bb HB.out) hb); clear HO_6; clear HO_7; clear HO1016; clear HB; have HO_6 := n0_; have HO_7 := n1_; have HO1016 := n2_; have HO1019 := n3_; have HB := n4_; clear n0_ n1_ n2_ n3_ n4_))
       go_ret2
       exact ⟨_, _, by first | rfl | (simp [errW_none, errW_some] <;> rfl) | (simp only [← hji25]; first | rfl | (simp [errW_none, errW_some] <;> rfl)) | (simp [*, errW_none, errW_some] <;> rfl), by (with_reducible repeat (first | apply Kd.R_alloc | apply Kd.R_drewN | apply Kd.R_drew)); exact Kd.R_mono HO1016.out (fun _ hk => by first | exact hk.2 | trivial | (intro h_; cases h_) | exact ⟨(fun h_ => by cases h_), fun h0_ => absurd ((hoff 17 (by kernel_rfl)).symm.trans h0_) (by decide)⟩ | exact ⟨hk.1.1, fun _ => hk.2⟩ | exact ⟨hk.1.1.1.2, hk.1.2⟩ | exact hk.2 hb17_ | exact hk.2 | exact hk.1 | exact hk), by (with_reducible repeat (first | apply Kd.R_alloc | apply Kd.R_drewN | apply Kd.R_drew)); exact Kd.R_mono HO1019.out (fun _ hk => by first | exact hk.2 | trivial | (intro h_; cases h_) | exact ⟨(fun h_ => by cases h_), fun h0_ => absurd ((hoff 17 (by kernel_rfl)).symm.trans h0_) (by decide)⟩ | exact ⟨hk.1.1, fun _ => hk.2⟩ | exact ⟨hk.1.1.1.2, hk.1.2⟩ | exact hk.2 hb17_ | exact hk.2 | exact hk.1 | exact hk), by repeat (first | (with_reducible first | exact HB.out | apply below_alloc | apply pw_below_drewN | apply below_drew1) | exact HB.out)⟩

end Go.Proofs.Ytldcgclbgbhffaa.P
