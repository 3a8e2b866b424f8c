/- Functions of one package as Lean functions, and walks: written by a program for this claim. -/
import Derived.Test.YtbpggonjcnakgaaFbase
import Derived.Test.YtbpggonjcnakgaaBgradineref02
namespace Go.Proofs.Ytbpggonjcnakgaa.P
open Go.RowKit Go.Proofs.YtbpggonjcnakgaaW.PrintWords Go.Proofs.YtbpggonjcnakgaaW.PrintLast Go.Proofs.YtbpggonjcnakgaaW.PrintMore
attribute [local go_sem] max2_int min2_int max_two min_two max_three min_three max_four min_four   -- for this text's walks alone
set_option linter.unusedVariables false
set_option linter.unusedSimpArgs false

def gradineref04_set.l0 : Nat → List Int → Int → List Int → Int → Int → Option (List Int)
 | 0, _, _, _, _, _ => none
 | k + 1, x0, x1, x5, x13, x14 => if x14 < x13 then (if x14 < (x0.length : Int) then (if 0 ≤ x14 then (if x14 = (wrap64 (Int.tdiv x1 64)) then (if 0 ≤ (IntKind.u64.wrap (Int.tmod x1 64)) then (if x5.length < 17592186044416 then (gradineref04_set.l0 k x0 x1 (x5 ++ [Go.bits .or .u64 (rd x0 x14) (shl .u64 1 (IntKind.u64.wrap (Int.tmod x1 64)))]) x13 (wrap64 (x14 + 1))) else (none)) else (none)) else (if x5.length < 17592186044416 then (gradineref04_set.l0 k x0 x1 (x5 ++ [rd x0 x14]) x13 (wrap64 (x14 + 1))) else (none))) else (none)) else (if x14 = (wrap64 (Int.tdiv x1 64)) then (if 0 ≤ (IntKind.u64.wrap (Int.tmod x1 64)) then (if x5.length < 17592186044416 then (gradineref04_set.l0 k x0 x1 (x5 ++ [Go.bits .or .u64 0 (shl .u64 1 (IntKind.u64.wrap (Int.tmod x1 64)))]) x13 (wrap64 (x14 + 1))) else (none)) else (none)) else (if x5.length < 17592186044416 then (gradineref04_set.l0 k x0 x1 (x5 ++ [0]) x13 (wrap64 (x14 + 1))) else (none)))) else (some x5)
def gradineref04_set.f (k : Nat) (l0 : List Int) (a1 : Int) : Option (List Int) := gradineref04_set.l0 k l0 a1 ([] : List Int) (mx (l0.length : Int) (wrap64 ((wrap64 (Int.tdiv a1 64)) + 1))) 0
set_option maxHeartbeats 8000000 in
set_option maxRecDepth 100000 in
theorem gradineref04_set.calls (k : Nat) (A0 : Option Addr) (c0 : Nat) (l0 : List Int) (a1 : Int) (r : List Int) (w : World) (hr0 : Kd.C (Kd.int .u64) w A0 l0.length l0) (hc0 : l0.length ≤ c0) (h : gradineref04_set.f k l0 a1 = some r) :
  Calls Try.prog 151 #[.slice A0 l0.length c0, .int .i64 a1] w fun e w' => ∃ v0_ : Value, e = .returned (v0_) ∧ Kd.R (Kd.int .u64) 22 w' w.heap.size (fun _ => True) v0_ r ∧ Below w.heap.size w w' := by
 have HR0 := Aside0.mk hr0
 have HC0 := Aside0.mk hc0
 clear hr0 hc0
 have HB := Aside0.mk (Below.refl w.heap.size w)
 have H := h
 clear h
 unfold gradineref04_set.f at H
 obtain ⟨ji3, hji3⟩ : ∃ j_ : Int, (mx (l0.length : Int) (wrap64 ((wrap64 (Int.tdiv a1 64)) + 1))) = j_ := ⟨_, rfl⟩
 rw [hji3] at H
 (try (have hji3l : 0 ≤ ji3 := by (rw [← hji3]; unfold mx; (repeat' split) <;> omega)))
 (try (have hji3m : 0 ≤ ji3 := by omega))
 (try (have hji3t : ∀ m_ : Int, Int.tdiv ji3 m_ = ji3 / m_ := fun m_ => Int.tdiv_eq_ediv_of_nonneg (by omega)))
 have hji3_ : (if (l0.length : Int) < (wrap64 ((wrap64 (Int.tdiv a1 64)) + 1)) then (wrap64 ((wrap64 (Int.tdiv a1 64)) + 1)) else (l0.length : Int)) = ji3 := hji3
 have H' := Aside0.mk H
 clear H
 go_enter Try.func151, Try.ntmps151
 go_wp2
 go_loopg [5, 14] k (fun kq v5 v14 w' => ∃ (x5_1 : List Int) (x14_1 : Int), v14 = .int .i64 x14_1 ∧ Aside0 (gradineref04_set.l0 kq l0 a1 x5_1 ji3 x14_1 = some r) ∧ Aside0 (kq ≤ k) ∧ Aside0 (Kd.R (Kd.int .u64) 22 w' w.heap.size (fun _ => True) v5 x5_1) ∧ Aside0 (Below w.heap.size w w'))
 case atStart => exact ⟨(([] : List Int)), (0), (by first | rfl | (simp; done) | (simp [*]; done)), H', ⟨Nat.le_refl _⟩, ⟨by first | exact Kd.R_nil _ _ _ _ _ | exact Kd.N_nil _ _ _ _ _ | exact Kd.V_nil _ _ _ _ _ | exact Kd.Q_nil _ _ _ _ _ | exact Kd.S_nil _ _ _ _ _⟩, ⟨bb HB.out⟩⟩
 case round =>
  clear H'
  obtain ⟨x5_1, x14_1, rfl, HA, HK1, HO_5, HB⟩ := hrel
  cases gk with
  | zero => exact absurd HA.out (by simp [gradineref04_set.l0])
  | succ k1 =>
   have H := HA.out
   clear HA
   simp only [gradineref04_set.l0] at H
   refine if c4 : x14_1 < ji3 then ?p51_ else ?n51_
   case' p51_ =>
    rw [if_pos c4] at H
    have c4b0 : decide (x14_1 < ji3) = true := decide_eq_true c4
    clear c4
    refine if c5 : x14_1 < (l0.length : Int) then ?p52_ else ?n52_
    case' p52_ =>
     rw [if_pos c5] at H
     have c5b0 : decide (x14_1 < (l0.length : Int)) = true := decide_eq_true c5
     clear c5
     refine if c6 : 0 ≤ x14_1 then ?p53_ else ?n53_
     case' p53_ =>
      rw [if_pos c6] at H
      have c6b0 : decide (0 ≤ x14_1) = true := decide_eq_true c6
      clear c6
      refine if c7 : x14_1 = (wrap64 (Int.tdiv a1 64)) then ?p54_ else ?n54_
      case' p54_ =>
       rw [if_pos c7] at H
       have c7b0 : (x14_1 == (wrap64 (Int.tdiv a1 64))) = true := beq_iff_eq.mpr c7
       have c7b1 : (x14_1 != (wrap64 (Int.tdiv a1 64))) = false := bne_eq_false_iff_eq.mpr c7
       clear c7
       obtain ⟨ji8, hji8⟩ : ∃ j_ : Int, (IntKind.u64.wrap (Int.tmod a1 64)) = j_ := ⟨_, rfl⟩
       rw [hji8] at H
       refine if c9 : 0 ≤ (ji8) then ?p55_ else ?n55_
       case' p55_ =>
        rw [if_pos c9] at H
        have c9b0 := eq_true c9
        have c9b1 : decide (0 ≤ (ji8)) = true := decide_eq_true c9
        clear c9
        obtain ⟨ji10, hji10⟩ : ∃ j_ : Int, (shl .u64 1 (ji8)) = j_ := ⟨_, rfl⟩
        rw [hji10] at H
        have hji10_ : (IntKind.u64.wrap (1 * 2 ^ min (ji8).toNat 64)) = ji10 := hji10
        have hji10z : (ji8) ≤ 64 → (IntKind.u64.wrap (1 * 2 ^ (ji8).toNat)) = ji10 := shl_small hji10
        have hji10u : (IntKind.u64.wrap (2 ^ min (ji8).toNat 64)) = ji10 := by have h_ := hji10_; rw [Int.one_mul] at h_; exact h_
        have hji10v : (ji8) ≤ 64 → (IntKind.u64.wrap (2 ^ (ji8).toNat)) = ji10 := fun hle_ => by have h_ := hji10z hle_; rw [Int.one_mul] at h_; exact h_
        refine if c11 : x5_1.length < 17592186044416 then ?p56_ else ?n56_
        case' p56_ =>
         rw [if_pos c11] at H
         have LMc11 := Aside0.mk c11
         clear c11
         obtain ⟨y251, hy251⟩ : ∃ y_ : List Int, y_ = (x5_1 ++ [Go.bits .or .u64 (rd l0 x14_1) (ji10)]) := ⟨_, rfl⟩
         rw [← hy251] at H
         have Ny251 := Aside0.mk hy251
         clear hy251
         have H' := Aside0.mk H
         clear H
         have p250 : 0 ≤ (x14_1 : Int) := of_decide_eq_true (by first | (with_reducible assumption) | assumption)
         have q250 : x14_1 < (l0.length : Int) := of_decide_eq_true (by first | (with_reducible assumption) | assumption)
         obtain ⟨ad250, e250, hx250_0⟩ := Kd.at_int HR0.out x14_1 p250 q250
         cases e250
         replace hx250_0 := (HB.out.cell (World.block_lt_of_cell? w _ hx250_0)).trans hx250_0
         replace p250 := eq_true p250
         replace q250 := eq_true q250
        case n56_ =>
         rw [if_neg c11] at H
         exact absurd H (by simp)
       case n55_ =>
        rw [if_neg c9] at H
        exact absurd H (by simp)
      case' n54_ =>
       rw [if_neg c7] at H
       have c7b0 : (x14_1 == (wrap64 (Int.tdiv a1 64))) = false := beq_eq_false_iff_ne.mpr c7
       have c7b1 : (x14_1 != (wrap64 (Int.tdiv a1 64))) = true := bne_iff_ne.mpr c7
       refine if c13 : x5_1.length < 17592186044416 then ?p57_ else ?n57_
       case' p57_ =>
        rw [if_pos c13] at H
        have LMc13 := Aside0.mk c13
        clear c13
        obtain ⟨y254, hy254⟩ : ∃ y_ : List Int, y_ = (x5_1 ++ [rd l0 x14_1]) := ⟨_, rfl⟩
        rw [← hy254] at H
        have Ny254 := Aside0.mk hy254
        clear hy254
        have H' := Aside0.mk H
        clear H
        have p250 : 0 ≤ (x14_1 : Int) := of_decide_eq_true (by first | (with_reducible assumption) | assumption)
        have q250 : x14_1 < (l0.length : Int) := of_decide_eq_true (by first | (with_reducible assumption) | assumption)
        obtain ⟨ad250, e250, hx250_0⟩ := Kd.at_int HR0.out x14_1 p250 q250
        cases e250
        replace hx250_0 := (HB.out.cell (World.block_lt_of_cell? w _ hx250_0)).trans hx250_0
        replace p250 := eq_true p250
        replace q250 := eq_true q250
       case n57_ =>
        rw [if_neg c13] at H
        exact absurd H (by simp)
     case n53_ =>
      rw [if_neg c6] at H
      exact absurd H (by simp)
    case' n52_ =>
     rw [if_neg c5] at H
     have c5b0 : decide (x14_1 < (l0.length : Int)) = false := decide_eq_false c5
     clear c5
     refine if c15 : x14_1 = (wrap64 (Int.tdiv a1 64)) then ?p58_ else ?n58_
     case' p58_ =>
      rw [if_pos c15] at H
      have c15b0 : (x14_1 == (wrap64 (Int.tdiv a1 64))) = true := beq_iff_eq.mpr c15
      have c15b1 : (x14_1 != (wrap64 (Int.tdiv a1 64))) = false := bne_eq_false_iff_eq.mpr c15
      clear c15
      obtain ⟨ji16, hji16⟩ : ∃ j_ : Int, (IntKind.u64.wrap (Int.tmod a1 64)) = j_ := ⟨_, rfl⟩
      rw [hji16] at H
      refine if c17 : 0 ≤ (ji16) then ?p59_ else ?n59_
      case' p59_ =>
       rw [if_pos c17] at H
       have c17b0 := eq_true c17
       have c17b1 : decide (0 ≤ (ji16)) = true := decide_eq_true c17
       clear c17
       obtain ⟨ji18, hji18⟩ : ∃ j_ : Int, (shl .u64 1 (ji16)) = j_ := ⟨_, rfl⟩
       rw [hji18] at H
       have hji18_ : (IntKind.u64.wrap (1 * 2 ^ min (ji16).toNat 64)) = ji18 := hji18
       have hji18z : (ji16) ≤ 64 → (IntKind.u64.wrap (1 * 2 ^ (ji16).toNat)) = ji18 := shl_small hji18
       have hji18u : (IntKind.u64.wrap (2 ^ min (ji16).toNat 64)) = ji18 := by have h_ := hji18_; rw [Int.one_mul] at h_; exact h_
       have hji18v : (ji16) ≤ 64 → (IntKind.u64.wrap (2 ^ (ji16).toNat)) = ji18 := fun hle_ => by have h_ := hji18z hle_; rw [Int.one_mul] at h_; exact h_
       refine if c19 : x5_1.length < 17592186044416 then ?p60_ else ?n60_
       case' p60_ =>
        rw [if_pos c19] at H
        have LMc19 := Aside0.mk c19
        clear c19
        obtain ⟨y257, hy257⟩ : ∃ y_ : List Int, y_ = (x5_1 ++ [Go.bits .or .u64 0 (ji18)]) := ⟨_, rfl⟩
        rw [← hy257] at H
        have Ny257 := Aside0.mk hy257
        clear hy257
        have H' := Aside0.mk H
        clear H
       case n60_ =>
        rw [if_neg c19] at H
        exact absurd H (by simp)
      case n59_ =>
       rw [if_neg c17] at H
       exact absurd H (by simp)
     case' n58_ =>
      rw [if_neg c15] at H
      have c15b0 : (x14_1 == (wrap64 (Int.tdiv a1 64))) = false := beq_eq_false_iff_ne.mpr c15
      have c15b1 : (x14_1 != (wrap64 (Int.tdiv a1 64))) = true := bne_iff_ne.mpr c15
      refine if c21 : x5_1.length < 17592186044416 then ?p61_ else ?n61_
      case' p61_ =>
       rw [if_pos c21] at H
       have LMc21 := Aside0.mk c21
       clear c21
       obtain ⟨y260, hy260⟩ : ∃ y_ : List Int, y_ = (x5_1 ++ [0]) := ⟨_, rfl⟩
       rw [← hy260] at H
       have Ny260 := Aside0.mk hy260
       clear hy260
       have H' := Aside0.mk H
       clear H
      case n61_ =>
       rw [if_neg c21] at H
       exact absurd H (by simp)
   case n51_ =>
    rw [if_neg c4] at H
    have c4b0 : decide (x14_1 < ji3) = false := decide_eq_false c4
    clear c4
    obtain rfl := Option.some.inj H
    go_wp2
    go_ret
    exact ⟨_, by first | rfl | (simp [errW_none, errW_some] <;> rfl) | (simp only [← hji3]; first | rfl | (simp [errW_none, errW_some] <;> rfl)) | (simp [*, errW_none, errW_some] <;> rfl), by (with_reducible repeat (first | apply Kd.R_alloc | apply Kd.R_drewN | apply Kd.R_drew)); exact HO_5.out, hbb⟩
   case p54_ | n54_ | p58_ | n58_ =>
    go_wp2_with (first | ((with_reducible refine gate_builtin (b := .append) (xs := #[.tmp 35, .tmp 37]) rfl ?_); at_builtin; refine Kd.R_append (Kd.int .u64) (w0 := w) w.heap.size rfl (.tmp 35) (.tmp 37) 30 22 (.int .u64 0) 8 rfl Try.underlying30 info22 rfl (by decide) (by omega) u5 x5_1 (Go.bits .or .u64 (rd l0 x14_1) (ji10)) [.int .u64 (Go.bits .or .u64 (rd l0 x14_1) (ji10))] (fun _ => True) (fun _ => False) rfl rfl ?aP (fun _ hk => hk.elim) ?aF ?aO ?aB ?aS ?aL ?_; (case aP => exact rfl); (case aB => exact (bb HB.out)); (case aF => exact (fun _ _ => trivial)); (case aO => exact (st HO_5.out)); (case aS => exact (below_size (bb HB.out))); (case aL => have := LMc11.out; omega); intro v252 w12 ho hb hg hat; rw [← Ny251.out] at ho; refine sw2 ⟨hb⟩ ⟨ho⟩ ?_; clear HB HO_5; intro HB HO253; clear ho hb hg hat) | ((with_reducible refine gate_builtin (b := .append) (xs := #[.tmp 35, .tmp 37]) rfl ?_); at_builtin; refine Kd.R_append (Kd.int .u64) (w0 := w) w.heap.size rfl (.tmp 35) (.tmp 37) 30 22 (.int .u64 0) 8 rfl Try.underlying30 info22 rfl (by decide) (by omega) u5 x5_1 (Go.bits .or .u64 0 (ji18)) [.int .u64 (Go.bits .or .u64 0 (ji18))] (fun _ => True) (fun _ => False) rfl rfl ?aP (fun _ hk => hk.elim) ?aF ?aO ?aB ?aS ?aL ?_; (case aP => exact rfl); (case aB => exact (bb HB.out)); (case aF => exact (fun _ _ => trivial)); (case aO => exact (st HO_5.out)); (case aS => exact (below_size (bb HB.out))); (case aL => have := LMc19.out; omega); intro v258 w20 ho hb hg hat; rw [← Ny257.out] at ho; refine sw2 ⟨hb⟩ ⟨ho⟩ ?_; clear HB HO_5; intro HB HO259; clear ho hb hg hat) | ((with_reducible refine gate_builtin (b := .append) (xs := #[.tmp 35, .tmp 37]) rfl ?_); at_builtin; refine Kd.R_append (Kd.int .u64) (w0 := w) w.heap.size rfl (.tmp 35) (.tmp 37) 30 22 (.int .u64 0) 8 rfl Try.underlying30 info22 rfl (by decide) (by omega) u5 x5_1 (rd l0 x14_1) [.int .u64 (rd l0 x14_1)] (fun _ => True) (fun _ => False) rfl rfl ?aP (fun _ hk => hk.elim) ?aF ?aO ?aB ?aS ?aL ?_; (case aP => exact rfl); (case aB => exact (bb HB.out)); (case aF => exact (fun _ _ => trivial)); (case aO => exact (st HO_5.out)); (case aS => exact (below_size (bb HB.out))); (case aL => have := LMc13.out; omega); intro v255 w14 ho hb hg hat; rw [← Ny254.out] at ho; refine sw2 ⟨hb⟩ ⟨ho⟩ ?_; clear HB HO_5; intro HB HO256; clear ho hb hg hat) | ((with_reducible refine gate_builtin (b := .append) (xs := #[.tmp 35, .tmp 37]) rfl ?_); at_builtin; refine Kd.R_append (Kd.int .u64) (w0 := w) w.heap.size rfl (.tmp 35) (.tmp 37) 30 22 (.int .u64 0) 8 rfl Try.underlying30 info22 rfl (by decide) (by omega) u5 x5_1 0 [.int .u64 0] (fun _ => True) (fun _ => False) rfl rfl ?aP (fun _ hk => hk.elim) ?aF ?aO ?aB ?aS ?aL ?_; (case aP => exact rfl); (case aB => exact (bb HB.out)); (case aF => exact (fun _ _ => trivial)); (case aO => exact (st HO_5.out)); (case aS => exact (below_size (bb HB.out))); (case aL => have := LMc21.out; omega); intro v261 w22 ho hb hg hat; rw [← Ny260.out] at ho; refine sw2 ⟨hb⟩ ⟨ho⟩ ?_; clear HB HO_5; intro HB HO262; clear ho hb hg hat))
    go_roundg k1
    case measure => have := HK1.out; omega
    case rel => first | (exact ⟨(y251), (wrap64 (x14_1 + 1)), (by first | rfl | (simp; done) | (simp [*]; done)), H', ⟨by have := HK1.out; omega⟩, ⟨by (with_reducible repeat (first | apply Kd.R_alloc | apply Kd.R_drewN | apply Kd.R_drew)); exact HO253.out⟩, ⟨bb HB.out⟩⟩) | (exact ⟨(y257), (wrap64 (x14_1 + 1)), (by first | rfl | (simp; done) | (simp [*]; done)), H', ⟨by have := HK1.out; omega⟩, ⟨by (with_reducible repeat (first | apply Kd.R_alloc | apply Kd.R_drewN | apply Kd.R_drew)); exact HO259.out⟩, ⟨bb HB.out⟩⟩) | (exact ⟨(y254), (wrap64 (x14_1 + 1)), (by first | rfl | (simp; done) | (simp [*]; done)), H', ⟨by have := HK1.out; omega⟩, ⟨by (with_reducible repeat (first | apply Kd.R_alloc | apply Kd.R_drewN | apply Kd.R_drew)); exact HO256.out⟩, ⟨bb HB.out⟩⟩) | (exact ⟨(y260), (wrap64 (x14_1 + 1)), (by first | rfl | (simp; done) | (simp [*]; done)), H', ⟨by have := HK1.out; omega⟩, ⟨by (with_reducible repeat (first | apply Kd.R_alloc | apply Kd.R_drewN | apply Kd.R_drew)); exact HO262.out⟩, ⟨bb HB.out⟩⟩)

mutual
def gradineref04_Div.j0 : Nat → List Int → List Int → List Int → Bool → Option (List Int × List Int)
 | 0, _, _, _, _ => none
 | k + 1, x0, x1, x6, x18 => if x18 = true then (if 0 < (x0.length : Int) then (if 0 < (x1.length : Int) then (if (rd x1 0) = 0 then (none) else ((gradineref02_Trim.f k (([IntKind.u64.wrap (Int.tdiv (rd x0 0) (rd x1 0))] : List Int))).bind fun t270 => ((gradineref02_Trim.f k (([Int.tmod (rd x0 0) (rd x1 0)] : List Int))).bind fun t278 => (some (t270, t278))))) else (none)) else (none)) else ((gradineref02_Bits.f k x0).bind fun t281 => ((gradineref02_Bits.f k x1).bind fun t282 => ((gradineref02_Shr.f k x0 (mx 0 (wrap64 ((wrap64 (t281 - t282)) + 1)))).bind fun t283 => (gradineref04_Div.l0 k x0 x1 x6 t283 (wrap64 ((mx 0 (wrap64 ((wrap64 (t281 - t282)) + 1))) - 1))))))
def gradineref04_Div.l0 : Nat → List Int → List Int → List Int → List Int → Int → Option (List Int × List Int)
 | 0, _, _, _, _, _ => none
 | k + 1, x0, x1, x6, x7, x10 => if x10 ≥ 0 then ((gradineref02_Shl.f k x7 1).bind fun t292 => ((gradineref02_Bit.f x0 x10).bind fun t295 => (if t295 = true then ((gradineref04_set.f k t292 0).bind fun t296 => (gradineref04_Div.j2 k x0 x1 x6 t296 x10)) else (gradineref04_Div.j2 k x0 x1 x6 t292 x10)))) else ((gradineref02_Trim.f k x6).bind fun t286 => ((gradineref02_Trim.f k x7).bind fun t289 => (some (t286, t289))))
def gradineref04_Div.j2 : Nat → List Int → List Int → List Int → List Int → Int → Option (List Int × List Int)
 | 0, _, _, _, _, _ => none
 | k + 1, x0, x1, x6, x7, x10 => (gradineref02_Cmp.f k x7 x1).bind fun t299 => (if t299 ≥ 0 then ((gradineref02_Sub.f k x7 x1).bind fun t300 => ((gradineref04_set.f k x6 x10).bind fun t303 => (gradineref04_Div.l0 k x0 x1 t303 t300 (wrap64 (x10 - 1))))) else (gradineref04_Div.l0 k x0 x1 x6 x7 (wrap64 (x10 - 1))))
end
def gradineref04_Div.f (k : Nat) (l0 : List Int) (l1 : List Int) : Option (List Int × List Int) := (gradineref02_Size.f k l0).bind fun t263 => (if t263 = 1 then ((gradineref02_Size.f k l1).bind fun t264 => (gradineref04_Div.j0 k l0 l1 ([] : List Int) (t264 == 1))) else (gradineref04_Div.j0 k l0 l1 ([] : List Int) false))
def gradineref04_Div.T3 : Bool × List (List Nat × List Nat) := (true, [([], []), ([0], [0]), ([1], [1]), ([], []), ([3], [3]), ([4], [4]), ([2, 5], [2, 5]), ([6], [6]), ([7], [7]), ([], []), ([9], [9]), ([10], [10]), ([], []), ([12], [12]), ([13], [13]), ([11, 14], [11, 14]), ([15], [15]), ([16, 8], [16]), ([8, 17, 0, 1, 2, 3, 4, 5, 6, 7, 8], [8]), ([17, 18, 0, 1, 2, 3, 4, 5, 6, 7, 8, 9, 10, 11, 12, 13, 14, 15, 16, 17, 18], [17])])
def gradineref04_Div.B3 : List Nat := [0, 1, 3, 0, 8, 24, 63, 127, 255, 0, 512, 1536, 0, 4096, 12288, 32256, 65024, 131071, 262143, 524287]
theorem gradineref04_Div.tab3 : rtab .any (opsOf Try.f139 3) = gradineref04_Div.T3 := by kernel_rfl
theorem gradineref04_Div.bits3 : waitsOk gradineref04_Div.T3.2 gradineref04_Div.B3 = true := by kernel_rfl
set_option maxHeartbeats 8000000 in
set_option maxRecDepth 100000 in
theorem gradineref04_Div.calls (k : Nat) (A0 : Option Addr) (c0 : Nat) (l0 : List Int) (A1 : Option Addr) (c1 : Nat) (l1 : List Int) (r1 : List Int) (r2 : List Int) (w : World) (hr0 : Kd.C (Kd.int .u64) w A0 l0.length l0) (hc0 : l0.length ≤ c0) (hr1 : Kd.C (Kd.int .u64) w A1 l1.length l1) (hc1 : l1.length ≤ c1) (h : gradineref04_Div.f k l0 l1 = some (r1, r2)) :
  Calls Try.prog 139 #[.slice A0 l0.length c0, .slice A1 l1.length c1] w fun e w' => ∃ v0_ v1_ : Value, e = .returned (.tuple #[v0_, v1_]) ∧ Kd.R (Kd.int .u64) 22 w' w.heap.size (fun k_ => some k_ ≠ (v1_ : Value).ownBlock) v0_ r1 ∧ Kd.R (Kd.int .u64) 22 w' w.heap.size (fun k_ => some k_ ≠ (v0_ : Value).ownBlock) v1_ r2 ∧ Below w.heap.size w w' := by
 have HR0 := Aside0.mk hr0
 have HC0 := Aside0.mk hc0
 clear hr0 hc0
 have HR1 := Aside0.mk hr1
 have HC1 := Aside0.mk hc1
 clear hr1 hc1
 have HB := Aside0.mk (Below.refl w.heap.size w)
 have H := h
 clear h
 unfold gradineref04_Div.f at H
 have HC3 := Aside0.mk H
 clear H
 go_enter Try.func139, Try.ntmps139
 go_upto_region 2 with (fail)
 go_cut [18] (fun v18 wc => ∃ (kq : Nat) (x18_2 : Bool), v18 = .bool x18_2 ∧ Aside0 (gradineref04_Div.j0 kq l0 l1 ([] : List Int) x18_2 = some (r1, r2)) ∧ Aside0 (kq ≤ k) ∧ Aside0 (Kd.R (Kd.int .u64) 22 wc w.heap.size (fun _ => True) (.slice none 0 0) ([] : List Int)) ∧ Aside0 (Below w.heap.size w wc))
 case first =>
  have H := HC3.out
  clear HC3
  obtain ⟨t263, A4, H⟩ := bnd H
  refine if c5 : t263 = 1 then ?p1_ else ?n1_
  case' p1_ =>
   rw [if_pos c5] at H
   have c5b0 : (t263 == 1) = true := beq_iff_eq.mpr c5
   have c5b1 : (t263 != 1) = false := bne_eq_false_iff_eq.mpr c5
   clear c5
   (first | rw [c5b0] | (simp only [i64_w, i32_w]; rw [c5b0]) | rw [c5b1] | skip)
   obtain ⟨t264, A6, H⟩ := bnd H
   have H' := Aside0.mk H
   clear H
  case' n1_ =>
   rw [if_neg c5] at H
   have c5b0 : (t263 == 1) = false := beq_eq_false_iff_ne.mpr c5
   have c5b1 : (t263 != 1) = true := bne_iff_ne.mpr c5
   (first | rw [c5b0] | (simp only [i64_w, i32_w]; rw [c5b0]) | rw [c5b1] | skip)
   have H' := Aside0.mk H
   clear H
  case p1_ | n1_ =>
   go_wp2_with (first | ((with_reducible refine gate_callee (f := 134) rfl ?_); refine goesL_ (some 12) rfl rfl Try.func134 (by kernel_rfl) rfl #[.slice A0 l0.length c0] rfl (by (try simp only [List.map_toArray, List.map_cons, List.map_nil]); first | done | rfl | (simp only [List.length_drop, List.length_take]; rfl) | (go_simp; done) | (go_simp; rfl) | (simp only [*]; done)) ?_; (with_reducible refine (gradineref02_Size.calls k _ _ l0 t263 _ ?side1 ?side2 A4.out).mono ?_); (case side1 => exact cs (Kd.C_below HR0.out HB.out)); (case side2 => exact HC0.out); rintro e w' ⟨rfl, ⟨nd, rfl⟩⟩; refine ⟨_, rfl, ?_⟩) | (go_at_call 134; (with_reducible refine (gradineref02_Size.calls k _ _ l1 t264 _ ?side1 ?side2 A6.out).mono ?_); (case side1 => repeat (first | exact (Kd.C_below HR1.out (bb HB.out)) | (with_reducible refine Kd.C_alloc ?_ _) | (with_reducible refine Kd.C_drewN ?_ _) | (with_reducible refine Kd.C_drew ?_))); (case side2 => exact HC1.out); rintro e w' ⟨rfl, ⟨nd, rfl⟩⟩))
   go_meet
   case rel => first | (exact ⟨_, ((t264 == 1)), (by first | rfl | (simp; done) | (simp [*]; done)), H', ⟨by first | omega | exact Nat.le_refl _⟩, ⟨by first | exact Kd.R_nil _ _ _ _ _ | exact Kd.N_nil _ _ _ _ _ | exact Kd.V_nil _ _ _ _ _ | exact Kd.Q_nil _ _ _ _ _ | exact Kd.S_nil _ _ _ _ _⟩, ⟨bb HB.out⟩⟩) | (exact ⟨_, (false), (by first | rfl | (simp; done) | (simp [*]; done)), H', ⟨by first | omega | exact Nat.le_refl _⟩, ⟨by first | exact Kd.R_nil _ _ _ _ _ | exact Kd.N_nil _ _ _ _ _ | exact Kd.V_nil _ _ _ _ _ | exact Kd.Q_nil _ _ _ _ _ | exact Kd.S_nil _ _ _ _ _⟩, ⟨bb HB.out⟩⟩)
 case rest =>
  clear HC3
  obtain ⟨kq, x18_2, rfl, HA, HJ2, HO_6, HB⟩ := hcut
  cases kq with
  | zero => exact absurd HA.out (by simp [gradineref04_Div.j0])
  | succ kj2 =>
   have H := HA.out
   clear HA
   simp only [gradineref04_Div.j0] at H
   by_cases c7 : x18_2 = true
   ·subst c7
    replace H := ift H
    by_cases c8 : 0 < (l0.length : Int)
    ·rw [if_pos c8] at H
     have c8b0 : decide (0 < (l0.length : Int)) = true := decide_eq_true c8
     have c8b1 : decide (0 < l0.length) = true := decide_eq_true (by omega)
     clear c8
     by_cases c9 : 0 < (l1.length : Int)
     ·rw [if_pos c9] at H
      have c9b0 : decide (0 < (l1.length : Int)) = true := decide_eq_true c9
      have c9b1 : decide (0 < l1.length) = true := decide_eq_true (by omega)
      clear c9
      by_cases c10 : (rd l1 0) = 0
      ·rw [if_pos c10] at H
       exact absurd H (by simp)
      ·rw [if_neg c10] at H
       have c10b0 : ((rd l1 0) == 0) = false := beq_eq_false_iff_ne.mpr c10
       have c10b1 : ((rd l1 0) != 0) = true := bne_iff_ne.mpr c10
       obtain ⟨y267, hy267⟩ : ∃ y_ : List Int, y_ = (([IntKind.u64.wrap (Int.tdiv (rd l0 0) (rd l1 0))] : List Int)) := ⟨_, rfl⟩
       rw [← hy267] at H
       have Ny267 := Aside0.mk hy267
       clear hy267
       obtain ⟨t270, A11, H⟩ := bnd H
       obtain ⟨y275, hy275⟩ : ∃ y_ : List Int, y_ = (([Int.tmod (rd l0 0) (rd l1 0)] : List Int)) := ⟨_, rfl⟩
       rw [← hy275] at H
       have Ny275 := Aside0.mk hy275
       clear hy275
       obtain ⟨t278, A12, H⟩ := bnd H
       simp only [Option.some.injEq, Prod.mk.injEq] at H
       obtain ⟨rfl, rfl⟩ := H
       try go_wp2
       refine sw2 ⟨Kd.R_drew HO_6.out⟩ ⟨below_drew1 HB.out⟩ ?_
       clear HO_6 HB
       intro HO_6 HB
       have p265 : 0 ≤ (0 : Int) := (by omega)
       have q265 : 0 < (l0.length : Int) := of_decide_eq_true (by first | (with_reducible assumption) | assumption)
       obtain ⟨ad265, e265, hx265_0⟩ := Kd.at_int HR0.out 0 p265 q265
       have hw265_0 := hx265_0
       (try rw [show ((0 : Int)).toNat = 0 from rfl] at hw265_0)
       (try rw [show 0 * 1 = 0 from rfl] at hw265_0)
       (try rw [Addr.add_zero'] at hw265_0)
       cases e265
       have qi265 : (0 < l0.length) = True := eq_true (by omega)
       (try rw [show ((0 : Int)).toNat = 0 from rfl] at hx265_0)
       (try rw [Addr.add_zero'] at hx265_0)
       replace hx265_0 := (HB.out.cell (World.block_lt_of_cell? w _ hx265_0)).trans hx265_0
       replace p265 := eq_true p265
       replace q265 := eq_true q265
       have p266 : 0 ≤ (0 : Int) := (by omega)
       have q266 : 0 < (l1.length : Int) := of_decide_eq_true (by first | (with_reducible assumption) | assumption)
       obtain ⟨ad266, e266, hx266_0⟩ := Kd.at_int HR1.out 0 p266 q266
       have hw266_0 := hx266_0
       (try rw [show ((0 : Int)).toNat = 0 from rfl] at hw266_0)
       (try rw [show 0 * 1 = 0 from rfl] at hw266_0)
       (try rw [Addr.add_zero'] at hw266_0)
       cases e266
       have qi266 : (0 < l1.length) = True := eq_true (by omega)
       (try rw [show ((0 : Int)).toNat = 0 from rfl] at hx266_0)
       (try rw [Addr.add_zero'] at hx266_0)
       replace hx266_0 := (HB.out.cell (World.block_lt_of_cell? w _ hx266_0)).trans hx266_0
       replace p266 := eq_true p266
       replace q266 := eq_true q266
       have p273 : 0 ≤ (0 : Int) := (by omega)
       have q273 : 0 < (l0.length : Int) := of_decide_eq_true (by first | (with_reducible assumption) | assumption)
       obtain ⟨ad273, e273, hx273_0⟩ := Kd.at_int HR0.out 0 p273 q273
       have hw273_0 := hx273_0
       (try rw [show ((0 : Int)).toNat = 0 from rfl] at hw273_0)
       (try rw [show 0 * 1 = 0 from rfl] at hw273_0)
       (try rw [Addr.add_zero'] at hw273_0)
       obtain rfl : ad265 = ad273 := (by injection e273)
       have qi273 : (0 < l0.length) = True := eq_true (by omega)
       (try rw [show ((0 : Int)).toNat = 0 from rfl] at hx273_0)
       (try rw [Addr.add_zero'] at hx273_0)
       replace hx273_0 := (HB.out.cell (World.block_lt_of_cell? w _ hx273_0)).trans hx273_0
       replace p273 := eq_true p273
       replace q273 := eq_true q273
       have p274 : 0 ≤ (0 : Int) := (by omega)
       have q274 : 0 < (l1.length : Int) := of_decide_eq_true (by first | (with_reducible assumption) | assumption)
       obtain ⟨ad274, e274, hx274_0⟩ := Kd.at_int HR1.out 0 p274 q274
       have hw274_0 := hx274_0
       (try rw [show ((0 : Int)).toNat = 0 from rfl] at hw274_0)
       (try rw [show 0 * 1 = 0 from rfl] at hw274_0)
       (try rw [Addr.add_zero'] at hw274_0)
       obtain rfl : ad266 = ad274 := (by injection e274)
       have qi274 : (0 < l1.length) = True := eq_true (by omega)
       (try rw [show ((0 : Int)).toNat = 0 from rfl] at hx274_0)
       (try rw [Addr.add_zero'] at hx274_0)
       replace hx274_0 := (HB.out.cell (World.block_lt_of_cell? w _ hx274_0)).trans hx274_0
       replace p274 := eq_true p274
       replace q274 := eq_true q274
       refine start_ (n := 20) (S := fun w' => True) (ds := []) #[false, false, false, false, false, false, false, false, false, false, false, false, false, false, false, false, false, false, false, false] (by kernel_rfl) rfl rfl trivial (fun hHeld => ?_); refine with_tabW gradineref04_Div.tab3 gradineref04_Div.bits3 (fun HT_ HW_ => ?_)
       generalize wc.drew = w13 at HO_6 HB hx265_0 hx266_0 hx273_0 hx274_0 hHeld ⊢
       refine pu 0 (some 19) HT_ ?_
       refine pu 3 (some 22) HT_ ?_
       refine pu 9 (some 28) HT_ ?_
       refine pu 12 (some 31) HT_ ?_
       refine inv_at [1, 2, 4, 5, 6, 7, 8, 10, 11, 13, 14, 15, 16, 17, 18, 19] (fun a0_ b a w' => ∃ (v268 : Value) (v271 : Value) (v276 : Value) (v279 : Value) (m18_ : Value) (m19_ : Value), a = putSel a0_ b [(1, 20, .pointer (some ad265)), (2, 21, .int .u64 (rd l0 0)), (4, 23, .pointer (some ad266)), (5, 24, .int .u64 (rd l1 0)), (6, 25, .int .u64 (IntKind.u64.wrap (Int.tdiv (rd l0 0) (rd l1 0)))), (7, 26, v268), (8, 27, v271), (10, 29, .pointer (some ad265)), (11, 30, .int .u64 (rd l0 0)), (13, 32, .pointer (some ad266)), (14, 33, .int .u64 (rd l1 0)), (15, 34, .int .u64 (Int.tmod (rd l0 0) (rd l1 0))), (16, 35, v276), (17, 36, v279), (18, 4, m18_), (19, 5, m19_)] ∧ (Kd.R (Kd.int .u64) 22 w' w.heap.size (fun _ => True) (.slice none 0 0) ([] : List Int)) ∧ (Below w.heap.size w w') ∧ (b 7 = true → Kd.R (Kd.int .u64) 22 w' w.heap.size (fun k_ => some k_ ≠ (.slice none 0 0 : Value).ownBlock) v268 y267) ∧ (b 8 = true → Kd.R (Kd.int .u64) 22 w' w.heap.size (fun k_ => some k_ ≠ (.slice none 0 0 : Value).ownBlock ∧ (b 17 = true → some k_ ≠ (v279 : Value).ownBlock)) v271 t270) ∧ (b 16 = true → Kd.R (Kd.int .u64) 22 w' w.heap.size (fun k_ => some k_ ≠ (.slice none 0 0 : Value).ownBlock) v276 y275) ∧ (b 17 = true → Kd.R (Kd.int .u64) 22 w' w.heap.size (fun k_ => some k_ ≠ (.slice none 0 0 : Value).ownBlock ∧ some k_ ≠ (v271 : Value).ownBlock) v279 t278) ∧ (b 18 = true → (m18_ : Value) = v271) ∧ (b 19 = true → (m19_ : Value) = v279)) HT_.out HW_.out (by kernel_rfl) (by kernel_rfl) ?_ ?_ ?_
       ·exact ⟨.bool false, .bool false, .bool false, .bool false, .bool false, .bool false, by simp only [putSel, Bool.false_eq_true, if_false], HO_6.out, HB.out, fun h_ => absurd h_ (by decide), fun h_ => absurd h_ (by decide), fun h_ => absurd h_ (by decide), fun h_ => absurd h_ (by decide), fun h_ => absurd h_ (by decide), fun h_ => absurd h_ (by decide)⟩
       ·skip
        clear HB HO_6
        refine steps_cons ?_ ?_
        ·rintro b a w' ⟨v268, v271, v276, v279, m18_, m19_, ha, Q_HO_6, Q_HB, Q_HO269, Q_HO272, Q_HO277, Q_HO280, Q_X18_, Q_X19_⟩ hb_ hon hoff
         refine ⟨_, rfl, fun K hK => ?_⟩
         have e19 : a.tmps[19]? = some (.slice (some ad265) l0.length c0) := by rw [ha]; exact (putSel_off rfl).trans rfl
         replace ha := Aside0.mk ha
         have HO_6 := Aside0.mk Q_HO_6
         have HB := Aside0.mk Q_HB
         have hs0_ : w'.cell? ad265 = some (.int .u64 (rd l0 0)) := ((HB.out.cell (World.block_lt_of_cell? w _ hw265_0)).trans hw265_0)
         refine value_ (w1 := w') (v := .pointer (some ad265)) (by rfl) rfl ?_ ?_
         ·go_simp
          (try simp only [i64_w])
          try rfl
         refine hK.out _ _ ⟨v268, v271, v276, v279, m18_, m19_, (by rw [ha.out]; exact putSel_upk 0 hb_ rfl rfl rfl), Q_HO_6, Q_HB, fun h0_ => absurd ((hoff 7 (by kernel_rfl)).symm.trans h0_) (by decide), fun h0_ => absurd ((hoff 8 (by kernel_rfl)).symm.trans h0_) (by decide), Q_HO277, fun h0_ => absurd ((hoff 17 (by kernel_rfl)).symm.trans h0_) (by decide), fun h0_ => absurd ((hoff 18 (by kernel_rfl)).symm.trans h0_) (by decide), fun h0_ => absurd ((hoff 19 (by kernel_rfl)).symm.trans h0_) (by decide)⟩
        refine steps_cons ?_ ?_
        ·rintro b a w' ⟨v268, v271, v276, v279, m18_, m19_, ha, Q_HO_6, Q_HB, Q_HO269, Q_HO272, Q_HO277, Q_HO280, Q_X18_, Q_X19_⟩ hb_ hon hoff
         refine ⟨_, rfl, fun K hK => ?_⟩
         have e20 : a.tmps[20]? = some (.pointer (some ad265)) := by rw [ha]; exact putSel_on (e := (1, 20, .pointer (some ad265))) 0 rfl rfl (hon 1 (by kernel_rfl)) rfl
         replace ha := Aside0.mk ha
         have HO_6 := Aside0.mk Q_HO_6
         have HB := Aside0.mk Q_HB
         have hs0_ : w'.cell? ad265 = some (.int .u64 (rd l0 0)) := ((HB.out.cell (World.block_lt_of_cell? w _ hw265_0)).trans hw265_0)
         refine value_ (w1 := w') (v := .int .u64 (rd l0 0)) (by rfl) rfl ?_ ?_
         ·go_simp
          (try simp only [i64_w])
          try rfl
         refine hK.out _ _ ⟨v268, v271, v276, v279, m18_, m19_, (by rw [ha.out]; exact putSel_upk 1 hb_ rfl rfl rfl), Q_HO_6, Q_HB, fun h0_ => absurd ((hoff 7 (by kernel_rfl)).symm.trans h0_) (by decide), fun h0_ => absurd ((hoff 8 (by kernel_rfl)).symm.trans h0_) (by decide), Q_HO277, fun h0_ => absurd ((hoff 17 (by kernel_rfl)).symm.trans h0_) (by decide), fun h0_ => absurd ((hoff 18 (by kernel_rfl)).symm.trans h0_) (by decide), fun h0_ => absurd ((hoff 19 (by kernel_rfl)).symm.trans h0_) (by decide)⟩
        refine steps_cons ?_ ?_
        ·rintro b a w' ⟨v268, v271, v276, v279, m18_, m19_, ha, Q_HO_6, Q_HB, Q_HO269, Q_HO272, Q_HO277, Q_HO280, Q_X18_, Q_X19_⟩ hb_ hon hoff
         refine ⟨_, rfl, fun K hK => ?_⟩
         have e22 : a.tmps[22]? = some (.slice (some ad266) l1.length c1) := by rw [ha]; exact (putSel_off rfl).trans rfl
         replace ha := Aside0.mk ha
         have HO_6 := Aside0.mk Q_HO_6
         have HB := Aside0.mk Q_HB
         have hs1_ : w'.cell? ad266 = some (.int .u64 (rd l1 0)) := ((HB.out.cell (World.block_lt_of_cell? w _ hw266_0)).trans hw266_0)
         refine value_ (w1 := w') (v := .pointer (some ad266)) (by rfl) rfl ?_ ?_
         ·go_simp
          (try simp only [i64_w])
          try rfl
         refine hK.out _ _ ⟨v268, v271, v276, v279, m18_, m19_, (by rw [ha.out]; exact putSel_upk 2 hb_ rfl rfl rfl), Q_HO_6, Q_HB, fun h0_ => absurd ((hoff 7 (by kernel_rfl)).symm.trans h0_) (by decide), fun h0_ => absurd ((hoff 8 (by kernel_rfl)).symm.trans h0_) (by decide), Q_HO277, fun h0_ => absurd ((hoff 17 (by kernel_rfl)).symm.trans h0_) (by decide), fun h0_ => absurd ((hoff 18 (by kernel_rfl)).symm.trans h0_) (by decide), fun h0_ => absurd ((hoff 19 (by kernel_rfl)).symm.trans h0_) (by decide)⟩
        refine steps_cons ?_ ?_
        ·rintro b a w' ⟨v268, v271, v276, v279, m18_, m19_, ha, Q_HO_6, Q_HB, Q_HO269, Q_HO272, Q_HO277, Q_HO280, Q_X18_, Q_X19_⟩ hb_ hon hoff
         refine ⟨_, rfl, fun K hK => ?_⟩
         have e23 : a.tmps[23]? = some (.pointer (some ad266)) := by rw [ha]; exact putSel_on (e := (4, 23, .pointer (some ad266))) 2 rfl rfl (hon 4 (by kernel_rfl)) rfl
         replace ha := Aside0.mk ha
         have HO_6 := Aside0.mk Q_HO_6
         have HB := Aside0.mk Q_HB
         have hs1_ : w'.cell? ad266 = some (.int .u64 (rd l1 0)) := ((HB.out.cell (World.block_lt_of_cell? w _ hw266_0)).trans hw266_0)
         refine value_ (w1 := w') (v := .int .u64 (rd l1 0)) (by rfl) rfl ?_ ?_
         ·go_simp
          (try simp only [i64_w])
          try rfl
         refine hK.out _ _ ⟨v268, v271, v276, v279, m18_, m19_, (by rw [ha.out]; exact putSel_upk 3 hb_ rfl rfl rfl), Q_HO_6, Q_HB, fun h0_ => absurd ((hoff 7 (by kernel_rfl)).symm.trans h0_) (by decide), fun h0_ => absurd ((hoff 8 (by kernel_rfl)).symm.trans h0_) (by decide), Q_HO277, fun h0_ => absurd ((hoff 17 (by kernel_rfl)).symm.trans h0_) (by decide), fun h0_ => absurd ((hoff 18 (by kernel_rfl)).symm.trans h0_) (by decide), fun h0_ => absurd ((hoff 19 (by kernel_rfl)).symm.trans h0_) (by decide)⟩
        refine steps_cons ?_ ?_
        ·rintro b a w' ⟨v268, v271, v276, v279, m18_, m19_, ha, Q_HO_6, Q_HB, Q_HO269, Q_HO272, Q_HO277, Q_HO280, Q_X18_, Q_X19_⟩ hb_ hon hoff
         refine ⟨_, rfl, fun K hK => ?_⟩
         have e21 : a.tmps[21]? = some (.int .u64 (rd l0 0)) := by rw [ha]; exact putSel_on (e := (2, 21, .int .u64 (rd l0 0))) 1 rfl rfl (hon 2 (by kernel_rfl)) rfl
         have e24 : a.tmps[24]? = some (.int .u64 (rd l1 0)) := by rw [ha]; exact putSel_on (e := (5, 24, .int .u64 (rd l1 0))) 3 rfl rfl (hon 5 (by kernel_rfl)) rfl
         replace ha := Aside0.mk ha
         have HO_6 := Aside0.mk Q_HO_6
         have HB := Aside0.mk Q_HB
         refine value_ (w1 := w') (v := .int .u64 (IntKind.u64.wrap (Int.tdiv (rd l0 0) (rd l1 0)))) (by rfl) rfl ?_ ?_
         ·go_simp
          (try simp only [i64_w])
          try rfl
         refine hK.out _ _ ⟨v268, v271, v276, v279, m18_, m19_, (by rw [ha.out]; exact putSel_upk 4 hb_ rfl rfl rfl), Q_HO_6, Q_HB, fun h0_ => absurd ((hoff 7 (by kernel_rfl)).symm.trans h0_) (by decide), fun h0_ => absurd ((hoff 8 (by kernel_rfl)).symm.trans h0_) (by decide), Q_HO277, fun h0_ => absurd ((hoff 17 (by kernel_rfl)).symm.trans h0_) (by decide), fun h0_ => absurd ((hoff 18 (by kernel_rfl)).symm.trans h0_) (by decide), fun h0_ => absurd ((hoff 19 (by kernel_rfl)).symm.trans h0_) (by decide)⟩
        refine steps_cons ?_ ?_
        ·rintro b a w' ⟨v268, v271, v276, v279, m18_, m19_, ha, Q_HO_6, Q_HB, Q_HO269, Q_HO272, Q_HO277, Q_HO280, Q_X18_, Q_X19_⟩ hb_ hon hoff
         refine ⟨_, rfl, fun K hK => ?_⟩
         have e25 : a.tmps[25]? = some (.int .u64 (IntKind.u64.wrap (Int.tdiv (rd l0 0) (rd l1 0)))) := by rw [ha]; exact putSel_on (e := (6, 25, .int .u64 (IntKind.u64.wrap (Int.tdiv (rd l0 0) (rd l1 0))))) 4 rfl rfl (hon 6 (by kernel_rfl)) rfl
         replace ha := Aside0.mk ha
         have HO_6 := Aside0.mk Q_HO_6
         have HB := Aside0.mk Q_HB
         refine Kd.R_lit_step (Kd.int .u64) _ 22 ?hg (N := 26) ?hd (xs := ([IntKind.u64.wrap (Int.tdiv (rd l0 0) (rd l1 0))] : List Int)) (inner := [.int .u64 (IntKind.u64.wrap (Int.tdiv (rd l0 0) (rd l1 0)))]) (ok := fun _ => True) (okp := fun _ => True) ?hr ?hp (fun _ hk => by first | exact hk | trivial | (intro h_; cases h_) | exact ⟨(fun h_ => by cases h_), fun h0_ => absurd ((hoff 17 (by kernel_rfl)).symm.trans h0_) (by decide)⟩ | exact ⟨hk.1.1, fun _ => hk.2⟩ | exact ⟨hk.1.1.1.2, hk.1.2⟩ | exact hk.2 hb17_ | exact hk.2 | exact hk.1 | exact hk) trivial (Below.refl _ _) (Nat.le_refl _) (by simp) ?_; (case hd => rfl); (case hg => rfl); (case hr => first | (go_simp; done) | (go_simp; rfl)); (case hp => exact (Reps.one (show Kd.M (Kd.int .u64) _ _ _ (IntKind.u64.wrap (Int.tdiv (rd l0 0) (rd l1 0))) [.int .u64 (IntKind.u64.wrap (Int.tdiv (rd l0 0) (rd l1 0)))] from rfl) (Reps.none _ _)))
         intro v268 w14 ho15 hb hg_ hnew_
         clear hg_ hnew_
         (first | rw [← Ny267.out] at ho15 | (simp only [Int.reduceToNat] at ho15; rw [← Ny267.out] at ho15))
         have n0_ := Aside0.mk (Kd.R_elder' (st HO_6.out) (Kd.R_base ho15) hb)
         have n1_ := Aside0.mk (Kd.R_lower (Kd.R_new' ho15 (Kd.R_lt (st HO_6.out))) (below_size (bb HB.out)))
         have n2_ := Aside0.mk (below_step (bb HB.out) hb)
         have z_HO277 := fun (h0_ : b 16 = true) => (show Kd.R (Kd.int .u64) 22 w14 w.heap.size (fun k_ => some k_ ≠ (.slice none 0 0 : Value).ownBlock) v276 y275 from by first | exact (Kd.R_elder' (st (Q_HO277 h0_)) (Kd.R_base ho15) hb) | exact Kd.R_mono (Kd.R_elder' (st (Q_HO277 h0_)) (Kd.R_base ho15) hb) (fun _ h_ => by first | trivial | exact h_ | exact h_.1))
         clear HO_6
         clear HB
         have HO_6 := n0_
         have HO269 := n1_
         have HB := n2_
         clear n0_ n1_ n2_
         clear hb ho15
         refine hK.out _ _ ⟨v268, v271, v276, v279, m18_, m19_, (by rw [ha.out]; exact putSel_upk 5 hb_ rfl rfl rfl), (st (Kd.R_mono HO_6.out (fun _ hk => by first | exact hk.2 | trivial | (intro h_; cases h_) | exact ⟨(fun h_ => by cases h_), fun h0_ => absurd ((hoff 17 (by kernel_rfl)).symm.trans h0_) (by decide)⟩ | exact ⟨hk.1.1, fun _ => hk.2⟩ | exact ⟨hk.1.1.1.2, hk.1.2⟩ | exact hk.2 hb17_ | exact hk.2 | exact hk.1 | exact hk))), (bb HB.out), fun _ => (st (Kd.R_mono HO269.out (fun _ hk => by first | exact hk.2 | trivial | (intro h_; cases h_) | exact ⟨(fun h_ => by cases h_), fun h0_ => absurd ((hoff 17 (by kernel_rfl)).symm.trans h0_) (by decide)⟩ | exact ⟨hk.1.1, fun _ => hk.2⟩ | exact ⟨hk.1.1.1.2, hk.1.2⟩ | exact hk.2 hb17_ | exact hk.2 | exact hk.1 | exact hk))), fun h0_ => absurd ((hoff 8 (by kernel_rfl)).symm.trans h0_) (by decide), z_HO277, fun h0_ => absurd ((hoff 17 (by kernel_rfl)).symm.trans h0_) (by decide), fun h0_ => absurd ((hoff 18 (by kernel_rfl)).symm.trans h0_) (by decide), fun h0_ => absurd ((hoff 19 (by kernel_rfl)).symm.trans h0_) (by decide)⟩
        refine steps_cons ?_ ?_
        ·rintro b a w' ⟨v268, v271, v276, v279, m18_, m19_, ha, Q_HO_6, Q_HB, Q_HO269, Q_HO272, Q_HO277, Q_HO280, Q_X18_, Q_X19_⟩ hb_ hon hoff
         refine ⟨_, rfl, fun K hK => ?_⟩
         have e26 : a.tmps[26]? = some (v268) := by rw [ha]; exact putSel_on (e := (7, 26, v268)) 5 rfl rfl (hon 7 (by kernel_rfl)) rfl
         replace ha := Aside0.mk ha
         have HO_6 := Aside0.mk Q_HO_6
         have HB := Aside0.mk Q_HB
         have HO269 := Aside0.mk (Q_HO269 (hon 7 (by kernel_rfl)))
         obtain ⟨Ao17, co17, eo17⟩ := Kd.R_slice HO269.out
         (first | subst eo17 | (injection eo17 with f1_ f2_ f3_; have f4_ := f1_.symm; have f5_ := f3_.symm; clear f1_ f2_ f3_; subst f4_; subst f5_))
         refine goes_ Try.func140 (by kernel_rfl) rfl #[.slice Ao17 y267.length co17] (by rfl) rfl rfl (by (try simp only [List.map_toArray, List.map_cons, List.map_nil]); first | done | rfl | (simp only [List.length_drop, List.length_take]; rfl) | (go_simp; done) | (go_simp; rfl) | (simp only [*]; done)) ?_
         with_reducible refine (gradineref02_Trim.calls kj2 _ _ y267 t270 _ ?side1 ?side2 A11.out).mono ?_
         (case side1 => exact cs (Kd.R_reads' HO269.out).2.2)
         (case side2 => exact (Kd.R_reads' HO269.out).2.1)
         rintro e w18 ⟨v271, rfl, ho0, hb⟩
         refine ⟨_, rfl, ?_⟩
         have n0_ := Aside0.mk (Kd.R_elder' (st HO_6.out) (Kd.R_base ho0) hb)
         have n1_ := Aside0.mk (Kd.R_elder' (st HO269.out) (Kd.R_base ho0) hb)
         have n2_ := Aside0.mk (Kd.R_lower (Kd.R_new' (Kd.R_new' ho0 (Kd.R_lt (st HO_6.out))) (Kd.R_lt (st HO269.out))) (below_size (bb HB.out)))
         have n3_ := Aside0.mk (below_step (bb HB.out) hb)
         have z_HO277 := fun (h0_ : b 16 = true) => (show Kd.R (Kd.int .u64) 22 w18 w.heap.size (fun k_ => some k_ ≠ (.slice none 0 0 : Value).ownBlock) v276 y275 from by first | exact (Kd.R_elder' (st (Q_HO277 h0_)) (Kd.R_base ho0) hb) | exact Kd.R_mono (Kd.R_elder' (st (Q_HO277 h0_)) (Kd.R_base ho0) hb) (fun _ h_ => by first | trivial | exact h_ | exact h_.1))
         clear HO_6
         clear HO269
         clear HB
         have HO_6 := n0_
         have HO269 := n1_
         have HO272 := n2_
         have HB := n3_
         clear n0_ n1_ n2_ n3_
         refine hK.out _ _ ⟨.slice Ao17 y267.length co17, v271, v276, v279, m18_, m19_, (by rw [ha.out]; exact putSel_upk 6 hb_ rfl rfl rfl), (by (with_reducible repeat (first | apply Kd.R_alloc | apply Kd.R_drewN | apply Kd.R_drew)); first | exact HO_6.out | exact Kd.R_mono HO_6.out (fun _ h_ => by first | trivial | (intro k_; cases k_) | exact h_.2 | exact h_.1 | exact h_)), (bb HB.out), fun _ => (st (Kd.R_mono HO269.out (fun _ hk => by first | exact ⟨hk.2, hk.1⟩ | trivial | (intro h_; cases h_) | exact ⟨(fun h_ => by cases h_), fun h0_ => absurd ((hoff 17 (by kernel_rfl)).symm.trans h0_) (by decide)⟩ | exact ⟨hk.1.1, fun _ => hk.2⟩ | exact ⟨hk.1.1.1.2, hk.1.2⟩ | exact hk.2 hb17_ | exact hk.2 | exact hk.1 | exact hk))), fun _ => (st (Kd.R_mono HO272.out (fun _ hk => by first | exact ⟨hk.2, hk.1.2⟩ | trivial | (intro h_; cases h_) | exact ⟨(fun h_ => by cases h_), fun h0_ => absurd ((hoff 17 (by kernel_rfl)).symm.trans h0_) (by decide)⟩ | exact ⟨hk.1.1, fun _ => hk.2⟩ | exact ⟨hk.1.1.1.2, hk.1.2⟩ | exact hk.2 hb17_ | exact hk.2 | exact hk.1 | exact hk))), z_HO277, fun h0_ => absurd ((hoff 17 (by kernel_rfl)).symm.trans h0_) (by decide), fun h0_ => absurd ((hoff 18 (by kernel_rfl)).symm.trans h0_) (by decide), fun h0_ => absurd ((hoff 19 (by kernel_rfl)).symm.trans h0_) (by decide)⟩
        refine steps_cons ?_ ?_
        ·rintro b a w' ⟨v268, v271, v276, v279, m18_, m19_, ha, Q_HO_6, Q_HB, Q_HO269, Q_HO272, Q_HO277, Q_HO280, Q_X18_, Q_X19_⟩ hb_ hon hoff
         refine ⟨_, rfl, fun K hK => ?_⟩
         have e28 : a.tmps[28]? = some (.slice (some ad265) l0.length c0) := by rw [ha]; exact (putSel_off rfl).trans rfl
         replace ha := Aside0.mk ha
         have HO_6 := Aside0.mk Q_HO_6
         have HB := Aside0.mk Q_HB
         have hs2_ : w'.cell? ad265 = some (.int .u64 (rd l0 0)) := ((HB.out.cell (World.block_lt_of_cell? w _ hw273_0)).trans hw273_0)
         refine value_ (w1 := w') (v := .pointer (some ad265)) (by rfl) rfl ?_ ?_
         ·go_simp
          (try simp only [i64_w])
          try rfl
         refine hK.out _ _ ⟨v268, v271, v276, v279, m18_, m19_, (by rw [ha.out]; exact putSel_upk 7 hb_ rfl rfl rfl), Q_HO_6, Q_HB, Q_HO269, Q_HO272, fun h0_ => absurd ((hoff 16 (by kernel_rfl)).symm.trans h0_) (by decide), fun h0_ => absurd ((hoff 17 (by kernel_rfl)).symm.trans h0_) (by decide), fun h0_ => absurd ((hoff 18 (by kernel_rfl)).symm.trans h0_) (by decide), fun h0_ => absurd ((hoff 19 (by kernel_rfl)).symm.trans h0_) (by decide)⟩
        refine steps_cons ?_ ?_
        ·rintro b a w' ⟨v268, v271, v276, v279, m18_, m19_, ha, Q_HO_6, Q_HB, Q_HO269, Q_HO272, Q_HO277, Q_HO280, Q_X18_, Q_X19_⟩ hb_ hon hoff
         refine ⟨_, rfl, fun K hK => ?_⟩
         have e29 : a.tmps[29]? = some (.pointer (some ad265)) := by rw [ha]; exact putSel_on (e := (10, 29, .pointer (some ad265))) 7 rfl rfl (hon 10 (by kernel_rfl)) rfl
         replace ha := Aside0.mk ha
         have HO_6 := Aside0.mk Q_HO_6
         have HB := Aside0.mk Q_HB
         have hs2_ : w'.cell? ad265 = some (.int .u64 (rd l0 0)) := ((HB.out.cell (World.block_lt_of_cell? w _ hw273_0)).trans hw273_0)
         refine value_ (w1 := w') (v := .int .u64 (rd l0 0)) (by rfl) rfl ?_ ?_
         ·go_simp
          (try simp only [i64_w])
          try rfl
         refine hK.out _ _ ⟨v268, v271, v276, v279, m18_, m19_, (by rw [ha.out]; exact putSel_upk 8 hb_ rfl rfl rfl), Q_HO_6, Q_HB, Q_HO269, Q_HO272, fun h0_ => absurd ((hoff 16 (by kernel_rfl)).symm.trans h0_) (by decide), fun h0_ => absurd ((hoff 17 (by kernel_rfl)).symm.trans h0_) (by decide), fun h0_ => absurd ((hoff 18 (by kernel_rfl)).symm.trans h0_) (by decide), fun h0_ => absurd ((hoff 19 (by kernel_rfl)).symm.trans h0_) (by decide)⟩
        refine steps_cons ?_ ?_
        ·rintro b a w' ⟨v268, v271, v276, v279, m18_, m19_, ha, Q_HO_6, Q_HB, Q_HO269, Q_HO272, Q_HO277, Q_HO280, Q_X18_, Q_X19_⟩ hb_ hon hoff
         refine ⟨_, rfl, fun K hK => ?_⟩
         have e31 : a.tmps[31]? = some (.slice (some ad266) l1.length c1) := by rw [ha]; exact (putSel_off rfl).trans rfl
         replace ha := Aside0.mk ha
         have HO_6 := Aside0.mk Q_HO_6
         have HB := Aside0.mk Q_HB
         have hs3_ : w'.cell? ad266 = some (.int .u64 (rd l1 0)) := ((HB.out.cell (World.block_lt_of_cell? w _ hw274_0)).trans hw274_0)
         refine value_ (w1 := w') (v := .pointer (some ad266)) (by rfl) rfl ?_ ?_
         ·go_simp
          (try simp only [i64_w])
          try rfl
         refine hK.out _ _ ⟨v268, v271, v276, v279, m18_, m19_, (by rw [ha.out]; exact putSel_upk 9 hb_ rfl rfl rfl), Q_HO_6, Q_HB, Q_HO269, Q_HO272, fun h0_ => absurd ((hoff 16 (by kernel_rfl)).symm.trans h0_) (by decide), fun h0_ => absurd ((hoff 17 (by kernel_rfl)).symm.trans h0_) (by decide), fun h0_ => absurd ((hoff 18 (by kernel_rfl)).symm.trans h0_) (by decide), fun h0_ => absurd ((hoff 19 (by kernel_rfl)).symm.trans h0_) (by decide)⟩
        refine steps_cons ?_ ?_
        ·rintro b a w' ⟨v268, v271, v276, v279, m18_, m19_, ha, Q_HO_6, Q_HB, Q_HO269, Q_HO272, Q_HO277, Q_HO280, Q_X18_, Q_X19_⟩ hb_ hon hoff
         refine ⟨_, rfl, fun K hK => ?_⟩
         have e32 : a.tmps[32]? = some (.pointer (some ad266)) := by rw [ha]; exact putSel_on (e := (13, 32, .pointer (some ad266))) 9 rfl rfl (hon 13 (by kernel_rfl)) rfl
         replace ha := Aside0.mk ha
         have HO_6 := Aside0.mk Q_HO_6
         have HB := Aside0.mk Q_HB
         have hs3_ : w'.cell? ad266 = some (.int .u64 (rd l1 0)) := ((HB.out.cell (World.block_lt_of_cell? w _ hw274_0)).trans hw274_0)
         refine value_ (w1 := w') (v := .int .u64 (rd l1 0)) (by rfl) rfl ?_ ?_
         ·go_simp
          (try simp only [i64_w])
          try rfl
         refine hK.out _ _ ⟨v268, v271, v276, v279, m18_, m19_, (by rw [ha.out]; exact putSel_upk 10 hb_ rfl rfl rfl), Q_HO_6, Q_HB, Q_HO269, Q_HO272, fun h0_ => absurd ((hoff 16 (by kernel_rfl)).symm.trans h0_) (by decide), fun h0_ => absurd ((hoff 17 (by kernel_rfl)).symm.trans h0_) (by decide), fun h0_ => absurd ((hoff 18 (by kernel_rfl)).symm.trans h0_) (by decide), fun h0_ => absurd ((hoff 19 (by kernel_rfl)).symm.trans h0_) (by decide)⟩
        refine steps_cons ?_ ?_
        ·rintro b a w' ⟨v268, v271, v276, v279, m18_, m19_, ha, Q_HO_6, Q_HB, Q_HO269, Q_HO272, Q_HO277, Q_HO280, Q_X18_, Q_X19_⟩ hb_ hon hoff
         refine ⟨_, rfl, fun K hK => ?_⟩
         have e30 : a.tmps[30]? = some (.int .u64 (rd l0 0)) := by rw [ha]; exact putSel_on (e := (11, 30, .int .u64 (rd l0 0))) 8 rfl rfl (hon 11 (by kernel_rfl)) rfl
         have e33 : a.tmps[33]? = some (.int .u64 (rd l1 0)) := by rw [ha]; exact putSel_on (e := (14, 33, .int .u64 (rd l1 0))) 10 rfl rfl (hon 14 (by kernel_rfl)) rfl
         replace ha := Aside0.mk ha
         have HO_6 := Aside0.mk Q_HO_6
         have HB := Aside0.mk Q_HB
         refine value_ (w1 := w') (v := .int .u64 (Int.tmod (rd l0 0) (rd l1 0))) (by rfl) rfl ?_ ?_
         ·go_simp
          (try simp only [i64_w])
          try rfl
         refine hK.out _ _ ⟨v268, v271, v276, v279, m18_, m19_, (by rw [ha.out]; exact putSel_upk 11 hb_ rfl rfl rfl), Q_HO_6, Q_HB, Q_HO269, Q_HO272, fun h0_ => absurd ((hoff 16 (by kernel_rfl)).symm.trans h0_) (by decide), fun h0_ => absurd ((hoff 17 (by kernel_rfl)).symm.trans h0_) (by decide), fun h0_ => absurd ((hoff 18 (by kernel_rfl)).symm.trans h0_) (by decide), fun h0_ => absurd ((hoff 19 (by kernel_rfl)).symm.trans h0_) (by decide)⟩
        refine steps_cons ?_ ?_
        ·rintro b a w' ⟨v268, v271, v276, v279, m18_, m19_, ha, Q_HO_6, Q_HB, Q_HO269, Q_HO272, Q_HO277, Q_HO280, Q_X18_, Q_X19_⟩ hb_ hon hoff
         refine ⟨_, rfl, fun K hK => ?_⟩
         have e34 : a.tmps[34]? = some (.int .u64 (Int.tmod (rd l0 0) (rd l1 0))) := by rw [ha]; exact putSel_on (e := (15, 34, .int .u64 (Int.tmod (rd l0 0) (rd l1 0)))) 11 rfl rfl (hon 15 (by kernel_rfl)) rfl
         replace ha := Aside0.mk ha
         have HO_6 := Aside0.mk Q_HO_6
         have HB := Aside0.mk Q_HB
         refine Kd.R_lit_step (Kd.int .u64) _ 22 ?hg (N := 35) ?hd (xs := ([Int.tmod (rd l0 0) (rd l1 0)] : List Int)) (inner := [.int .u64 (Int.tmod (rd l0 0) (rd l1 0))]) (ok := fun _ => True) (okp := fun _ => True) ?hr ?hp (fun _ hk => by first | exact hk | trivial | (intro h_; cases h_) | exact ⟨(fun h_ => by cases h_), fun h0_ => absurd ((hoff 17 (by kernel_rfl)).symm.trans h0_) (by decide)⟩ | exact ⟨hk.1.1, fun _ => hk.2⟩ | exact ⟨hk.1.1.1.2, hk.1.2⟩ | exact hk.2 hb17_ | exact hk.2 | exact hk.1 | exact hk) trivial (Below.refl _ _) (Nat.le_refl _) (by simp) ?_; (case hd => rfl); (case hg => rfl); (case hr => first | (go_simp; done) | (go_simp; rfl)); (case hp => exact (Reps.one (show Kd.M (Kd.int .u64) _ _ _ (Int.tmod (rd l0 0) (rd l1 0)) [.int .u64 (Int.tmod (rd l0 0) (rd l1 0))] from rfl) (Reps.none _ _)))
         intro v276 w14 ho15 hb hg_ hnew_
         clear hg_ hnew_
         (first | rw [← Ny275.out] at ho15 | (simp only [Int.reduceToNat] at ho15; rw [← Ny275.out] at ho15))
         have n0_ := Aside0.mk (Kd.R_elder' (st HO_6.out) (Kd.R_base ho15) hb)
         have n1_ := Aside0.mk (Kd.R_lower (Kd.R_new' ho15 (Kd.R_lt (st HO_6.out))) (below_size (bb HB.out)))
         have n2_ := Aside0.mk (below_step (bb HB.out) hb)
         have z_HO269 := fun (h0_ : b 7 = true) => (show Kd.R (Kd.int .u64) 22 w14 w.heap.size (fun k_ => some k_ ≠ (.slice none 0 0 : Value).ownBlock) v268 y267 from by first | exact (Kd.R_elder' (st (Q_HO269 h0_)) (Kd.R_base ho15) hb) | exact Kd.R_mono (Kd.R_elder' (st (Q_HO269 h0_)) (Kd.R_base ho15) hb) (fun _ h_ => by first | trivial | exact h_ | exact h_.1))
         have z_HO272 := fun (h0_ : b 8 = true) => (show Kd.R (Kd.int .u64) 22 w14 w.heap.size (fun k_ => some k_ ≠ (.slice none 0 0 : Value).ownBlock ∧ (b 17 = true → some k_ ≠ (v279 : Value).ownBlock)) v271 t270 from by first | exact (Kd.R_elder' (st (Q_HO272 h0_)) (Kd.R_base ho15) hb) | exact Kd.R_mono (Kd.R_elder' (st (Q_HO272 h0_)) (Kd.R_base ho15) hb) (fun _ h_ => by first | trivial | exact h_ | exact h_.1))
         clear HO_6
         clear HB
         have HO_6 := n0_
         have HO277 := n1_
         have HB := n2_
         clear n0_ n1_ n2_
         clear hb ho15
         refine hK.out _ _ ⟨v268, v271, v276, v279, m18_, m19_, (by rw [ha.out]; exact putSel_upk 12 hb_ rfl rfl rfl), (st (Kd.R_mono HO_6.out (fun _ hk => by first | exact hk.2 | trivial | (intro h_; cases h_) | exact ⟨(fun h_ => by cases h_), fun h0_ => absurd ((hoff 17 (by kernel_rfl)).symm.trans h0_) (by decide)⟩ | exact ⟨hk.1.1, fun _ => hk.2⟩ | exact ⟨hk.1.1.1.2, hk.1.2⟩ | exact hk.2 hb17_ | exact hk.2 | exact hk.1 | exact hk))), (bb HB.out), z_HO269, z_HO272, fun _ => (st (Kd.R_mono HO277.out (fun _ hk => by first | exact hk.2 | trivial | (intro h_; cases h_) | exact ⟨(fun h_ => by cases h_), fun h0_ => absurd ((hoff 17 (by kernel_rfl)).symm.trans h0_) (by decide)⟩ | exact ⟨hk.1.1, fun _ => hk.2⟩ | exact ⟨hk.1.1.1.2, hk.1.2⟩ | exact hk.2 hb17_ | exact hk.2 | exact hk.1 | exact hk))), fun h0_ => absurd ((hoff 17 (by kernel_rfl)).symm.trans h0_) (by decide), fun h0_ => absurd ((hoff 18 (by kernel_rfl)).symm.trans h0_) (by decide), fun h0_ => absurd ((hoff 19 (by kernel_rfl)).symm.trans h0_) (by decide)⟩
        refine steps_cons ?_ ?_
        ·rintro b a w' ⟨v268, v271, v276, v279, m18_, m19_, ha, Q_HO_6, Q_HB, Q_HO269, Q_HO272, Q_HO277, Q_HO280, Q_X18_, Q_X19_⟩ hb_ hon hoff
         refine ⟨_, rfl, fun K hK => ?_⟩
         have e35 : a.tmps[35]? = some (v276) := by rw [ha]; exact putSel_on (e := (16, 35, v276)) 12 rfl rfl (hon 16 (by kernel_rfl)) rfl
         replace ha := Aside0.mk ha
         have HO_6 := Aside0.mk Q_HO_6
         have HB := Aside0.mk Q_HB
         have HO269 := Aside0.mk (Q_HO269 (hon 7 (by kernel_rfl)))
         have HO272 := Aside0.mk (Q_HO272 (hon 8 (by kernel_rfl)))
         have HO277 := Aside0.mk (Q_HO277 (hon 16 (by kernel_rfl)))
         obtain ⟨Ao21, co21, eo21⟩ := Kd.R_slice HO277.out
         (first | subst eo21 | (injection eo21 with f1_ f2_ f3_; have f4_ := f1_.symm; have f5_ := f3_.symm; clear f1_ f2_ f3_; subst f4_; subst f5_))
         refine goes_ Try.func140 (by kernel_rfl) rfl #[.slice Ao21 y275.length co21] (by rfl) rfl rfl (by (try simp only [List.map_toArray, List.map_cons, List.map_nil]); first | done | rfl | (simp only [List.length_drop, List.length_take]; rfl) | (go_simp; done) | (go_simp; rfl) | (simp only [*]; done)) ?_
         with_reducible refine (gradineref02_Trim.calls kj2 _ _ y275 t278 _ ?side1 ?side2 A12.out).mono ?_
         (case side1 => exact cs (Kd.R_reads' HO277.out).2.2)
         (case side2 => exact (Kd.R_reads' HO277.out).2.1)
         rintro e w22 ⟨v279, rfl, ho0, hb⟩
         refine ⟨_, rfl, ?_⟩
         refine sw6 ⟨Kd.R_elder' (st HO_6.out) (Kd.R_base ho0) hb⟩ ⟨Kd.R_elder' (st HO269.out) (Kd.R_base ho0) hb⟩ ⟨Kd.R_elder' (st HO272.out) (Kd.R_base ho0) hb⟩ ⟨Kd.R_elder' (st HO277.out) (Kd.R_base ho0) hb⟩ ⟨Kd.R_lower (Kd.R_new' (Kd.R_new' (Kd.R_new' (Kd.R_new' ho0 (Kd.R_lt (st HO_6.out))) (Kd.R_lt (st HO269.out))) (Kd.R_lt (st HO272.out))) (Kd.R_lt (st HO277.out))) (below_size (bb HB.out))⟩ ⟨below_step (bb HB.out) hb⟩ ?_
         clear HO_6 HO269 HO272 HO277 HB
         intro HO_6 HO269 HO272 HO277 HO280 HB
         refine hK.out _ _ ⟨v268, v271, .slice Ao21 y275.length co21, v279, m18_, m19_, (by rw [ha.out]; exact putSel_upk 13 hb_ rfl rfl rfl), (st (Kd.R_mono HO_6.out (fun _ hk => by first | exact ⟨hk.1.1, ⟨hk.1.2.1, ⟨hk.1.2.2, hk.2⟩⟩⟩ | trivial | (intro h_; cases h_) | exact ⟨(fun h_ => by cases h_), fun h0_ => absurd ((hoff 17 (by kernel_rfl)).symm.trans h0_) (by decide)⟩ | exact ⟨hk.1.1, fun _ => hk.2⟩ | exact ⟨hk.1.1.1.2, hk.1.2⟩ | exact hk.2 hb17_ | exact hk.2 | exact hk.1 | exact hk))), (bb HB.out), fun _ => (st (Kd.R_mono HO269.out (fun _ hk => by first | exact ⟨hk.1.1, ⟨hk.1.2.1, ⟨hk.2, hk.1.2.2⟩⟩⟩ | trivial | (intro h_; cases h_) | exact ⟨(fun h_ => by cases h_), fun h0_ => absurd ((hoff 17 (by kernel_rfl)).symm.trans h0_) (by decide)⟩ | exact ⟨hk.1.1, fun _ => hk.2⟩ | exact ⟨hk.1.1.1.2, hk.1.2⟩ | exact hk.2 hb17_ | exact hk.2 | exact hk.1 | exact hk))), fun _ => (st (Kd.R_mono HO272.out (fun _ hk => by first | exact ⟨hk.1.1, ⟨hk.1.2.1, ⟨hk.2, hk.1.2.2⟩⟩⟩ | trivial | (intro h_; cases h_) | exact ⟨(fun h_ => by cases h_), fun h0_ => absurd ((hoff 17 (by kernel_rfl)).symm.trans h0_) (by decide)⟩ | exact ⟨hk.1.1, fun _ => hk.2⟩ | exact ⟨hk.1.1.1.2, hk.1.2⟩ | exact hk.2 hb17_ | exact hk.2 | exact hk.1 | exact hk))), fun _ => (st (Kd.R_mono HO277.out (fun _ hk => by first | exact ⟨hk.1.1, ⟨hk.1.2.1, ⟨hk.2, hk.1.2.2⟩⟩⟩ | trivial | (intro h_; cases h_) | exact ⟨(fun h_ => by cases h_), fun h0_ => absurd ((hoff 17 (by kernel_rfl)).symm.trans h0_) (by decide)⟩ | exact ⟨hk.1.1, fun _ => hk.2⟩ | exact ⟨hk.1.1.1.2, hk.1.2⟩ | exact hk.2 hb17_ | exact hk.2 | exact hk.1 | exact hk))), fun _ => (st (Kd.R_mono HO280.out (fun _ hk => by first | exact ⟨hk.1.1.2, ⟨hk.1.2, ⟨hk.2, hk.1.1.1.2⟩⟩⟩ | trivial | (intro h_; cases h_) | exact ⟨(fun h_ => by cases h_), fun h0_ => absurd ((hoff 17 (by kernel_rfl)).symm.trans h0_) (by decide)⟩ | exact ⟨hk.1.1, fun _ => hk.2⟩ | exact ⟨hk.1.1.1.2, hk.1.2⟩ | exact hk.2 hb17_ | exact hk.2 | exact hk.1 | exact hk))), fun h0_ => absurd ((hoff 18 (by kernel_rfl)).symm.trans h0_) (by decide), fun h0_ => absurd ((hoff 19 (by kernel_rfl)).symm.trans h0_) (by decide)⟩
        refine steps_cons ?_ ?_
        ·rintro b a w' ⟨v268, v271, v276, v279, m18_, m19_, ha, Q_HO_6, Q_HB, Q_HO269, Q_HO272, Q_HO277, Q_HO280, Q_X18_, Q_X19_⟩ hb_ hon hoff
         refine ⟨_, rfl, fun K hK => ?_⟩
         have e27 : a.tmps[27]? = some (v271) := by rw [ha]; exact putSel_on (e := (8, 27, v271)) 6 rfl rfl (hon 8 (by kernel_rfl)) rfl
         replace ha := Aside0.mk ha
         have HO_6 := Aside0.mk Q_HO_6
         have HB := Aside0.mk Q_HB
         have HO269 := Aside0.mk (Q_HO269 (hon 7 (by kernel_rfl)))
         have HO272 := Aside0.mk (Q_HO272 (hon 8 (by kernel_rfl)))
         have HO277 := Aside0.mk (Q_HO277 (hon 16 (by kernel_rfl)))
         have HO280 := Aside0.mk (Q_HO280 (hon 17 (by kernel_rfl)))
         refine value_ (w1 := w') (v := v271) (by rfl) rfl ?_ ?_
         ·go_simp
          (try simp only [i64_w])
          try rfl
         refine hK.out _ _ ⟨v268, v271, v276, v279, (v271), m19_, (by rw [ha.out]; exact putSel_upk 14 hb_ rfl rfl rfl), Q_HO_6, Q_HB, Q_HO269, Q_HO272, Q_HO277, Q_HO280, fun _ => rfl, fun h0_ => absurd ((hoff 19 (by kernel_rfl)).symm.trans h0_) (by decide)⟩
        refine steps_cons ?_ ?_
        ·rintro b a w' ⟨v268, v271, v276, v279, m18_, m19_, ha, Q_HO_6, Q_HB, Q_HO269, Q_HO272, Q_HO277, Q_HO280, Q_X18_, Q_X19_⟩ hb_ hon hoff
         refine ⟨_, rfl, fun K hK => ?_⟩
         have e36 : a.tmps[36]? = some (v279) := by rw [ha]; exact putSel_on (e := (17, 36, v279)) 13 rfl rfl (hon 17 (by kernel_rfl)) rfl
         replace ha := Aside0.mk ha
         have HO_6 := Aside0.mk Q_HO_6
         have HB := Aside0.mk Q_HB
         have HO269 := Aside0.mk (Q_HO269 (hon 7 (by kernel_rfl)))
         have HO272 := Aside0.mk (Q_HO272 (hon 8 (by kernel_rfl)))
         have HO277 := Aside0.mk (Q_HO277 (hon 16 (by kernel_rfl)))
         have HO280 := Aside0.mk (Q_HO280 (hon 17 (by kernel_rfl)))
         refine value_ (w1 := w') (v := v279) (by rfl) rfl ?_ ?_
         ·go_simp
          (try simp only [i64_w])
          try rfl
         refine hK.out _ _ ⟨v268, v271, v276, v279, m18_, (v279), (by rw [ha.out]; exact putSel_upk 15 hb_ rfl rfl rfl), Q_HO_6, Q_HB, Q_HO269, Q_HO272, Q_HO277, Q_HO280, Q_X18_, fun _ => rfl⟩
        exact steps_nil
       rintro b a w22 hall ⟨v268, v271, v276, v279, m18_, m19_, ha, Q_HO_6, Q_HB, Q_HO269, Q_HO272, Q_HO277, Q_HO280, Q_X18_, Q_X19_⟩
       clear HB HO_6
       have hb1_ := hall 1 (by kernel_rfl)
       have hb2_ := hall 2 (by kernel_rfl)
       have hb4_ := hall 4 (by kernel_rfl)
       have hb5_ := hall 5 (by kernel_rfl)
       have hb6_ := hall 6 (by kernel_rfl)
       have hb7_ := hall 7 (by kernel_rfl)
       have hb8_ := hall 8 (by kernel_rfl)
       have hb10_ := hall 10 (by kernel_rfl)
       have hb11_ := hall 11 (by kernel_rfl)
       have hb13_ := hall 13 (by kernel_rfl)
       have hb14_ := hall 14 (by kernel_rfl)
       have hb15_ := hall 15 (by kernel_rfl)
       have hb16_ := hall 16 (by kernel_rfl)
       have hb17_ := hall 17 (by kernel_rfl)
       have hb18_ := hall 18 (by kernel_rfl)
       have hb19_ := hall 19 (by kernel_rfl)
       subst ha
       obtain rfl := Q_X18_ hb18_
       obtain rfl := Q_X19_ hb19_
       simp only [putSel, hb1_, hb2_, hb4_, hb5_, hb6_, hb7_, hb8_, hb10_, hb11_, hb13_, hb14_, hb15_, hb16_, hb17_, hb18_, hb19_, if_true, Act.put, List.setIfInBounds_toArray, List.set_cons_zero, List.set_cons_succ]
       have HO_6 := Aside0.mk Q_HO_6
       clear Q_HO_6
       have HB := Aside0.mk Q_HB
       clear Q_HB
       have HO269 := Aside0.mk (Q_HO269 hb7_)
       clear Q_HO269
       have HO272 := Aside0.mk (Kd.R_mono (Q_HO272 hb8_) (fun _ hk_ => hk_.2 hb17_))
       clear Q_HO272
       have HO277 := Aside0.mk (Q_HO277 hb16_)
       clear Q_HO277
       have HO280 := Aside0.mk (Q_HO280 hb17_)
       clear Q_HO280
       clear hall hb1_ hb2_ hb4_ hb5_ hb6_ hb7_ hb8_ hb10_ hb11_ hb13_ hb14_ hb15_ hb16_ hb17_ hb18_ hb19_
       try go_wp2
       go_ret2
       exact ⟨_, _, by first | rfl | (simp [errW_none, errW_some] <;> rfl) | (simp [*, errW_none, errW_some] <;> rfl), by (with_reducible repeat (first | apply Kd.R_alloc | apply Kd.R_drewN | apply Kd.R_drew)); exact Kd.R_mono HO272.out (fun _ hk => by first | exact hk.2.2.1 | trivial | (intro h_; cases h_) | exact ⟨(fun h_ => by cases h_), fun h0_ => absurd ((hoff 17 (by kernel_rfl)).symm.trans h0_) (by decide)⟩ | exact ⟨hk.1.1, fun _ => hk.2⟩ | exact ⟨hk.1.1.1.2, hk.1.2⟩ | exact hk.2 hb17_ | exact hk.2 | exact hk.1 | exact hk), by (with_reducible repeat (first | apply Kd.R_alloc | apply Kd.R_drewN | apply Kd.R_drew)); exact Kd.R_mono HO280.out (fun _ hk => by first | exact hk.2.1 | trivial | (intro h_; cases h_) | exact ⟨(fun h_ => by cases h_), fun h0_ => absurd ((hoff 17 (by kernel_rfl)).symm.trans h0_) (by decide)⟩ | exact ⟨hk.1.1, fun _ => hk.2⟩ | exact ⟨hk.1.1.1.2, hk.1.2⟩ | exact hk.2 hb17_ | exact hk.2 | exact hk.1 | exact hk), hbb⟩
     ·rw [if_neg c9] at H
      exact absurd H (by simp)
    ·rw [if_neg c8] at H
     exact absurd H (by simp)
   ·replace c7 := Bool.eq_false_iff.mpr c7
    subst c7
    replace H := iff_ H
    obtain ⟨t281, A23, H⟩ := bnd H
    obtain ⟨t282, A24, H⟩ := bnd H
    obtain ⟨ji25, hji25⟩ : ∃ j_ : Int, (mx 0 (wrap64 ((wrap64 (t281 - t282)) + 1))) = j_ := ⟨_, rfl⟩
    rw [hji25] at H
    (try rw [hji25] at A23)
    (try rw [hji25] at A24)
    (try (have hji25l : 0 ≤ ji25 := by (rw [← hji25]; unfold mx; (repeat' split) <;> omega)))
    (try (have hji25m : 0 ≤ ji25 := by omega))
    (try (have hji25t : ∀ m_ : Int, Int.tdiv ji25 m_ = ji25 / m_ := fun m_ => Int.tdiv_eq_ediv_of_nonneg (by omega)))
    have hji25_ : (if 0 < (wrap64 ((wrap64 (t281 - t282)) + 1)) then (wrap64 ((wrap64 (t281 - t282)) + 1)) else 0) = ji25 := hji25
    obtain ⟨t283, A26, H⟩ := bnd H
    have H' := Aside0.mk H
    clear H
    go_wp2_with (first | ((with_reducible refine gate_callee (f := 101) rfl ?_); refine goesL_ (some 38) rfl rfl Try.func101 (by kernel_rfl) rfl #[.slice A0 l0.length c0] rfl (by (try simp only [List.map_toArray, List.map_cons, List.map_nil]); first | done | rfl | (simp only [List.length_drop, List.length_take]; rfl) | (go_simp; done) | (go_simp; rfl) | (simp only [*]; done)) ?_; (with_reducible refine (gradineref02_Bits.calls kj2 _ _ l0 t281 _ ?side1 ?side2 A23.out).mono ?_); (case side1 => exact cs (Kd.C_below HR0.out HB.out)); (case side2 => exact HC0.out); rintro e w' ⟨rfl, ⟨nd, rfl⟩⟩; refine ⟨_, rfl, ?_⟩) | ((with_reducible refine gate_callee (f := 101) rfl ?_); refine goesL_ (some 41) rfl rfl Try.func101 (by kernel_rfl) rfl #[.slice A1 l1.length c1] rfl (by (try simp only [List.map_toArray, List.map_cons, List.map_nil]); first | done | rfl | (simp only [List.length_drop, List.length_take]; rfl) | (go_simp; done) | (go_simp; rfl) | (simp only [*]; done)) ?_; (with_reducible refine (gradineref02_Bits.calls kj2 _ _ l1 t282 _ ?side1 ?side2 A24.out).mono ?_); (case side1 => repeat (first | exact (Kd.C_below HR1.out (bb HB.out)) | (with_reducible refine Kd.C_alloc ?_ _) | (with_reducible refine Kd.C_drewN ?_ _) | (with_reducible refine Kd.C_drew ?_))); (case side2 => exact HC1.out); rintro e w' ⟨rfl, ⟨nd, rfl⟩⟩; refine ⟨_, rfl, ?_⟩) | ((with_reducible refine gate_callee (f := 100) rfl ?_); refine goesL_ (some 47) rfl rfl Try.func100 (by kernel_rfl) rfl #[.slice A0 l0.length c0, .int .i64 ji25] rfl (by (try simp only [List.map_toArray, List.map_cons, List.map_nil]); first | done | (simp only [hji25]; rfl) | rfl | (simp only [List.length_drop, List.length_take]; rfl) | (go_simp; done) | (go_simp; rfl) | (simp only [*]; done)) ?_; (with_reducible refine (gradineref02_Shr.calls kj2 _ _ l0 ji25 t283 _ ?side1 ?side2 A26.out).mono ?_); (case side1 => repeat (first | exact (Kd.C_below HR0.out (bb HB.out)) | (with_reducible refine Kd.C_alloc ?_ _) | (with_reducible refine Kd.C_drewN ?_ _) | (with_reducible refine Kd.C_drew ?_))); (case side2 => exact HC0.out); rintro e w27 ⟨v284, rfl, ho0, hb⟩; refine ⟨_, rfl, ?_⟩; refine sw3 ⟨Kd.R_elder' (st HO_6.out) (Kd.R_base ho0) hb⟩ ⟨Kd.R_lower (Kd.R_new' ho0 (Kd.R_lt (st HO_6.out))) (below_size (bb HB.out))⟩ ⟨below_step (bb HB.out) hb⟩ ?_; clear HO_6 HB; intro HO_6 HO285 HB))
    go_loopg [6, 7, 10] kj2 (fun kq v6 v7 v10 w' => ∃ (x6_2 : List Int) (x7_2 : List Int) (x10_2 : Int), v10 = .int .i64 x10_2 ∧ Aside0 (gradineref04_Div.l0 kq l0 l1 x6_2 x7_2 x10_2 = some (r1, r2)) ∧ Aside0 (kq ≤ kj2) ∧ Aside0 (Kd.R (Kd.int .u64) 22 w' w.heap.size (fun k_ => some k_ ≠ (v7 : Value).ownBlock) v6 x6_2) ∧ Aside0 (Kd.R (Kd.int .u64) 22 w' w.heap.size (fun k_ => some k_ ≠ (v6 : Value).ownBlock) v7 x7_2) ∧ Aside0 (Below w.heap.size w w'))
    case atStart => exact ⟨(([] : List Int)), (t283), (wrap64 ((ji25) - 1)), (by first | rfl | (simp; done) | (simp only [← hji25] <;> (first | rfl | simp)) | (simp [*]; done)), H', ⟨Nat.le_refl _⟩, ⟨by (with_reducible repeat (first | apply Kd.R_alloc | apply Kd.R_drewN | apply Kd.R_drew)); exact Kd.R_mono HO_6.out (fun _ hk => by first | exact hk.2 | trivial | (intro h_; cases h_) | exact ⟨(fun h_ => by cases h_), fun h0_ => absurd ((hoff 17 (by kernel_rfl)).symm.trans h0_) (by decide)⟩ | exact ⟨hk.1.1, fun _ => hk.2⟩ | exact ⟨hk.1.1.1.2, hk.1.2⟩ | exact hk.2 hb17_ | exact hk.2 | exact hk.1 | exact hk)⟩, ⟨by (with_reducible repeat (first | apply Kd.R_alloc | apply Kd.R_drewN | apply Kd.R_drew)); exact Kd.R_mono HO285.out (fun _ hk => by first | exact hk.2 | trivial | (intro h_; cases h_) | exact ⟨(fun h_ => by cases h_), fun h0_ => absurd ((hoff 17 (by kernel_rfl)).symm.trans h0_) (by decide)⟩ | exact ⟨hk.1.1, fun _ => hk.2⟩ | exact ⟨hk.1.1.1.2, hk.1.2⟩ | exact hk.2 hb17_ | exact hk.2 | exact hk.1 | exact hk)⟩, ⟨bb HB.out⟩⟩
    case round =>
     clear H'
     obtain ⟨x6_2, x7_2, x10_2, rfl, HA, HK2, HO_6, HO_7, HB⟩ := hrel
     cases gk with
     | zero => exact absurd HA.out (by simp [gradineref04_Div.l0])
     | succ k2 =>
      have H := HA.out
      clear HA
      simp only [gradineref04_Div.l0] at H
      by_cases c28 : x10_2 ≥ 0
      ·rw [if_pos c28] at H
       have c28b0 : decide (0 ≤ x10_2) = true := decide_eq_true c28
       clear c28
       obtain ⟨t292, A29, H⟩ := bnd H
       obtain ⟨t295, A30, H⟩ := bnd H
       have HC31 := Aside0.mk H
       clear H
       obtain ⟨Ao32, co32, eo32⟩ := Kd.R_slice HO_7.out
       subst eo32
       go_upto_if 58 with (first | ((with_reducible refine gate_callee (f := 90) rfl ?_); refine goesL_ (some 55) rfl rfl Try.func90 (by kernel_rfl) rfl #[.slice Ao32 x7_2.length co32, .int .i64 1] rfl (by (try simp only [List.map_toArray, List.map_cons, List.map_nil]); first | done | rfl | (simp only [List.length_drop, List.length_take]; rfl) | (go_simp; done) | (go_simp; rfl) | (simp only [*]; done)) ?_; (with_reducible refine (gradineref02_Shl.calls k2 _ _ x7_2 1 t292 _ ?side1 ?side2 A29.out).mono ?_); (case side1 => exact cs (Kd.R_reads' HO_7.out).2.2); (case side2 => exact (Kd.R_reads' HO_7.out).2.1); rintro e w33 ⟨v293, rfl, ho0, hb⟩; refine ⟨_, rfl, ?_⟩; refine sw4 ⟨Kd.R_elder' (st HO_6.out) (Kd.R_base ho0) hb⟩ ⟨Kd.R_elder' (st HO_7.out) (Kd.R_base ho0) hb⟩ ⟨Kd.R_lower (Kd.R_new' (Kd.R_new' ho0 (Kd.R_lt (st HO_6.out))) (Kd.R_lt (st HO_7.out))) (below_size (bb HB.out))⟩ ⟨below_step (bb HB.out) hb⟩ ?_; clear HO_6 HO_7 HB; intro HO_6 HO_7 HO294 HB) | ((with_reducible refine gate_callee (f := 141) rfl ?_); refine goesL_ (some 58) rfl rfl Try.func141 (by kernel_rfl) rfl #[.slice A0 l0.length c0, .int .i64 x10_2] rfl (by (try simp only [List.map_toArray, List.map_cons, List.map_nil]); first | done | rfl | (simp only [List.length_drop, List.length_take]; rfl) | (go_simp; done) | (go_simp; rfl) | (simp only [*]; done)) ?_; (with_reducible refine (gradineref02_Bit.calls _ _ l0 x10_2 t295 _ ?side1 ?side2 A30.out).mono ?_); (case side1 => exact cs (Kd.C_below HR0.out HB.out)); (case side2 => exact HC0.out); rintro e w' ⟨rfl, ⟨nd, rfl⟩⟩; refine ⟨_, rfl, ?_⟩))
       (try simp only [Act.put, List.setIfInBounds_toArray, List.set_cons_zero, List.set_cons_succ])
       go_cut [7] (fun v7 wc => ∃ (kq : Nat) (x7_30 : List Int), Aside0 (gradineref04_Div.j2 kq l0 l1 x6_2 x7_30 x10_2 = some (r1, r2)) ∧ Aside0 (kq ≤ k2) ∧ Aside0 (Kd.R (Kd.int .u64) 22 wc w.heap.size (fun k_ => some k_ ≠ (v7 : Value).ownBlock) u6 x6_2) ∧ Aside0 (Kd.R (Kd.int .u64) 22 wc w.heap.size (fun k_ => some k_ ≠ (u6 : Value).ownBlock) v7 x7_30) ∧ Aside0 (Below w.heap.size w wc))
       case first =>
        have H := HC31.out
        clear HC31
        by_cases c34 : t295 = true
        ·subst c34
         replace H := ift H
         obtain ⟨t296, A35, H⟩ := bnd H
         have H' := Aside0.mk H
         clear H
         obtain ⟨Ao36, co36, eo36⟩ := Kd.R_slice HO294.out
         subst eo36
         go_wp2_with (first | ((with_reducible refine gate_callee (f := 151) rfl ?_); refine goesL_ (some 60) rfl rfl Try.func151 (by kernel_rfl) rfl #[.slice Ao36 t292.length co36, .int .i64 0] rfl (by (try simp only [List.map_toArray, List.map_cons, List.map_nil]); first | done | rfl | (simp only [List.length_drop, List.length_take]; rfl) | (go_simp; done) | (go_simp; rfl) | (simp only [*]; done)) ?_; (with_reducible refine (gradineref04_set.calls k2 _ _ t292 0 t296 _ ?side1 ?side2 A35.out).mono ?_); (case side1 => exact cs (Kd.R_reads' HO294.out).2.2); (case side2 => exact (Kd.R_reads' HO294.out).2.1); rintro e w37 ⟨v297, rfl, ho0, hb⟩; refine ⟨_, rfl, ?_⟩; refine sw5 ⟨Kd.R_elder' (st HO_6.out) (Kd.R_base ho0) hb⟩ ⟨Kd.R_elder' (st HO_7.out) (Kd.R_base ho0) hb⟩ ⟨Kd.R_elder' (st HO294.out) (Kd.R_base ho0) hb⟩ ⟨Kd.R_lower (Kd.R_new' (Kd.R_new' (Kd.R_new' ho0 (Kd.R_lt (st HO_6.out))) (Kd.R_lt (st HO_7.out))) (Kd.R_lt (st HO294.out))) (below_size (bb HB.out))⟩ ⟨below_step (bb HB.out) hb⟩ ?_; clear HO_6 HO_7 HO294 HB; intro HO_6 HO_7 HO294 HO298 HB))
         go_meet
         case rel => exact ⟨_, (t296), H', ⟨by have := HJ2.out; have := HK2.out; first | omega | exact Nat.le_refl _⟩, ⟨by (with_reducible repeat (first | apply Kd.R_alloc | apply Kd.R_drewN | apply Kd.R_drew)); exact Kd.R_mono HO_6.out (fun _ hk => by first | exact hk.2 | trivial | (intro h_; cases h_) | exact ⟨(fun h_ => by cases h_), fun h0_ => absurd ((hoff 17 (by kernel_rfl)).symm.trans h0_) (by decide)⟩ | exact ⟨hk.1.1, fun _ => hk.2⟩ | exact ⟨hk.1.1.1.2, hk.1.2⟩ | exact hk.2 hb17_ | exact hk.2 | exact hk.1 | exact hk)⟩, ⟨by (with_reducible repeat (first | apply Kd.R_alloc | apply Kd.R_drewN | apply Kd.R_drew)); exact Kd.R_mono HO298.out (fun _ hk => by first | exact hk.1.1.2 | trivial | (intro h_; cases h_) | exact ⟨(fun h_ => by cases h_), fun h0_ => absurd ((hoff 17 (by kernel_rfl)).symm.trans h0_) (by decide)⟩ | exact ⟨hk.1.1, fun _ => hk.2⟩ | exact ⟨hk.1.1.1.2, hk.1.2⟩ | exact hk.2 hb17_ | exact hk.2 | exact hk.1 | exact hk)⟩, ⟨bb HB.out⟩⟩
        ·replace c34 := Bool.eq_false_iff.mpr c34
         subst c34
         replace H := iff_ H
         have H' := Aside0.mk H
         clear H
         go_wp2
         go_meet
         case rel => exact ⟨_, (t292), H', ⟨by have := HJ2.out; have := HK2.out; first | omega | exact Nat.le_refl _⟩, ⟨by (with_reducible repeat (first | apply Kd.R_alloc | apply Kd.R_drewN | apply Kd.R_drew)); exact Kd.R_mono HO_6.out (fun _ hk => by first | exact hk.2 | trivial | (intro h_; cases h_) | exact ⟨(fun h_ => by cases h_), fun h0_ => absurd ((hoff 17 (by kernel_rfl)).symm.trans h0_) (by decide)⟩ | exact ⟨hk.1.1, fun _ => hk.2⟩ | exact ⟨hk.1.1.1.2, hk.1.2⟩ | exact hk.2 hb17_ | exact hk.2 | exact hk.1 | exact hk)⟩, ⟨by (with_reducible repeat (first | apply Kd.R_alloc | apply Kd.R_drewN | apply Kd.R_drew)); exact Kd.R_mono HO294.out (fun _ hk => by first | exact hk.1.2 | trivial | (intro h_; cases h_) | exact ⟨(fun h_ => by cases h_), fun h0_ => absurd ((hoff 17 (by kernel_rfl)).symm.trans h0_) (by decide)⟩ | exact ⟨hk.1.1, fun _ => hk.2⟩ | exact ⟨hk.1.1.1.2, hk.1.2⟩ | exact hk.2 hb17_ | exact hk.2 | exact hk.1 | exact hk)⟩, ⟨bb HB.out⟩⟩
       case rest =>
        clear HC31
        obtain ⟨kq, x7_30, HA, HJ30, HO_6, HO_7, HB⟩ := hcut
        cases kq with
        | zero => exact absurd HA.out (by simp [gradineref04_Div.j2])
        | succ kj30 =>
         have H := HA.out
         clear HA
         simp only [gradineref04_Div.j2] at H
         obtain ⟨t299, A38, H⟩ := bnd H
         refine if c39 : t299 ≥ 0 then ?p2_ else ?n2_
         case' p2_ =>
          rw [if_pos c39] at H
          have c39b0 : decide (0 ≤ t299) = true := decide_eq_true c39
          clear c39
          obtain ⟨t300, A40, H⟩ := bnd H
          obtain ⟨t303, A41, H⟩ := bnd H
          have H' := Aside0.mk H
          clear H
          obtain ⟨Ao42, co42, eo42⟩ := Kd.R_slice HO_7.out
          subst eo42
         case' n2_ =>
          rw [if_neg c39] at H
          have c39b0 : decide (0 ≤ t299) = false := decide_eq_false c39
          clear c39
          have H' := Aside0.mk H
          clear H
          obtain ⟨Ao42, co42, eo47⟩ := Kd.R_slice HO_7.out
          subst eo47
         case p2_ | n2_ =>
          go_wp2_with (first | ((with_reducible refine gate_callee (f := 103) rfl ?_); refine goesL_ (some 63) rfl rfl Try.func103 (by kernel_rfl) rfl #[.slice Ao42 x7_30.length co42, .slice A1 l1.length c1] rfl (by (try simp only [List.map_toArray, List.map_cons, List.map_nil]); first | done | rfl | (simp only [List.length_drop, List.length_take]; rfl) | (go_simp; done) | (go_simp; rfl) | (simp only [*]; done)) ?_; (with_reducible refine (gradineref02_Cmp.calls kj30 _ _ x7_30 _ _ l1 t299 _ ?side1 ?side2 ?side3 ?side4 A38.out).mono ?_); (case side1 => exact cs (Kd.R_reads' HO_7.out).2.2); (case side2 => exact (Kd.R_reads' HO_7.out).2.1); (case side3 => exact cs (Kd.C_below HR1.out HB.out)); (case side4 => exact HC1.out); rintro e w43 ⟨rfl, hb⟩; refine ⟨_, rfl, ?_⟩; refine sw3 ⟨Kd.R_below (st HO_6.out) hb⟩ ⟨Kd.R_below (st HO_7.out) hb⟩ ⟨below_step (bb HB.out) hb⟩ ?_; clear HO_6 HO_7 HB; intro HO_6 HO_7 HB) | ((with_reducible refine gate_callee (f := 102) rfl ?_); refine goesL_ (some 67) rfl rfl Try.func102 (by kernel_rfl) rfl #[.slice Ao42 x7_30.length co42, .slice A1 l1.length c1] rfl (by (try simp only [List.map_toArray, List.map_cons, List.map_nil]); first | done | rfl | (simp only [List.length_drop, List.length_take]; rfl) | (go_simp; done) | (go_simp; rfl) | (simp only [*]; done)) ?_; (with_reducible refine (gradineref02_Sub.calls kj30 _ _ x7_30 _ _ l1 t300 _ ?side1 ?side2 ?side3 ?side4 A40.out).mono ?_); (case side1 => exact cs (Kd.R_reads' HO_7.out).2.2); (case side2 => exact (Kd.R_reads' HO_7.out).2.1); (case side3 => exact cs (Kd.C_below HR1.out HB.out)); (case side4 => exact HC1.out); rintro e w44 ⟨v301, rfl, ho0, hb⟩; refine ⟨_, rfl, ?_⟩; refine sw4 ⟨Kd.R_elder' (st HO_6.out) (Kd.R_base ho0) hb⟩ ⟨Kd.R_elder' (st HO_7.out) (Kd.R_base ho0) hb⟩ ⟨Kd.R_lower (Kd.R_new' (Kd.R_new' ho0 (Kd.R_lt (st HO_6.out))) (Kd.R_lt (st HO_7.out))) (below_size (bb HB.out))⟩ ⟨below_step (bb HB.out) hb⟩ ?_; clear HO_6 HO_7 HB; intro HO_6 HO_7 HO302 HB; obtain ⟨Ao45, co45, eo45⟩ := Kd.R_slice HO_6.out; subst eo45) | ((with_reducible refine gate_callee (f := 151) rfl ?_); refine goesL_ (some 70) rfl rfl Try.func151 (by kernel_rfl) rfl #[.slice Ao45 x6_2.length co45, .int .i64 x10_2] rfl (by (try simp only [List.map_toArray, List.map_cons, List.map_nil]); first | done | rfl | (simp only [List.length_drop, List.length_take]; rfl) | (go_simp; done) | (go_simp; rfl) | (simp only [*]; done)) ?_; (with_reducible refine (gradineref04_set.calls kj30 _ _ x6_2 x10_2 t303 _ ?side1 ?side2 A41.out).mono ?_); (case side1 => exact cs (Kd.R_reads' HO_6.out).2.2); (case side2 => exact (Kd.R_reads' HO_6.out).2.1); rintro e w46 ⟨v304, rfl, ho0, hb⟩; refine ⟨_, rfl, ?_⟩; refine sw5 ⟨Kd.R_elder' (st HO_6.out) (Kd.R_base ho0) hb⟩ ⟨Kd.R_elder' (st HO_7.out) (Kd.R_base ho0) hb⟩ ⟨Kd.R_elder' (st HO302.out) (Kd.R_base ho0) hb⟩ ⟨Kd.R_lower (Kd.R_new' (Kd.R_new' (Kd.R_new' ho0 (Kd.R_lt (st HO_6.out))) (Kd.R_lt (st HO_7.out))) (Kd.R_lt (st HO302.out))) (below_size (bb HB.out))⟩ ⟨below_step (bb HB.out) hb⟩ ?_; clear HO_6 HO_7 HO302 HB; intro HO_6 HO_7 HO302 HO305 HB))
          go_roundg kj30
          case measure => have := HJ2.out; have := HK2.out; have := HJ30.out; omega
          case rel => first | (exact ⟨(t303), (t300), (wrap64 (x10_2 - 1)), (by first | rfl | (simp; done) | (simp [*]; done)), H', ⟨by have := HJ2.out; have := HK2.out; have := HJ30.out; omega⟩, ⟨by (with_reducible repeat (first | apply Kd.R_alloc | apply Kd.R_drewN | apply Kd.R_drew)); exact Kd.R_mono HO305.out (fun _ hk => by first | exact hk.2 | trivial | (intro h_; cases h_) | exact ⟨(fun h_ => by cases h_), fun h0_ => absurd ((hoff 17 (by kernel_rfl)).symm.trans h0_) (by decide)⟩ | exact ⟨hk.1.1, fun _ => hk.2⟩ | exact ⟨hk.1.1.1.2, hk.1.2⟩ | exact hk.2 hb17_ | exact hk.2 | exact hk.1 | exact hk)⟩, ⟨by (with_reducible repeat (first | apply Kd.R_alloc | apply Kd.R_drewN | apply Kd.R_drew)); exact Kd.R_mono HO302.out (fun _ hk => by first | exact hk.2 | trivial | (intro h_; cases h_) | exact ⟨(fun h_ => by cases h_), fun h0_ => absurd ((hoff 17 (by kernel_rfl)).symm.trans h0_) (by decide)⟩ | exact ⟨hk.1.1, fun _ => hk.2⟩ | exact ⟨hk.1.1.1.2, hk.1.2⟩ | exact hk.2 hb17_ | exact hk.2 | exact hk.1 | exact hk)⟩, ⟨bb HB.out⟩⟩) | (exact ⟨(x6_2), (x7_30), (wrap64 (x10_2 - 1)), (by first | rfl | (simp; done) | (simp [*]; done)), H', ⟨by have := HJ2.out; have := HK2.out; have := HJ30.out; omega⟩, ⟨by (with_reducible repeat (first | apply Kd.R_alloc | apply Kd.R_drewN | apply Kd.R_drew)); exact HO_6.out⟩, ⟨by (with_reducible repeat (first | apply Kd.R_alloc | apply Kd.R_drewN | apply Kd.R_drew)); exact HO_7.out⟩, ⟨bb HB.out⟩⟩)
      ·rw [if_neg c28] at H
       have c28b0 : decide (0 ≤ x10_2) = false := decide_eq_false c28
       clear c28
       obtain ⟨t286, A49, H⟩ := bnd H
       obtain ⟨t289, A50, H⟩ := bnd H
       simp only [Option.some.injEq, Prod.mk.injEq] at H
       obtain ⟨rfl, rfl⟩ := H
       obtain ⟨Ao51, co51, eo51⟩ := Kd.R_slice HO_6.out
       subst eo51
       go_wp2_with (first | ((with_reducible refine gate_callee (f := 140) rfl ?_); refine goesL_ (some 72) rfl rfl Try.func140 (by kernel_rfl) rfl #[.slice Ao51 x6_2.length co51] rfl (by (try simp only [List.map_toArray, List.map_cons, List.map_nil]); first | done | rfl | (simp only [List.length_drop, List.length_take]; rfl) | (go_simp; done) | (go_simp; rfl) | (simp only [*]; done)) ?_; (with_reducible refine (gradineref02_Trim.calls k2 _ _ x6_2 t286 _ ?side1 ?side2 A49.out).mono ?_); (case side1 => exact cs (Kd.R_reads' HO_6.out).2.2); (case side2 => exact (Kd.R_reads' HO_6.out).2.1); rintro e w52 ⟨v287, rfl, ho0, hb⟩; refine ⟨_, rfl, ?_⟩; refine sw4 ⟨Kd.R_elder' (st HO_6.out) (Kd.R_base ho0) hb⟩ ⟨Kd.R_elder' (st HO_7.out) (Kd.R_base ho0) hb⟩ ⟨Kd.R_lower (Kd.R_new' (Kd.R_new' ho0 (Kd.R_lt (st HO_6.out))) (Kd.R_lt (st HO_7.out))) (below_size (bb HB.out))⟩ ⟨below_step (bb HB.out) hb⟩ ?_; clear HO_6 HO_7 HB; intro HO_6 HO_7 HO288 HB; obtain ⟨Ao53, co53, eo53⟩ := Kd.R_slice HO_7.out; subst eo53) | ((with_reducible refine gate_callee (f := 140) rfl ?_); refine goesL_ (some 74) rfl rfl Try.func140 (by kernel_rfl) rfl #[.slice Ao53 x7_2.length co53] rfl (by (try simp only [List.map_toArray, List.map_cons, List.map_nil]); first | done | rfl | (simp only [List.length_drop, List.length_take]; rfl) | (go_simp; done) | (go_simp; rfl) | (simp only [*]; done)) ?_; (with_reducible refine (gradineref02_Trim.calls k2 _ _ x7_2 t289 _ ?side1 ?side2 A50.out).mono ?_); (case side1 => exact cs (Kd.R_reads' HO_7.out).2.2); (case side2 => exact (Kd.R_reads' HO_7.out).2.1); rintro e w54 ⟨v290, rfl, ho0, hb⟩; refine ⟨_, rfl, ?_⟩; refine sw5 ⟨Kd.R_elder' (st HO_6.out) (Kd.R_base ho0) hb⟩ ⟨Kd.R_elder' (st HO_7.out) (Kd.R_base ho0) hb⟩ ⟨Kd.R_elder' (st HO288.out) (Kd.R_base ho0) hb⟩ ⟨Kd.R_lower (Kd.R_new' (Kd.R_new' (Kd.R_new' ho0 (Kd.R_lt (st HO_6.out))) (Kd.R_lt (st HO_7.out))) (Kd.R_lt (st HO288.out))) (below_size (bb HB.out))⟩ ⟨below_step (bb HB.out) hb⟩ ?_; clear HO_6 HO_7 HO288 HB; intro HO_6 HO_7 HO288 HO291 HB))
       go_ret2
       exact ⟨_, _, by first | rfl | (simp [errW_none, errW_some] <;> rfl) | (simp only [← hji25]; first | rfl | (simp [errW_none, errW_some] <;> rfl)) | (simp [*, errW_none, errW_some] <;> rfl), by (with_reducible repeat (first | apply Kd.R_alloc | apply Kd.R_drewN | apply Kd.R_drew)); exact Kd.R_mono HO288.out (fun _ hk => by first | exact hk.2 | trivial | (intro h_; cases h_) | exact ⟨(fun h_ => by cases h_), fun h0_ => absurd ((hoff 17 (by kernel_rfl)).symm.trans h0_) (by decide)⟩ | exact ⟨hk.1.1, fun _ => hk.2⟩ | exact ⟨hk.1.1.1.2, hk.1.2⟩ | exact hk.2 hb17_ | exact hk.2 | exact hk.1 | exact hk), by (with_reducible repeat (first | apply Kd.R_alloc | apply Kd.R_drewN | apply Kd.R_drew)); exact Kd.R_mono HO291.out (fun _ hk => by first | exact hk.2 | trivial | (intro h_; cases h_) | exact ⟨(fun h_ => by cases h_), fun h0_ => absurd ((hoff 17 (by kernel_rfl)).symm.trans h0_) (by decide)⟩ | exact ⟨hk.1.1, fun _ => hk.2⟩ | exact ⟨hk.1.1.1.2, hk.1.2⟩ | exact hk.2 hb17_ | exact hk.2 | exact hk.1 | exact hk), hbb⟩

end Go.Proofs.Ytbpggonjcnakgaa.P
