/- Functions of one package as Lean functions, and walks: written by a program for this claim. -/
import Derived.Test.YtbpggonjcnakgaaFbase
import Derived.Test.YtbpggonjcnakgaaBfround
import Derived.Test.YtbpggonjcnakgaaBfbits
namespace Go.Proofs.Ytbpggonjcnakgaa.P
open Go.RowKit Go.Proofs.YtbpggonjcnakgaaW.PrintWords Go.Proofs.YtbpggonjcnakgaaW.PrintLast Go.Proofs.YtbpggonjcnakgaaW.PrintMore
attribute [local go_sem] max2_int min2_int max_two min_two max_three min_three max_four min_four   -- for this text's walks alone
set_option linter.unusedVariables false
set_option linter.unusedSimpArgs false

def fsum_odd.f (a0 : Int) (a1 : Int) : Option (Int) := if a1 > 63 then (some (mn a0 1)) else (if 0 ≤ a1 then (if (shl .u64 (shr .u64 a0 a1) a1) = a0 then (some (shr .u64 a0 a1)) else (some (Go.bits .or .u64 (shr .u64 a0 a1) 1))) else (none))
set_option maxHeartbeats 8000000 in
set_option maxRecDepth 100000 in
theorem fsum_odd.calls (a0 : Int) (a1 : Int) (r : Int) (w : World) (h : fsum_odd.f a0 a1 = some r) :
  Calls Try.prog 146 #[.int .u64 a0, .int .i64 a1] w fun e w' => e = .returned (.int .u64 r) ∧ Below w.heap.size w w' := by
 have HB := Aside0.mk (Below.refl w.heap.size w)
 have H : (if a1 > 63 then (some (mn a0 1)) else (if 0 ≤ a1 then (if (shl .u64 (shr .u64 a0 a1) a1) = a0 then (some (shr .u64 a0 a1)) else (some (Go.bits .or .u64 (shr .u64 a0 a1) 1))) else (none))) = some r := h
 clear h
 by_cases c3 : a1 > 63
 ·rw [if_pos c3] at H
  have c3b0 : decide (63 < a1) = true := decide_eq_true c3
  clear c3
  obtain ⟨ji4, hji4⟩ : ∃ j_ : Int, (mn a0 1) = j_ := ⟨_, rfl⟩
  replace H : (some ji4) = some r := by first | (rw [hji4] at H; exact H) | (simp only [hji4] at H ⊢; exact H)
  (try (have hji4h : ji4 ≤ 1 := by (rw [← hji4]; unfold mn; (repeat' split) <;> omega)))
  (try (have hji4g : ji4 ≤ 64 := by omega))
  have hji4_ : (if 1 < a0 then 1 else a0) = ji4 := hji4
  obtain rfl := Option.some.inj H
  go_enter Try.func146, Try.ntmps146
  go_wp2
  go_ret
  exact ⟨by first | rfl | (simp [errW_none, errW_some] <;> rfl) | (simp only [← hji4]; first | rfl | (simp [errW_none, errW_some] <;> rfl)) | (simp [*, errW_none, errW_some] <;> rfl), by repeat (first | (with_reducible first | exact HB.out | apply below_alloc | apply pw_below_drewN | apply below_drew1) | exact HB.out)⟩
 ·rw [if_neg c3] at H
  have c3b0 : decide (63 < a1) = false := decide_eq_false c3
  clear c3
  by_cases c5 : 0 ≤ a1
  ·rw [if_pos c5] at H
   have c5b0 := eq_true c5
   have c5b1 : decide (0 ≤ a1) = true := decide_eq_true c5
   clear c5
   obtain ⟨ji6, hji6⟩ : ∃ j_ : Int, (shr .u64 a0 a1) = j_ := ⟨_, rfl⟩
   replace H : (if (shl .u64 (ji6) a1) = a0 then (some ji6) else (some (Go.bits .or .u64 (ji6) 1))) = some r := by first | (rw [hji6] at H; exact H) | (simp only [hji6] at H ⊢; exact H)
   have hji6_ : (a0 / 2 ^ min a1.toNat 64) = ji6 := hji6
   have hji6z : a1 ≤ 64 → (a0 / 2 ^ a1.toNat) = ji6 := shr_small hji6
   have c7b0 := eq_true (of_decide_eq_true (by first | (with_reducible assumption) | assumption) : 0 ≤ a1)
   obtain ⟨ji8, hji8⟩ : ∃ j_ : Int, (shl .u64 (ji6) a1) = j_ := ⟨_, rfl⟩
   replace H : (if (ji8) = a0 then (some ji6) else (some (Go.bits .or .u64 (ji6) 1))) = some r := by first | (rw [hji8] at H; exact H) | (simp only [hji8] at H ⊢; exact H)
   have hji8_ : (IntKind.u64.wrap ((ji6) * 2 ^ min a1.toNat 64)) = ji8 := hji8
   have hji8z : a1 ≤ 64 → (IntKind.u64.wrap ((ji6) * 2 ^ a1.toNat)) = ji8 := shl_small hji8
   by_cases c9 : (ji8) = a0
   ·rw [if_pos c9] at H
    have c9b0 : ((ji8) == a0) = true := beq_iff_eq.mpr c9
    have c9b1 : ((ji8) != a0) = false := bne_eq_false_iff_eq.mpr c9
    clear c9
    have c10b0 := eq_true (of_decide_eq_true (by first | (with_reducible assumption) | assumption) : 0 ≤ a1)
    obtain rfl := Option.some.inj H
    go_enter Try.func146, Try.ntmps146
    go_wp2
    go_ret
    exact ⟨by first | rfl | (simp [errW_none, errW_some] <;> rfl) | (simp only [← hji6, ← hji8]; first | rfl | (simp [errW_none, errW_some] <;> rfl)) | (simp [*, errW_none, errW_some] <;> rfl), by repeat (first | (with_reducible first | exact HB.out | apply below_alloc | apply pw_below_drewN | apply below_drew1) | exact HB.out)⟩
   ·rw [if_neg c9] at H
    have c9b0 : ((ji8) == a0) = false := beq_eq_false_iff_ne.mpr c9
    have c9b1 : ((ji8) != a0) = true := bne_iff_ne.mpr c9
    have c11b0 := eq_true (of_decide_eq_true (by first | (with_reducible assumption) | assumption) : 0 ≤ a1)
    obtain rfl := Option.some.inj H
    go_enter Try.func146, Try.ntmps146
    go_wp2
    go_ret
    exact ⟨by first | rfl | (simp [errW_none, errW_some] <;> rfl) | (simp only [← hji6, ← hji8]; first | rfl | (simp [errW_none, errW_some] <;> rfl)) | (simp [*, errW_none, errW_some] <;> rfl), by repeat (first | (with_reducible first | exact HB.out | apply below_alloc | apply pw_below_drewN | apply below_drew1) | exact HB.out)⟩
  ·rw [if_neg c5] at H
   exact absurd H (by simp)

def fsum_finite.j0 : Nat → Bool → Int → Int → Bool → Int → Int → Option (Int)
 | 0, _, _, _, _, _, _ => none
 | k + 1, x743000, x743001, x743002, x744000, x744001, x744002 => if 0 ≤ (mn (wrap64 (x743002 - x744002)) 10) then ((fsum_odd.f x744001 (wrap64 ((wrap64 (x743002 - (mn (wrap64 (x743002 - x744002)) 10))) - x744002))).bind fun t744 => (if (x743000 == x744000) = true then ((fround_Word.f k x743000 (IntKind.u64.wrap ((IntKind.u64.wrap (x743001 * 2 ^ (mn (wrap64 (x743002 - x744002)) 10).toNat)) + t744)) (wrap64 (x743002 - (mn (wrap64 (x743002 - x744002)) 10)))).bind fun t745 => (some t745)) else (if (IntKind.u64.wrap (x743001 * 2 ^ (mn (wrap64 (x743002 - x744002)) 10).toNat)) > t744 then ((fround_Word.f k x743000 (IntKind.u64.wrap ((IntKind.u64.wrap (x743001 * 2 ^ (mn (wrap64 (x743002 - x744002)) 10).toNat)) - t744)) (wrap64 (x743002 - (mn (wrap64 (x743002 - x744002)) 10)))).bind fun t746 => (some t746)) else (if (IntKind.u64.wrap (x743001 * 2 ^ (mn (wrap64 (x743002 - x744002)) 10).toNat)) < t744 then ((fround_Word.f k x744000 (IntKind.u64.wrap (t744 - (IntKind.u64.wrap (x743001 * 2 ^ (mn (wrap64 (x743002 - x744002)) 10).toNat)))) (wrap64 (x743002 - (mn (wrap64 (x743002 - x744002)) 10)))).bind fun t747 => (some t747)) else (some 0))))) else (none)
def fsum_finite.f (k : Nat) (a0_0 : Bool) (a0_1 : Int) (a0_2 : Int) (a1_0 : Bool) (a1_1 : Int) (a1_2 : Int) : Option (Int) := if a0_2 < a1_2 then (fsum_finite.j0 k a1_0 a1_1 a1_2 a0_0 a0_1 a0_2) else (fsum_finite.j0 k a0_0 a0_1 a0_2 a1_0 a1_1 a1_2)
set_option maxHeartbeats 8000000 in
set_option maxRecDepth 100000 in
theorem fsum_finite.calls (k : Nat) (a0_0 : Bool) (a0_1 : Int) (a0_2 : Int) (a1_0 : Bool) (a1_1 : Int) (a1_2 : Int) (r : Int) (w : World) (h : fsum_finite.f k a0_0 a0_1 a0_2 a1_0 a1_1 a1_2 = some r) :
  Calls Try.prog 104 #[.agg #[.bool a0_0, .int .u64 a0_1, .int .i64 a0_2], .agg #[.bool a1_0, .int .u64 a1_1, .int .i64 a1_2]] w fun e w' => e = .returned (.int .u64 r) ∧ Below w.heap.size w w' := by
 have hu78 := Try.underlying78
 have HB := Aside0.mk (Below.refl w.heap.size w)
 have H : (if a0_2 < a1_2 then (fsum_finite.j0 k a1_0 a1_1 a1_2 a0_0 a0_1 a0_2) else (fsum_finite.j0 k a0_0 a0_1 a0_2 a1_0 a1_1 a1_2)) = some r := h
 clear h
 have HC3 := Aside0.mk H
 clear H
 go_enter Try.func104, Try.ntmps104
 go_upto_if 10 with (first | ((with_reducible refine gate_dst (N := 2) rfl ?_); refine box_event ?hg (N := 2) ?hd (cs := #[.bool a0_0, .int .u64 a0_1, .int .i64 a0_2]) (t := 78) ?hr ?_; (case hd => rfl); (case hg => rfl); (case hr => first | (go_simp; done) | (go_simp; rfl)); intro gb742 hg w4 hbox hb; have n0_ := Aside0.mk (below_step (bb HB.out) hb); have n1_ := Aside0.mk (hbox); have n2_ := Aside0.mk ((by rw [hg]; exact (below_size (bb HB.out)) : w.heap.size ≤ gb742)); have n3_ := Aside0.mk ((by rw [hg]; exact (below_size (bb HB.out)) : w.heap.size ≤ gb742)); clear HB; have HB := n0_; have BK742 := n1_; have GW742 := n2_; have GE742 := n3_; clear n0_ n1_ n2_ n3_; clear hb hbox hg) | ((with_reducible refine gate_dst (N := 3) rfl ?_); refine box_event ?hg (N := 3) ?hd (cs := #[.bool a1_0, .int .u64 a1_1, .int .i64 a1_2]) (t := 78) ?hr ?_; (case hd => rfl); (case hg => rfl); (case hr => first | (go_simp; done) | (go_simp; rfl)); intro gb743 hg w5 hbox hb; have n0_ := Aside0.mk (blk_below (bk BK742.out) hb); have n1_ := Aside0.mk (below_step (by repeat (first | (with_reducible first | exact HB.out | apply below_alloc | apply pw_below_drewN | apply below_drew1 | refine below_set ?_ GE742.out) | exact HB.out)) hb); have n2_ := Aside0.mk (hbox); have n3_ := Aside0.mk ((by rw [hg]; exact (below_size (by repeat (first | (with_reducible first | exact HB.out | apply below_alloc | apply pw_below_drewN | apply below_drew1 | refine below_set ?_ GE742.out) | exact HB.out))) : w.heap.size ≤ gb743)); have n4_ := Aside0.mk ((by rw [hg]; exact (below_size (by repeat (first | (with_reducible first | exact HB.out | apply below_alloc | apply pw_below_drewN | apply below_drew1 | refine below_set ?_ GE742.out) | exact HB.out))) : w.heap.size ≤ gb743)); have n5_ := Aside0.mk ((by rw [hg]; exact Nat.ne_of_lt (blk_lt (bk BK742.out)) : gb742 ≠ gb743)); have n6_ := Aside0.mk ((by rw [hg]; exact Nat.ne_of_gt (blk_lt (bk BK742.out)) : gb743 ≠ gb742)); clear BK742; clear HB; have BK742 := n0_; have HB := n1_; have BK743 := n2_; have GW743 := n3_; have GE743 := n4_; have NB742_743 := n5_; have NB743_742 := n6_; clear n0_ n1_ n2_ n3_ n4_ n5_ n6_; clear hb hbox hg; have hnb6 := NB742_743.out; have hnc6 := NB743_742.out; have hcz7_0 : w5.cell? ⟨gb742, 0, none⟩ = some (.bool a0_0) := (blk_cell BK742.out 0).trans rfl; have hcz7_1 : w5.cell? ⟨gb742, 1, none⟩ = some (.int .u64 a0_1) := (blk_cell BK742.out 1).trans rfl; have hcz7_2 : w5.cell? ⟨gb742, 2, none⟩ = some (.int .i64 a0_2) := (blk_cell BK742.out 2).trans rfl; have hfz7_0 := blk_frozen BK742.out 0; have hfz7_1 := blk_frozen BK742.out 1; have hfz7_2 := blk_frozen BK742.out 2; have hcz8_0 : w5.cell? ⟨gb743, 0, none⟩ = some (.bool a1_0) := (blk_cell BK743.out 0).trans rfl; have hcz8_1 : w5.cell? ⟨gb743, 1, none⟩ = some (.int .u64 a1_1) := (blk_cell BK743.out 1).trans rfl; have hcz8_2 : w5.cell? ⟨gb743, 2, none⟩ = some (.int .i64 a1_2) := (blk_cell BK743.out 2).trans rfl; have hfz8_0 := blk_frozen BK743.out 0; have hfz8_1 := blk_frozen BK743.out 1; have hfz8_2 := blk_frozen BK743.out 2))
 (try simp only [Act.put, List.setIfInBounds_toArray, List.set_cons_zero, List.set_cons_succ])
 go_cut [] (fun wc => ∃ (kq : Nat) (x743000_2 : Bool) (x743001_2 : Int) (x743002_2 : Int) (x744000_2 : Bool) (x744001_2 : Int) (x744002_2 : Int), Aside0 (fsum_finite.j0 kq x743000_2 x743001_2 x743002_2 x744000_2 x744001_2 x744002_2 = some r) ∧ Aside0 (kq ≤ k) ∧ Aside0 (wc.heap[gb742]? = some (.cells #[.bool x743000_2, .int .u64 x743001_2, .int .i64 x743002_2] 78 (0, 0))) ∧ Aside0 (wc.heap[gb743]? = some (.cells #[.bool x744000_2, .int .u64 x744001_2, .int .i64 x744002_2] 78 (0, 0))) ∧ Aside0 (Below w.heap.size w wc))
 case first =>
  have H := HC3.out
  clear HC3
  by_cases c9 : a0_2 < a1_2
  ·rw [if_pos c9] at H
   have c9b0 : decide (a0_2 < a1_2) = true := decide_eq_true c9
   clear c9
   (first | rw [c9b0] | (simp only [i64_w, i32_w]; rw [c9b0]) | skip)
   have H' := Aside0.mk H
   clear H
   have hnb10 := NB743_742.out
   have hnc10 := NB742_743.out
   have hcz11_0 : w5.cell? ⟨gb743, 0, none⟩ = some (.bool a1_0) := (blk_cell BK743.out 0).trans rfl
   have hcz11_1 : w5.cell? ⟨gb743, 1, none⟩ = some (.int .u64 a1_1) := (blk_cell BK743.out 1).trans rfl
   have hcz11_2 : w5.cell? ⟨gb743, 2, none⟩ = some (.int .i64 a1_2) := (blk_cell BK743.out 2).trans rfl
   have hfz11_0 := blk_frozen BK743.out 0
   have hfz11_1 := blk_frozen BK743.out 1
   have hfz11_2 := blk_frozen BK743.out 2
   have hcz12_0 : w5.cell? ⟨gb742, 0, none⟩ = some (.bool a0_0) := (blk_cell BK742.out 0).trans rfl
   have hcz12_1 : w5.cell? ⟨gb742, 1, none⟩ = some (.int .u64 a0_1) := (blk_cell BK742.out 1).trans rfl
   have hcz12_2 : w5.cell? ⟨gb742, 2, none⟩ = some (.int .i64 a0_2) := (blk_cell BK742.out 2).trans rfl
   have hfz12_0 := blk_frozen BK742.out 0
   have hfz12_1 := blk_frozen BK742.out 1
   have hfz12_2 := blk_frozen BK742.out 2
   go_wp2
   go_meet
   case rel => exact ⟨_, (a1_0), (a1_1), (a1_2), (a0_0), (a0_1), (a0_2), H', ⟨by first | omega | exact Nat.le_refl _⟩, ⟨by (with_reducible repeat (first | refine blk_drewN ?_ _ | refine blk_drew ?_ | refine blk_alloc ?_ _)); refine blk_far ?_ NB742_743.out _; (with_reducible repeat (first | refine blk_drewN ?_ _ | refine blk_drew ?_ | refine blk_alloc ?_ _)); refine blk_far ?_ NB742_743.out _; (with_reducible repeat (first | refine blk_drewN ?_ _ | refine blk_drew ?_ | refine blk_alloc ?_ _)); refine blk_far ?_ NB742_743.out _; (with_reducible repeat (first | refine blk_drewN ?_ _ | refine blk_drew ?_ | refine blk_alloc ?_ _)); refine blk_put (cs := #[.bool a1_0, .int .u64 a1_1, .int .i64 a0_2]) ?_ 2 _ rfl; (with_reducible repeat (first | refine blk_drewN ?_ _ | refine blk_drew ?_ | refine blk_alloc ?_ _)); refine blk_put (cs := #[.bool a1_0, .int .u64 a0_1, .int .i64 a0_2]) ?_ 1 _ rfl; (with_reducible repeat (first | refine blk_drewN ?_ _ | refine blk_drew ?_ | refine blk_alloc ?_ _)); refine blk_put (cs := #[.bool a0_0, .int .u64 a0_1, .int .i64 a0_2]) ?_ 0 _ rfl; (with_reducible repeat (first | refine blk_drewN ?_ _ | refine blk_drew ?_ | refine blk_alloc ?_ _)); exact BK742.out⟩, ⟨by (with_reducible repeat (first | refine blk_drewN ?_ _ | refine blk_drew ?_ | refine blk_alloc ?_ _)); refine blk_put (cs := #[.bool a0_0, .int .u64 a0_1, .int .i64 a1_2]) ?_ 2 _ rfl; (with_reducible repeat (first | refine blk_drewN ?_ _ | refine blk_drew ?_ | refine blk_alloc ?_ _)); refine blk_put (cs := #[.bool a0_0, .int .u64 a1_1, .int .i64 a1_2]) ?_ 1 _ rfl; (with_reducible repeat (first | refine blk_drewN ?_ _ | refine blk_drew ?_ | refine blk_alloc ?_ _)); refine blk_put (cs := #[.bool a1_0, .int .u64 a1_1, .int .i64 a1_2]) ?_ 0 _ rfl; (with_reducible repeat (first | refine blk_drewN ?_ _ | refine blk_drew ?_ | refine blk_alloc ?_ _)); refine blk_far ?_ NB743_742.out _; (with_reducible repeat (first | refine blk_drewN ?_ _ | refine blk_drew ?_ | refine blk_alloc ?_ _)); refine blk_far ?_ NB743_742.out _; (with_reducible repeat (first | refine blk_drewN ?_ _ | refine blk_drew ?_ | refine blk_alloc ?_ _)); refine blk_far ?_ NB743_742.out _; (with_reducible repeat (first | refine blk_drewN ?_ _ | refine blk_drew ?_ | refine blk_alloc ?_ _)); exact BK743.out⟩, ⟨by repeat (first | (with_reducible first | exact HB.out | apply below_alloc | apply pw_below_drewN | apply below_drew1 | refine below_set ?_ GE742.out | refine below_set ?_ GE743.out) | exact HB.out)⟩⟩
  ·rw [if_neg c9] at H
   have c9b0 : decide (a0_2 < a1_2) = false := decide_eq_false c9
   clear c9
   (first | rw [c9b0] | (simp only [i64_w, i32_w]; rw [c9b0]) | skip)
   have H' := Aside0.mk H
   clear H
   go_wp2
   go_meet
   case rel => exact ⟨_, (a0_0), (a0_1), (a0_2), (a1_0), (a1_1), (a1_2), H', ⟨by first | omega | exact Nat.le_refl _⟩, ⟨by (with_reducible repeat (first | refine blk_drewN ?_ _ | refine blk_drew ?_ | refine blk_alloc ?_ _)); exact BK742.out⟩, ⟨by (with_reducible repeat (first | refine blk_drewN ?_ _ | refine blk_drew ?_ | refine blk_alloc ?_ _)); exact BK743.out⟩, ⟨by repeat (first | (with_reducible first | exact HB.out | apply below_alloc | apply pw_below_drewN | apply below_drew1 | refine below_set ?_ GE742.out | refine below_set ?_ GE743.out) | exact HB.out)⟩⟩
 case rest =>
  clear HC3
  try clear c1
  try clear p2
  try clear c6
  try clear c9
  try clear c9b0
  try clear c10
  try clear hcz11_0
  try clear hcz11_1
  try clear hcz11_2
  try clear hcz12_0
  try clear hcz12_1
  try clear hcz12_2
  try clear hcz7_0
  try clear hcz7_1
  try clear hcz7_2
  try clear hcz8_0
  try clear hcz8_1
  try clear hcz8_2
  try clear hfz11_0
  try clear hfz11_1
  try clear hfz11_2
  try clear hfz12_0
  try clear hfz12_1
  try clear hfz12_2
  try clear hfz7_0
  try clear hfz7_1
  try clear hfz7_2
  try clear hfz8_0
  try clear hfz8_1
  try clear hfz8_2
  obtain ⟨kq, x743000_2, x743001_2, x743002_2, x744000_2, x744001_2, x744002_2, HA, HJ2, BK742, BK743, HB⟩ := hcut
  cases kq with
  | zero => exact absurd HA.out (by simp [fsum_finite.j0])
  | succ kj2 =>
   have H := HA.out
   clear HA
   simp only [fsum_finite.j0] at H
   obtain ⟨ji13, hji13⟩ : ∃ j_ : Int, (mn (wrap64 (x743002_2 - x744002_2)) 10) = j_ := ⟨_, rfl⟩
   replace H : (if 0 ≤ (ji13) then ((fsum_odd.f x744001_2 (wrap64 ((wrap64 (x743002_2 - (ji13))) - x744002_2))).bind fun t744 => (if (x743000_2 == x744000_2) = true then ((fround_Word.f kj2 x743000_2 (IntKind.u64.wrap ((IntKind.u64.wrap (x743001_2 * 2 ^ (ji13).toNat)) + t744)) (wrap64 (x743002_2 - (ji13)))).bind fun t745 => (some t745)) else (if (IntKind.u64.wrap (x743001_2 * 2 ^ (ji13).toNat)) > t744 then ((fround_Word.f kj2 x743000_2 (IntKind.u64.wrap ((IntKind.u64.wrap (x743001_2 * 2 ^ (ji13).toNat)) - t744)) (wrap64 (x743002_2 - (ji13)))).bind fun t746 => (some t746)) else (if (IntKind.u64.wrap (x743001_2 * 2 ^ (ji13).toNat)) < t744 then ((fround_Word.f kj2 x744000_2 (IntKind.u64.wrap (t744 - (IntKind.u64.wrap (x743001_2 * 2 ^ (ji13).toNat)))) (wrap64 (x743002_2 - (ji13)))).bind fun t747 => (some t747)) else (some 0))))) else (none)) = some r := by first | (rw [hji13] at H; exact H) | (simp only [hji13] at H ⊢; exact H)
   have hji13_ : (if 10 < (wrap64 (x743002_2 - x744002_2)) then 10 else (wrap64 (x743002_2 - x744002_2))) = ji13 := hji13
   by_cases c14 : 0 ≤ (ji13)
   ·rw [if_pos c14] at H
    have c14b0 := eq_true c14
    have c14b1 : decide (0 ≤ (ji13)) = true := decide_eq_true c14
    clear c14
    (try (have c15m : min ((ji13) : Int).toNat 64 = ((ji13) : Int).toNat := by omega))
    replace H := Option.bind_eq_some_iff.mp H
    obtain ⟨t744, A160, H⟩ := H
    replace H : (if (x743000_2 == x744000_2) = true then ((fround_Word.f kj2 x743000_2 (IntKind.u64.wrap ((IntKind.u64.wrap (x743001_2 * 2 ^ (ji13).toNat)) + t744)) (wrap64 (x743002_2 - (ji13)))).bind fun t745 => (some t745)) else (if (IntKind.u64.wrap (x743001_2 * 2 ^ (ji13).toNat)) > t744 then ((fround_Word.f kj2 x743000_2 (IntKind.u64.wrap ((IntKind.u64.wrap (x743001_2 * 2 ^ (ji13).toNat)) - t744)) (wrap64 (x743002_2 - (ji13)))).bind fun t746 => (some t746)) else (if (IntKind.u64.wrap (x743001_2 * 2 ^ (ji13).toNat)) < t744 then ((fround_Word.f kj2 x744000_2 (IntKind.u64.wrap (t744 - (IntKind.u64.wrap (x743001_2 * 2 ^ (ji13).toNat)))) (wrap64 (x743002_2 - (ji13)))).bind fun t747 => (some t747)) else (some 0)))) = some r := H
    have A16 := Aside0.mk A160
    clear A160
    by_cases c17 : (x743000_2 == x744000_2) = true
    ·rw [if_pos c17] at H
     have c17b0 : (x743000_2 == x744000_2) = true := c17
     (try (have c17b1 : decide (x743000_2 = x744000_2) = true := by simpa using c17))
     (try (have c17b2 : (x743000_2 == x744000_2) = true := by simpa using c17))
     clear c17
     replace H := Option.bind_eq_some_iff.mp H
     obtain ⟨t745, A180, H⟩ := H
     replace H : (some t745) = some r := H
     have A18 := Aside0.mk A180
     clear A180
     obtain rfl := Option.some.inj H
     have hnb19 := NB742_743.out
     have hnc19 := NB743_742.out
     have hcz20_0 : wc.cell? ⟨gb742, 0, none⟩ = some (.bool x743000_2) := (blk_cell BK742.out 0).trans rfl
     have hcz20_1 : wc.cell? ⟨gb742, 1, none⟩ = some (.int .u64 x743001_2) := (blk_cell BK742.out 1).trans rfl
     have hcz20_2 : wc.cell? ⟨gb742, 2, none⟩ = some (.int .i64 x743002_2) := (blk_cell BK742.out 2).trans rfl
     have hfz20_0 := blk_frozen BK742.out 0
     have hfz20_1 := blk_frozen BK742.out 1
     have hfz20_2 := blk_frozen BK742.out 2
     have hcz21_0 : wc.cell? ⟨gb743, 0, none⟩ = some (.bool x744000_2) := (blk_cell BK743.out 0).trans rfl
     have hcz21_1 : wc.cell? ⟨gb743, 1, none⟩ = some (.int .u64 x744001_2) := (blk_cell BK743.out 1).trans rfl
     have hcz21_2 : wc.cell? ⟨gb743, 2, none⟩ = some (.int .i64 x744002_2) := (blk_cell BK743.out 2).trans rfl
     have hfz21_0 := blk_frozen BK743.out 0
     have hfz21_1 := blk_frozen BK743.out 1
     have hfz21_2 := blk_frozen BK743.out 2
     go_wp2_with (first | ((with_reducible refine gate_callee (f := 146) rfl ?_); refine goesL_ (some 36) rfl rfl Try.func146 (by kernel_rfl) rfl #[.int .u64 x744001_2, .int .i64 (wrap64 ((wrap64 (x743002_2 - (ji13))) - x744002_2))] rfl (by (try simp only [List.map_toArray, List.map_cons, List.map_nil]); first | done | (simp only [hji13]; rfl) | rfl | (simp only [List.length_drop, List.length_take]; rfl) | (simp only [*]; done)) ?_; (with_reducible refine (fsum_odd.calls x744001_2 (wrap64 ((wrap64 (x743002_2 - (ji13))) - x744002_2)) t744 _ A16.out).mono ?_); rintro e w22 ⟨rfl, hb⟩; refine ⟨_, rfl, ?_⟩; have n0_ := Aside0.mk (blk_below (g := gb742) (o := .cells #[.bool x743000_2, .int .u64 (IntKind.u64.wrap (x743001_2 * 2 ^ (ji13).toNat)), .int .i64 (wrap64 (x743002_2 - (ji13)))] 78 (0, 0)) (by (with_reducible repeat (first | refine blk_drewN ?_ _ | refine blk_drew ?_ | refine blk_alloc ?_ _)); refine blk_put (cs := #[.bool x743000_2, .int .u64 (IntKind.u64.wrap (x743001_2 * 2 ^ (ji13).toNat)), .int .i64 x743002_2]) ?_ 2 _ rfl; (with_reducible repeat (first | refine blk_drewN ?_ _ | refine blk_drew ?_ | refine blk_alloc ?_ _)); refine blk_put (cs := #[.bool x743000_2, .int .u64 x743001_2, .int .i64 x743002_2]) ?_ 1 _ rfl; (with_reducible repeat (first | refine blk_drewN ?_ _ | refine blk_drew ?_ | refine blk_alloc ?_ _)); exact BK742.out) hb); have n1_ := Aside0.mk (blk_below (g := gb743) (o := .cells #[.bool x744000_2, .int .u64 x744001_2, .int .i64 x744002_2] 78 (0, 0)) (by (with_reducible repeat (first | refine blk_drewN ?_ _ | refine blk_drew ?_ | refine blk_alloc ?_ _)); refine blk_far ?_ NB743_742.out _; (with_reducible repeat (first | refine blk_drewN ?_ _ | refine blk_drew ?_ | refine blk_alloc ?_ _)); refine blk_far ?_ NB743_742.out _; (with_reducible repeat (first | refine blk_drewN ?_ _ | refine blk_drew ?_ | refine blk_alloc ?_ _)); exact BK743.out) hb); have n2_ := Aside0.mk (below_step (by repeat (first | (with_reducible first | exact HB.out | apply below_alloc | apply pw_below_drewN | apply below_drew1 | refine below_set ?_ GE742.out | refine below_set ?_ GE743.out) | exact HB.out)) hb); clear BK742; clear BK743; clear HB; have BK742 := n0_; have BK743 := n1_; have HB := n2_; clear n0_ n1_ n2_; (try clear hb); (try clear hb2); (try clear hk); (try clear hi); have hcz23_0 : w22.cell? ⟨gb743, 0, none⟩ = some (.bool x744000_2) := (blk_cell BK743.out 0).trans rfl; have hcz23_1 : w22.cell? ⟨gb743, 1, none⟩ = some (.int .u64 x744001_2) := (blk_cell BK743.out 1).trans rfl; have hcz23_2 : w22.cell? ⟨gb743, 2, none⟩ = some (.int .i64 x744002_2) := (blk_cell BK743.out 2).trans rfl; have hfz23_0 := blk_frozen BK743.out 0; have hfz23_1 := blk_frozen BK743.out 1; have hfz23_2 := blk_frozen BK743.out 2; have hcz24_0 : w22.cell? ⟨gb742, 0, none⟩ = some (.bool x743000_2) := (blk_cell BK742.out 0).trans rfl; have hcz24_1 : w22.cell? ⟨gb742, 1, none⟩ = some (.int .u64 (IntKind.u64.wrap (x743001_2 * 2 ^ (ji13).toNat))) := (blk_cell BK742.out 1).trans rfl; have hcz24_2 : w22.cell? ⟨gb742, 2, none⟩ = some (.int .i64 (wrap64 (x743002_2 - (ji13)))) := (blk_cell BK742.out 2).trans rfl; have hfz24_0 := blk_frozen BK742.out 0; have hfz24_1 := blk_frozen BK742.out 1; have hfz24_2 := blk_frozen BK742.out 2) | ((with_reducible refine gate_callee (f := 36) rfl ?_); refine goesL_ (some 53) rfl rfl Try.func36 (by kernel_rfl) rfl #[.bool x743000_2, .int .u64 (IntKind.u64.wrap ((IntKind.u64.wrap (x743001_2 * 2 ^ (ji13).toNat)) + t744)), .int .i64 (wrap64 (x743002_2 - (ji13)))] rfl (by (try simp only [List.map_toArray, List.map_cons, List.map_nil]); first | done | (simp only [hji13]; rfl) | rfl | (simp only [List.length_drop, List.length_take]; rfl) | (simp only [*]; done)) ?_; (with_reducible refine (fround_Word.calls kj2 x743000_2 (IntKind.u64.wrap ((IntKind.u64.wrap (x743001_2 * 2 ^ (ji13).toNat)) + t744)) (wrap64 (x743002_2 - (ji13))) t745 _ A18.out).mono ?_); rintro e w25 ⟨rfl, hb⟩; refine ⟨_, rfl, ?_⟩; have n0_ := Aside0.mk (blk_below (g := gb742) (o := .cells #[.bool x743000_2, .int .u64 (IntKind.u64.wrap (x743001_2 * 2 ^ (ji13).toNat)), .int .i64 (wrap64 (x743002_2 - (ji13)))] 78 (0, 0)) (by (with_reducible repeat (first | refine blk_drewN ?_ _ | refine blk_drew ?_ | refine blk_alloc ?_ _)); refine blk_far ?_ NB742_743.out _; (with_reducible repeat (first | refine blk_drewN ?_ _ | refine blk_drew ?_ | refine blk_alloc ?_ _)); exact BK742.out) hb); have n1_ := Aside0.mk (blk_below (g := gb743) (o := .cells #[.bool x744000_2, .int .u64 t744, .int .i64 x744002_2] 78 (0, 0)) (by (with_reducible repeat (first | refine blk_drewN ?_ _ | refine blk_drew ?_ | refine blk_alloc ?_ _)); refine blk_put (cs := #[.bool x744000_2, .int .u64 x744001_2, .int .i64 x744002_2]) ?_ 1 _ rfl; (with_reducible repeat (first | refine blk_drewN ?_ _ | refine blk_drew ?_ | refine blk_alloc ?_ _)); exact BK743.out) hb); have n2_ := Aside0.mk (below_step (by repeat (first | (with_reducible first | exact HB.out | apply below_alloc | apply pw_below_drewN | apply below_drew1 | refine below_set ?_ GE742.out | refine below_set ?_ GE743.out) | exact HB.out)) hb); clear BK742; clear BK743; clear HB; have BK742 := n0_; have BK743 := n1_; have HB := n2_; clear n0_ n1_ n2_; (try clear hb); (try clear hb2); (try clear hk); (try clear hi)))
     go_ret
     exact ⟨by first | rfl | (simp [errW_none, errW_some] <;> rfl) | (simp only [← hji13]; first | rfl | (simp [errW_none, errW_some] <;> rfl)) | (simp [*, errW_none, errW_some] <;> rfl), by repeat (first | (with_reducible first | exact HB.out | apply below_alloc | apply pw_below_drewN | apply below_drew1 | refine below_set ?_ GE742.out | refine below_set ?_ GE743.out) | exact HB.out)⟩
    ·rw [if_neg c17] at H
     have c17b0 : (x743000_2 == x744000_2) = false := by simpa using c17
     (try (have c17b1 : decide (x743000_2 = x744000_2) = false := by simpa using c17))
     (try (have c17b2 : (x743000_2 == x744000_2) = false := by simpa using c17))
     (try (have c17b3 : ¬ (x743000_2 = x744000_2) := by simpa using c17))
     clear c17
     by_cases c26 : (IntKind.u64.wrap (x743001_2 * 2 ^ (ji13).toNat)) > t744
     ·rw [if_pos c26] at H
      have c26b0 : decide (t744 < (IntKind.u64.wrap (x743001_2 * 2 ^ (ji13).toNat))) = true := decide_eq_true c26
      clear c26
      replace H := Option.bind_eq_some_iff.mp H
      obtain ⟨t746, A270, H⟩ := H
      replace H : (some t746) = some r := H
      have A27 := Aside0.mk A270
      clear A270
      obtain rfl := Option.some.inj H
      have hnb28 := NB742_743.out
      have hnc28 := NB743_742.out
      have hcz29_0 : wc.cell? ⟨gb742, 0, none⟩ = some (.bool x743000_2) := (blk_cell BK742.out 0).trans rfl
      have hcz29_1 : wc.cell? ⟨gb742, 1, none⟩ = some (.int .u64 x743001_2) := (blk_cell BK742.out 1).trans rfl
      have hcz29_2 : wc.cell? ⟨gb742, 2, none⟩ = some (.int .i64 x743002_2) := (blk_cell BK742.out 2).trans rfl
      have hfz29_0 := blk_frozen BK742.out 0
      have hfz29_1 := blk_frozen BK742.out 1
      have hfz29_2 := blk_frozen BK742.out 2
      have hcz30_0 : wc.cell? ⟨gb743, 0, none⟩ = some (.bool x744000_2) := (blk_cell BK743.out 0).trans rfl
      have hcz30_1 : wc.cell? ⟨gb743, 1, none⟩ = some (.int .u64 x744001_2) := (blk_cell BK743.out 1).trans rfl
      have hcz30_2 : wc.cell? ⟨gb743, 2, none⟩ = some (.int .i64 x744002_2) := (blk_cell BK743.out 2).trans rfl
      have hfz30_0 := blk_frozen BK743.out 0
      have hfz30_1 := blk_frozen BK743.out 1
      have hfz30_2 := blk_frozen BK743.out 2
      go_wp2_with (first | ((with_reducible refine gate_callee (f := 146) rfl ?_); refine goesL_ (some 36) rfl rfl Try.func146 (by kernel_rfl) rfl #[.int .u64 x744001_2, .int .i64 (wrap64 ((wrap64 (x743002_2 - (ji13))) - x744002_2))] rfl (by (try simp only [List.map_toArray, List.map_cons, List.map_nil]); first | done | (simp only [hji13]; rfl) | rfl | (simp only [List.length_drop, List.length_take]; rfl) | (simp only [*]; done)) ?_; (with_reducible refine (fsum_odd.calls x744001_2 (wrap64 ((wrap64 (x743002_2 - (ji13))) - x744002_2)) t744 _ A16.out).mono ?_); rintro e w31 ⟨rfl, hb⟩; refine ⟨_, rfl, ?_⟩; have n0_ := Aside0.mk (blk_below (g := gb742) (o := .cells #[.bool x743000_2, .int .u64 (IntKind.u64.wrap (x743001_2 * 2 ^ (ji13).toNat)), .int .i64 (wrap64 (x743002_2 - (ji13)))] 78 (0, 0)) (by (with_reducible repeat (first | refine blk_drewN ?_ _ | refine blk_drew ?_ | refine blk_alloc ?_ _)); refine blk_put (cs := #[.bool x743000_2, .int .u64 (IntKind.u64.wrap (x743001_2 * 2 ^ (ji13).toNat)), .int .i64 x743002_2]) ?_ 2 _ rfl; (with_reducible repeat (first | refine blk_drewN ?_ _ | refine blk_drew ?_ | refine blk_alloc ?_ _)); refine blk_put (cs := #[.bool x743000_2, .int .u64 x743001_2, .int .i64 x743002_2]) ?_ 1 _ rfl; (with_reducible repeat (first | refine blk_drewN ?_ _ | refine blk_drew ?_ | refine blk_alloc ?_ _)); exact BK742.out) hb); have n1_ := Aside0.mk (blk_below (g := gb743) (o := .cells #[.bool x744000_2, .int .u64 x744001_2, .int .i64 x744002_2] 78 (0, 0)) (by (with_reducible repeat (first | refine blk_drewN ?_ _ | refine blk_drew ?_ | refine blk_alloc ?_ _)); refine blk_far ?_ NB743_742.out _; (with_reducible repeat (first | refine blk_drewN ?_ _ | refine blk_drew ?_ | refine blk_alloc ?_ _)); refine blk_far ?_ NB743_742.out _; (with_reducible repeat (first | refine blk_drewN ?_ _ | refine blk_drew ?_ | refine blk_alloc ?_ _)); exact BK743.out) hb); have n2_ := Aside0.mk (below_step (by repeat (first | (with_reducible first | exact HB.out | apply below_alloc | apply pw_below_drewN | apply below_drew1 | refine below_set ?_ GE742.out | refine below_set ?_ GE743.out) | exact HB.out)) hb); clear BK742; clear BK743; clear HB; have BK742 := n0_; have BK743 := n1_; have HB := n2_; clear n0_ n1_ n2_; (try clear hb); (try clear hb2); (try clear hk); (try clear hi); have hcz32_0 : w31.cell? ⟨gb743, 0, none⟩ = some (.bool x744000_2) := (blk_cell BK743.out 0).trans rfl; have hcz32_1 : w31.cell? ⟨gb743, 1, none⟩ = some (.int .u64 x744001_2) := (blk_cell BK743.out 1).trans rfl; have hcz32_2 : w31.cell? ⟨gb743, 2, none⟩ = some (.int .i64 x744002_2) := (blk_cell BK743.out 2).trans rfl; have hfz32_0 := blk_frozen BK743.out 0; have hfz32_1 := blk_frozen BK743.out 1; have hfz32_2 := blk_frozen BK743.out 2; have hcz33_0 : w31.cell? ⟨gb742, 0, none⟩ = some (.bool x743000_2) := (blk_cell BK742.out 0).trans rfl; have hcz33_1 : w31.cell? ⟨gb742, 1, none⟩ = some (.int .u64 (IntKind.u64.wrap (x743001_2 * 2 ^ (ji13).toNat))) := (blk_cell BK742.out 1).trans rfl; have hcz33_2 : w31.cell? ⟨gb742, 2, none⟩ = some (.int .i64 (wrap64 (x743002_2 - (ji13)))) := (blk_cell BK742.out 2).trans rfl; have hfz33_0 := blk_frozen BK742.out 0; have hfz33_1 := blk_frozen BK742.out 1; have hfz33_2 := blk_frozen BK742.out 2) | ((with_reducible refine gate_callee (f := 36) rfl ?_); refine goesL_ (some 69) rfl rfl Try.func36 (by kernel_rfl) rfl #[.bool x743000_2, .int .u64 (IntKind.u64.wrap ((IntKind.u64.wrap (x743001_2 * 2 ^ (ji13).toNat)) - t744)), .int .i64 (wrap64 (x743002_2 - (ji13)))] rfl (by (try simp only [List.map_toArray, List.map_cons, List.map_nil]); first | done | (simp only [hji13]; rfl) | rfl | (simp only [List.length_drop, List.length_take]; rfl) | (simp only [*]; done)) ?_; (with_reducible refine (fround_Word.calls kj2 x743000_2 (IntKind.u64.wrap ((IntKind.u64.wrap (x743001_2 * 2 ^ (ji13).toNat)) - t744)) (wrap64 (x743002_2 - (ji13))) t746 _ A27.out).mono ?_); rintro e w34 ⟨rfl, hb⟩; refine ⟨_, rfl, ?_⟩; have n0_ := Aside0.mk (blk_below (g := gb742) (o := .cells #[.bool x743000_2, .int .u64 (IntKind.u64.wrap (x743001_2 * 2 ^ (ji13).toNat)), .int .i64 (wrap64 (x743002_2 - (ji13)))] 78 (0, 0)) (by (with_reducible repeat (first | refine blk_drewN ?_ _ | refine blk_drew ?_ | refine blk_alloc ?_ _)); refine blk_far ?_ NB742_743.out _; (with_reducible repeat (first | refine blk_drewN ?_ _ | refine blk_drew ?_ | refine blk_alloc ?_ _)); exact BK742.out) hb); have n1_ := Aside0.mk (blk_below (g := gb743) (o := .cells #[.bool x744000_2, .int .u64 t744, .int .i64 x744002_2] 78 (0, 0)) (by (with_reducible repeat (first | refine blk_drewN ?_ _ | refine blk_drew ?_ | refine blk_alloc ?_ _)); refine blk_put (cs := #[.bool x744000_2, .int .u64 x744001_2, .int .i64 x744002_2]) ?_ 1 _ rfl; (with_reducible repeat (first | refine blk_drewN ?_ _ | refine blk_drew ?_ | refine blk_alloc ?_ _)); exact BK743.out) hb); have n2_ := Aside0.mk (below_step (by repeat (first | (with_reducible first | exact HB.out | apply below_alloc | apply pw_below_drewN | apply below_drew1 | refine below_set ?_ GE742.out | refine below_set ?_ GE743.out) | exact HB.out)) hb); clear BK742; clear BK743; clear HB; have BK742 := n0_; have BK743 := n1_; have HB := n2_; clear n0_ n1_ n2_; (try clear hb); (try clear hb2); (try clear hk); (try clear hi)))
      go_ret
      exact ⟨by first | rfl | (simp [errW_none, errW_some] <;> rfl) | (simp only [← hji13]; first | rfl | (simp [errW_none, errW_some] <;> rfl)) | (simp [*, errW_none, errW_some] <;> rfl), by repeat (first | (with_reducible first | exact HB.out | apply below_alloc | apply pw_below_drewN | apply below_drew1 | refine below_set ?_ GE742.out | refine below_set ?_ GE743.out) | exact HB.out)⟩
     ·rw [if_neg c26] at H
      have c26b0 : decide (t744 < (IntKind.u64.wrap (x743001_2 * 2 ^ (ji13).toNat))) = false := decide_eq_false c26
      clear c26
      by_cases c35 : (IntKind.u64.wrap (x743001_2 * 2 ^ (ji13).toNat)) < t744
      ·rw [if_pos c35] at H
       have c35b0 : decide ((IntKind.u64.wrap (x743001_2 * 2 ^ (ji13).toNat)) < t744) = true := decide_eq_true c35
       clear c35
       replace H := Option.bind_eq_some_iff.mp H
       obtain ⟨t747, A360, H⟩ := H
       replace H : (some t747) = some r := H
       have A36 := Aside0.mk A360
       clear A360
       obtain rfl := Option.some.inj H
       have hnb37 := NB742_743.out
       have hnc37 := NB743_742.out
       have hcz38_0 : wc.cell? ⟨gb742, 0, none⟩ = some (.bool x743000_2) := (blk_cell BK742.out 0).trans rfl
       have hcz38_1 : wc.cell? ⟨gb742, 1, none⟩ = some (.int .u64 x743001_2) := (blk_cell BK742.out 1).trans rfl
       have hcz38_2 : wc.cell? ⟨gb742, 2, none⟩ = some (.int .i64 x743002_2) := (blk_cell BK742.out 2).trans rfl
       have hfz38_0 := blk_frozen BK742.out 0
       have hfz38_1 := blk_frozen BK742.out 1
       have hfz38_2 := blk_frozen BK742.out 2
       have hcz39_0 : wc.cell? ⟨gb743, 0, none⟩ = some (.bool x744000_2) := (blk_cell BK743.out 0).trans rfl
       have hcz39_1 : wc.cell? ⟨gb743, 1, none⟩ = some (.int .u64 x744001_2) := (blk_cell BK743.out 1).trans rfl
       have hcz39_2 : wc.cell? ⟨gb743, 2, none⟩ = some (.int .i64 x744002_2) := (blk_cell BK743.out 2).trans rfl
       have hfz39_0 := blk_frozen BK743.out 0
       have hfz39_1 := blk_frozen BK743.out 1
       have hfz39_2 := blk_frozen BK743.out 2
       go_wp2_with (first | ((with_reducible refine gate_callee (f := 146) rfl ?_); refine goesL_ (some 36) rfl rfl Try.func146 (by kernel_rfl) rfl #[.int .u64 x744001_2, .int .i64 (wrap64 ((wrap64 (x743002_2 - (ji13))) - x744002_2))] rfl (by (try simp only [List.map_toArray, List.map_cons, List.map_nil]); first | done | (simp only [hji13]; rfl) | rfl | (simp only [List.length_drop, List.length_take]; rfl) | (simp only [*]; done)) ?_; (with_reducible refine (fsum_odd.calls x744001_2 (wrap64 ((wrap64 (x743002_2 - (ji13))) - x744002_2)) t744 _ A16.out).mono ?_); rintro e w40 ⟨rfl, hb⟩; refine ⟨_, rfl, ?_⟩; have n0_ := Aside0.mk (blk_below (g := gb742) (o := .cells #[.bool x743000_2, .int .u64 (IntKind.u64.wrap (x743001_2 * 2 ^ (ji13).toNat)), .int .i64 (wrap64 (x743002_2 - (ji13)))] 78 (0, 0)) (by (with_reducible repeat (first | refine blk_drewN ?_ _ | refine blk_drew ?_ | refine blk_alloc ?_ _)); refine blk_put (cs := #[.bool x743000_2, .int .u64 (IntKind.u64.wrap (x743001_2 * 2 ^ (ji13).toNat)), .int .i64 x743002_2]) ?_ 2 _ rfl; (with_reducible repeat (first | refine blk_drewN ?_ _ | refine blk_drew ?_ | refine blk_alloc ?_ _)); refine blk_put (cs := #[.bool x743000_2, .int .u64 x743001_2, .int .i64 x743002_2]) ?_ 1 _ rfl; (with_reducible repeat (first | refine blk_drewN ?_ _ | refine blk_drew ?_ | refine blk_alloc ?_ _)); exact BK742.out) hb); have n1_ := Aside0.mk (blk_below (g := gb743) (o := .cells #[.bool x744000_2, .int .u64 x744001_2, .int .i64 x744002_2] 78 (0, 0)) (by (with_reducible repeat (first | refine blk_drewN ?_ _ | refine blk_drew ?_ | refine blk_alloc ?_ _)); refine blk_far ?_ NB743_742.out _; (with_reducible repeat (first | refine blk_drewN ?_ _ | refine blk_drew ?_ | refine blk_alloc ?_ _)); refine blk_far ?_ NB743_742.out _; (with_reducible repeat (first | refine blk_drewN ?_ _ | refine blk_drew ?_ | refine blk_alloc ?_ _)); exact BK743.out) hb); have n2_ := Aside0.mk (below_step (by repeat (first | (with_reducible first | exact HB.out | apply below_alloc | apply pw_below_drewN | apply below_drew1 | refine below_set ?_ GE742.out | refine below_set ?_ GE743.out) | exact HB.out)) hb); clear BK742; clear BK743; clear HB; have BK742 := n0_; have BK743 := n1_; have HB := n2_; clear n0_ n1_ n2_; (try clear hb); (try clear hb2); (try clear hk); (try clear hi); have hcz41_0 : w40.cell? ⟨gb743, 0, none⟩ = some (.bool x744000_2) := (blk_cell BK743.out 0).trans rfl; have hcz41_1 : w40.cell? ⟨gb743, 1, none⟩ = some (.int .u64 x744001_2) := (blk_cell BK743.out 1).trans rfl; have hcz41_2 : w40.cell? ⟨gb743, 2, none⟩ = some (.int .i64 x744002_2) := (blk_cell BK743.out 2).trans rfl; have hfz41_0 := blk_frozen BK743.out 0; have hfz41_1 := blk_frozen BK743.out 1; have hfz41_2 := blk_frozen BK743.out 2; have hcz42_0 : w40.cell? ⟨gb742, 0, none⟩ = some (.bool x743000_2) := (blk_cell BK742.out 0).trans rfl; have hcz42_1 : w40.cell? ⟨gb742, 1, none⟩ = some (.int .u64 (IntKind.u64.wrap (x743001_2 * 2 ^ (ji13).toNat))) := (blk_cell BK742.out 1).trans rfl; have hcz42_2 : w40.cell? ⟨gb742, 2, none⟩ = some (.int .i64 (wrap64 (x743002_2 - (ji13)))) := (blk_cell BK742.out 2).trans rfl; have hfz42_0 := blk_frozen BK742.out 0; have hfz42_1 := blk_frozen BK742.out 1; have hfz42_2 := blk_frozen BK742.out 2) | ((with_reducible refine gate_callee (f := 36) rfl ?_); refine goesL_ (some 85) rfl rfl Try.func36 (by kernel_rfl) rfl #[.bool x744000_2, .int .u64 (IntKind.u64.wrap (t744 - (IntKind.u64.wrap (x743001_2 * 2 ^ (ji13).toNat)))), .int .i64 (wrap64 (x743002_2 - (ji13)))] rfl (by (try simp only [List.map_toArray, List.map_cons, List.map_nil]); first | done | (simp only [hji13]; rfl) | rfl | (simp only [List.length_drop, List.length_take]; rfl) | (simp only [*]; done)) ?_; (with_reducible refine (fround_Word.calls kj2 x744000_2 (IntKind.u64.wrap (t744 - (IntKind.u64.wrap (x743001_2 * 2 ^ (ji13).toNat)))) (wrap64 (x743002_2 - (ji13))) t747 _ A36.out).mono ?_); rintro e w43 ⟨rfl, hb⟩; refine ⟨_, rfl, ?_⟩; have n0_ := Aside0.mk (blk_below (g := gb742) (o := .cells #[.bool x743000_2, .int .u64 (IntKind.u64.wrap (x743001_2 * 2 ^ (ji13).toNat)), .int .i64 (wrap64 (x743002_2 - (ji13)))] 78 (0, 0)) (by (with_reducible repeat (first | refine blk_drewN ?_ _ | refine blk_drew ?_ | refine blk_alloc ?_ _)); refine blk_far ?_ NB742_743.out _; (with_reducible repeat (first | refine blk_drewN ?_ _ | refine blk_drew ?_ | refine blk_alloc ?_ _)); exact BK742.out) hb); have n1_ := Aside0.mk (blk_below (g := gb743) (o := .cells #[.bool x744000_2, .int .u64 t744, .int .i64 x744002_2] 78 (0, 0)) (by (with_reducible repeat (first | refine blk_drewN ?_ _ | refine blk_drew ?_ | refine blk_alloc ?_ _)); refine blk_put (cs := #[.bool x744000_2, .int .u64 x744001_2, .int .i64 x744002_2]) ?_ 1 _ rfl; (with_reducible repeat (first | refine blk_drewN ?_ _ | refine blk_drew ?_ | refine blk_alloc ?_ _)); exact BK743.out) hb); have n2_ := Aside0.mk (below_step (by repeat (first | (with_reducible first | exact HB.out | apply below_alloc | apply pw_below_drewN | apply below_drew1 | refine below_set ?_ GE742.out | refine below_set ?_ GE743.out) | exact HB.out)) hb); clear BK742; clear BK743; clear HB; have BK742 := n0_; have BK743 := n1_; have HB := n2_; clear n0_ n1_ n2_; (try clear hb); (try clear hb2); (try clear hk); (try clear hi)))
       go_ret
       exact ⟨by first | rfl | (simp [errW_none, errW_some] <;> rfl) | (simp only [← hji13]; first | rfl | (simp [errW_none, errW_some] <;> rfl)) | (simp [*, errW_none, errW_some] <;> rfl), by repeat (first | (with_reducible first | exact HB.out | apply below_alloc | apply pw_below_drewN | apply below_drew1 | refine below_set ?_ GE742.out | refine below_set ?_ GE743.out) | exact HB.out)⟩
      ·rw [if_neg c35] at H
       have c35b0 : decide ((IntKind.u64.wrap (x743001_2 * 2 ^ (ji13).toNat)) < t744) = false := decide_eq_false c35
       clear c35
       obtain rfl := Option.some.inj H
       have hnb44 := NB742_743.out
       have hnc44 := NB743_742.out
       have hcz45_0 : wc.cell? ⟨gb742, 0, none⟩ = some (.bool x743000_2) := (blk_cell BK742.out 0).trans rfl
       have hcz45_1 : wc.cell? ⟨gb742, 1, none⟩ = some (.int .u64 x743001_2) := (blk_cell BK742.out 1).trans rfl
       have hcz45_2 : wc.cell? ⟨gb742, 2, none⟩ = some (.int .i64 x743002_2) := (blk_cell BK742.out 2).trans rfl
       have hfz45_0 := blk_frozen BK742.out 0
       have hfz45_1 := blk_frozen BK742.out 1
       have hfz45_2 := blk_frozen BK742.out 2
       have hcz46_0 : wc.cell? ⟨gb743, 0, none⟩ = some (.bool x744000_2) := (blk_cell BK743.out 0).trans rfl
       have hcz46_1 : wc.cell? ⟨gb743, 1, none⟩ = some (.int .u64 x744001_2) := (blk_cell BK743.out 1).trans rfl
       have hcz46_2 : wc.cell? ⟨gb743, 2, none⟩ = some (.int .i64 x744002_2) := (blk_cell BK743.out 2).trans rfl
       have hfz46_0 := blk_frozen BK743.out 0
       have hfz46_1 := blk_frozen BK743.out 1
       have hfz46_2 := blk_frozen BK743.out 2
       go_wp2_with (first | ((with_reducible refine gate_callee (f := 146) rfl ?_); refine goesL_ (some 36) rfl rfl Try.func146 (by kernel_rfl) rfl #[.int .u64 x744001_2, .int .i64 (wrap64 ((wrap64 (x743002_2 - (ji13))) - x744002_2))] rfl (by (try simp only [List.map_toArray, List.map_cons, List.map_nil]); first | done | (simp only [hji13]; rfl) | rfl | (simp only [List.length_drop, List.length_take]; rfl) | (simp only [*]; done)) ?_; (with_reducible refine (fsum_odd.calls x744001_2 (wrap64 ((wrap64 (x743002_2 - (ji13))) - x744002_2)) t744 _ A16.out).mono ?_); rintro e w47 ⟨rfl, hb⟩; refine ⟨_, rfl, ?_⟩; have n0_ := Aside0.mk (blk_below (g := gb742) (o := .cells #[.bool x743000_2, .int .u64 (IntKind.u64.wrap (x743001_2 * 2 ^ (ji13).toNat)), .int .i64 (wrap64 (x743002_2 - (ji13)))] 78 (0, 0)) (by (with_reducible repeat (first | refine blk_drewN ?_ _ | refine blk_drew ?_ | refine blk_alloc ?_ _)); refine blk_put (cs := #[.bool x743000_2, .int .u64 (IntKind.u64.wrap (x743001_2 * 2 ^ (ji13).toNat)), .int .i64 x743002_2]) ?_ 2 _ rfl; (with_reducible repeat (first | refine blk_drewN ?_ _ | refine blk_drew ?_ | refine blk_alloc ?_ _)); refine blk_put (cs := #[.bool x743000_2, .int .u64 x743001_2, .int .i64 x743002_2]) ?_ 1 _ rfl; (with_reducible repeat (first | refine blk_drewN ?_ _ | refine blk_drew ?_ | refine blk_alloc ?_ _)); exact BK742.out) hb); have n1_ := Aside0.mk (blk_below (g := gb743) (o := .cells #[.bool x744000_2, .int .u64 x744001_2, .int .i64 x744002_2] 78 (0, 0)) (by (with_reducible repeat (first | refine blk_drewN ?_ _ | refine blk_drew ?_ | refine blk_alloc ?_ _)); refine blk_far ?_ NB743_742.out _; (with_reducible repeat (first | refine blk_drewN ?_ _ | refine blk_drew ?_ | refine blk_alloc ?_ _)); refine blk_far ?_ NB743_742.out _; (with_reducible repeat (first | refine blk_drewN ?_ _ | refine blk_drew ?_ | refine blk_alloc ?_ _)); exact BK743.out) hb); have n2_ := Aside0.mk (below_step (by repeat (first | (with_reducible first | exact HB.out | apply below_alloc | apply pw_below_drewN | apply below_drew1 | refine below_set ?_ GE742.out | refine below_set ?_ GE743.out) | exact HB.out)) hb); clear BK742; clear BK743; clear HB; have BK742 := n0_; have BK743 := n1_; have HB := n2_; clear n0_ n1_ n2_; (try clear hb); (try clear hb2); (try clear hk); (try clear hi); have hcz48_0 : w47.cell? ⟨gb743, 0, none⟩ = some (.bool x744000_2) := (blk_cell BK743.out 0).trans rfl; have hcz48_1 : w47.cell? ⟨gb743, 1, none⟩ = some (.int .u64 x744001_2) := (blk_cell BK743.out 1).trans rfl; have hcz48_2 : w47.cell? ⟨gb743, 2, none⟩ = some (.int .i64 x744002_2) := (blk_cell BK743.out 2).trans rfl; have hfz48_0 := blk_frozen BK743.out 0; have hfz48_1 := blk_frozen BK743.out 1; have hfz48_2 := blk_frozen BK743.out 2; have hcz49_0 : w47.cell? ⟨gb742, 0, none⟩ = some (.bool x743000_2) := (blk_cell BK742.out 0).trans rfl; have hcz49_1 : w47.cell? ⟨gb742, 1, none⟩ = some (.int .u64 (IntKind.u64.wrap (x743001_2 * 2 ^ (ji13).toNat))) := (blk_cell BK742.out 1).trans rfl; have hcz49_2 : w47.cell? ⟨gb742, 2, none⟩ = some (.int .i64 (wrap64 (x743002_2 - (ji13)))) := (blk_cell BK742.out 2).trans rfl; have hfz49_0 := blk_frozen BK742.out 0; have hfz49_1 := blk_frozen BK742.out 1; have hfz49_2 := blk_frozen BK742.out 2))
       go_ret
       exact ⟨by first | rfl | (simp [errW_none, errW_some] <;> rfl) | (simp only [← hji13]; first | rfl | (simp [errW_none, errW_some] <;> rfl)) | (simp [*, errW_none, errW_some] <;> rfl), by repeat (first | (with_reducible first | exact HB.out | apply below_alloc | apply pw_below_drewN | apply below_drew1 | refine below_set ?_ GE742.out | refine below_set ?_ GE743.out) | exact HB.out)⟩
   ·rw [if_neg c14] at H
    exact absurd H (by simp)

def fsum_of.f (k : Nat) (a0 : Int) : Option (Bool × Int × Int) := (fbits_Parts.f k a0).bind fun bt749 => (some (bt749.1, bt749.2.1, bt749.2.2.1))
set_option maxHeartbeats 8000000 in
set_option maxRecDepth 100000 in
theorem fsum_of.calls (k : Nat) (a0 : Int) (r1 : Bool) (r2 : Int) (r3 : Int) (w : World) (h : fsum_of.f k a0 = some (r1, r2, r3)) :
  Calls Try.prog 105 #[.int .u64 a0] w fun e w' => e = .returned (.agg #[.bool r1, .int .u64 r2, .int .i64 r3]) ∧ Below w.heap.size w w' := by
 have hu78 := Try.underlying78
 have HB := Aside0.mk (Below.refl w.heap.size w)
 have H : ((fbits_Parts.f k a0).bind fun bt749 => (some (bt749.1, bt749.2.1, bt749.2.2.1))) = some (r1, r2, r3) := h
 clear h
 replace H := Option.bind_eq_some_iff.mp H
 obtain ⟨⟨t749, t750, t751, t752⟩, A20, H⟩ := H
 replace H : (some (t749, t750, t751)) = some (r1, r2, r3) := H
 have A2 := Aside0.mk A20
 clear A20
 simp only [Option.some.injEq, Prod.mk.injEq] at H
 obtain ⟨rfl, rfl, rfl⟩ := H
 go_enter Try.func105, Try.ntmps105
 go_wp2_with (first | ((with_reducible refine gate_dst (N := 2) rfl ?_); refine box_event ?hg (N := 2) ?hd (cs := #[.bool false, .int .u64 0, .int .i64 0]) (t := 78) ?hr ?_; (case hd => rfl); (case hg => rfl); (case hr => first | (go_simp; done) | (go_simp; rfl)); intro gb748 hg w3 hbox hb; have n0_ := Aside0.mk (below_step (by repeat (first | (with_reducible first | exact HB.out | apply below_alloc | apply pw_below_drewN | apply below_drew1) | exact HB.out)) hb); have n1_ := Aside0.mk (hbox); have n2_ := Aside0.mk ((by rw [hg]; exact (below_size (by repeat (first | (with_reducible first | exact HB.out | apply below_alloc | apply pw_below_drewN | apply below_drew1) | exact HB.out))) : w.heap.size ≤ gb748)); have n3_ := Aside0.mk ((by rw [hg]; exact (below_size (by repeat (first | (with_reducible first | exact HB.out | apply below_alloc | apply pw_below_drewN | apply below_drew1) | exact HB.out))) : w.heap.size ≤ gb748)); clear HB; have HB := n0_; have BK748 := n1_; have GW748 := n2_; have GE748 := n3_; clear n0_ n1_ n2_ n3_; clear hb hbox hg) | ((with_reducible refine gate_callee (f := 24) rfl ?_); refine goesL_ (some 9) rfl rfl Try.func24 (by kernel_rfl) rfl #[.int .u64 a0] rfl (by (try simp only [List.map_toArray, List.map_cons, List.map_nil]); first | done | rfl | (simp only [List.length_drop, List.length_take]; rfl) | (simp only [*]; done)) ?_; (with_reducible refine (fbits_Parts.calls k a0 t749 t750 t751 t752 _ A2.out).mono ?_); rintro e w' ⟨rfl, ⟨nd, rfl⟩⟩; refine ⟨_, rfl, ?_⟩; (try (rw [drewN_self w3]; generalize hq_ : World.drewN w3 _ = w3; have n0_ : Aside0 (w3.heap[gb748]? = some (.cells #[.bool false, .int .u64 0, .int .i64 0] 78 (0, 0))) := ⟨by rw [← hq_]; exact (by (with_reducible repeat (first | refine blk_drewN ?_ _ | refine blk_drew ?_ | refine blk_alloc ?_ _)); exact BK748.out)⟩; have n1_ : Aside0 (Below w.heap.size w w3) := ⟨by rw [← hq_]; exact (by repeat (first | (with_reducible first | exact HB.out | apply below_alloc | apply pw_below_drewN | apply below_drew1 | refine below_set ?_ GE748.out) | exact HB.out))⟩; clear BK748 HB hq_; have BK748 := n0_; have HB := n1_; clear n0_ n1_)); have hcz4_0 : w3.cell? ⟨gb748, 0, none⟩ = some (.bool false) := (blk_cell BK748.out 0).trans rfl; have hcz4_1 : w3.cell? ⟨gb748, 1, none⟩ = some (.int .u64 0) := (blk_cell BK748.out 1).trans rfl; have hcz4_2 : w3.cell? ⟨gb748, 2, none⟩ = some (.int .i64 0) := (blk_cell BK748.out 2).trans rfl; have hfz4_0 := blk_frozen BK748.out 0; have hfz4_1 := blk_frozen BK748.out 1; have hfz4_2 := blk_frozen BK748.out 2))
 refine bodyPost_ret (results_cell_row rfl _ _ gb748 78 #[.bool t749, .int .u64 t750, .int .i64 t751] (0, 0) _ rfl (by (with_reducible repeat (first | refine blk_drewN ?_ _ | refine blk_drew ?_ | refine blk_alloc ?_ _)); refine blk_put (cs := #[.bool t749, .int .u64 t750, .int .i64 0]) ?_ 2 _ rfl; (with_reducible repeat (first | refine blk_drewN ?_ _ | refine blk_drew ?_ | refine blk_alloc ?_ _)); refine blk_put (cs := #[.bool t749, .int .u64 0, .int .i64 0]) ?_ 1 _ rfl; (with_reducible repeat (first | refine blk_drewN ?_ _ | refine blk_drew ?_ | refine blk_alloc ?_ _)); refine blk_put (cs := #[.bool false, .int .u64 0, .int .i64 0]) ?_ 0 _ rfl; (with_reducible repeat (first | refine blk_drewN ?_ _ | refine blk_drew ?_ | refine blk_alloc ?_ _)); exact BK748.out) Try.underlying78 rfl (by kernel_rfl)) rfl ?_
 exact ⟨by first | rfl | (simp [errW_none, errW_some] <;> rfl) | (simp [*, errW_none, errW_some] <;> rfl), by repeat (first | (with_reducible first | exact HB.out | apply below_alloc | apply pw_below_drewN | apply below_drew1 | refine below_set ?_ GE748.out) | exact HB.out)⟩

mutual
def fsum_Add.j0 : Nat → Int → Int → Int → Int → Bool → Option (Int)
 | 0, _, _, _, _, _ => none
 | k + 1, x0, x1, x5, x6, x11 => if x11 = true then ((fbits_Nan.f).bind fun t755 => (some t755)) else (if x5 = 3 then (if x6 = 3 then (fsum_Add.j1 k x0 x1 x5 x6 (x0 != x1)) else (fsum_Add.j1 k x0 x1 x5 x6 false)) else (fsum_Add.j1 k x0 x1 x5 x6 false))
def fsum_Add.j1 : Nat → Int → Int → Int → Int → Bool → Option (Int)
 | 0, _, _, _, _, _ => none
 | k + 1, x0, x1, x5, x6, x19 => if x19 = true then ((fbits_Nan.f).bind fun t756 => (some t756)) else (if x5 = 3 then (some x0) else (if x6 = 3 then (some x1) else ((fsum_of.f k x0).bind fun bt757 => ((fsum_of.f k x1).bind fun bt760 => ((fsum_finite.f k bt757.1 bt757.2.1 bt757.2.2 bt760.1 bt760.2.1 bt760.2.2).bind fun t763 => (some t763))))))
end
def fsum_Add.f (k : Nat) (a0 : Int) (a1 : Int) : Option (Int) := (fbits_Kind.f a0).bind fun t753 => ((fbits_Kind.f a1).bind fun t754 => (if t753 = 4 then (fsum_Add.j0 k a0 a1 t753 t754 true) else (fsum_Add.j0 k a0 a1 t753 t754 (t754 == 4))))
set_option maxHeartbeats 8000000 in
set_option maxRecDepth 100000 in
theorem fsum_Add.calls (k : Nat) (a0 : Int) (a1 : Int) (r : Int) (w : World) (h : fsum_Add.f k a0 a1 = some r) :
  Calls Try.prog 55 #[.int .u64 a0, .int .u64 a1] w fun e w' => e = .returned (.int .u64 r) ∧ Below w.heap.size w w' := by
 have HB := Aside0.mk (Below.refl w.heap.size w)
 have H : ((fbits_Kind.f a0).bind fun t753 => ((fbits_Kind.f a1).bind fun t754 => (if t753 = 4 then (fsum_Add.j0 k a0 a1 t753 t754 true) else (fsum_Add.j0 k a0 a1 t753 t754 (t754 == 4))))) = some r := h
 clear h
 replace H := Option.bind_eq_some_iff.mp H
 obtain ⟨t753, A30, H⟩ := H
 replace H : ((fbits_Kind.f a1).bind fun t754 => (if t753 = 4 then (fsum_Add.j0 k a0 a1 t753 t754 true) else (fsum_Add.j0 k a0 a1 t753 t754 (t754 == 4)))) = some r := H
 have A3 := Aside0.mk A30
 clear A30
 replace H := Option.bind_eq_some_iff.mp H
 obtain ⟨t754, A40, H⟩ := H
 replace H : (if t753 = 4 then (fsum_Add.j0 k a0 a1 t753 t754 true) else (fsum_Add.j0 k a0 a1 t753 t754 (t754 == 4))) = some r := H
 have A4 := Aside0.mk A40
 clear A40
 have HC5 := Aside0.mk H
 clear H
 go_enter Try.func55, Try.ntmps55
 go_upto_region 2 with (first | ((with_reducible refine gate_callee (f := 39) rfl ?_); refine goesL_ (some 8) rfl rfl Try.func39 (by kernel_rfl) rfl #[.int .u64 a0] rfl (by (try simp only [List.map_toArray, List.map_cons, List.map_nil]); first | done | rfl | (simp only [List.length_drop, List.length_take]; rfl) | (simp only [*]; done)) ?_; (with_reducible refine (fbits_Kind.calls a0 t753 _ A3.out).mono ?_); rintro e w' ⟨rfl, ⟨nd, rfl⟩⟩; refine ⟨_, rfl, ?_⟩) | ((with_reducible refine gate_callee (f := 39) rfl ?_); refine goesL_ (some 10) rfl rfl Try.func39 (by kernel_rfl) rfl #[.int .u64 a1] rfl (by (try simp only [List.map_toArray, List.map_cons, List.map_nil]); first | done | rfl | (simp only [List.length_drop, List.length_take]; rfl) | (simp only [*]; done)) ?_; (with_reducible refine (fbits_Kind.calls a1 t754 _ A4.out).mono ?_); rintro e w' ⟨rfl, ⟨nd, rfl⟩⟩; refine ⟨_, rfl, ?_⟩))
 (try simp only [Act.put, List.setIfInBounds_toArray, List.set_cons_zero, List.set_cons_succ])
 go_cut [11] (fun v11 wc => ∃ (kq : Nat) (x11_4 : Bool), v11 = .bool x11_4 ∧ Aside0 (fsum_Add.j0 kq a0 a1 t753 t754 x11_4 = some r) ∧ Aside0 (kq ≤ k) ∧ Aside0 (Below w.heap.size w wc))
 case first =>
  have H := HC5.out
  clear HC5
  by_cases c6 : t753 = 4
  ·rw [if_pos c6] at H
   have c6b0 : (t753 == 4) = true := beq_iff_eq.mpr c6
   have c6b1 : (t753 != 4) = false := bne_eq_false_iff_eq.mpr c6
   clear c6
   (first | rw [c6b0] | (simp only [i64_w, i32_w]; rw [c6b0]) | rw [c6b1] | skip)
   have H' := Aside0.mk H
   clear H
   go_wp2
   go_meet
   case rel => exact ⟨_, (true), (by first | rfl | (simp; done) | (simp [*]; done)), H', ⟨by first | omega | exact Nat.le_refl _⟩, ⟨bb HB.out⟩⟩
  ·rw [if_neg c6] at H
   have c6b0 : (t753 == 4) = false := beq_eq_false_iff_ne.mpr c6
   have c6b1 : (t753 != 4) = true := bne_iff_ne.mpr c6
   (first | rw [c6b0] | (simp only [i64_w, i32_w]; rw [c6b0]) | rw [c6b1] | skip)
   have H' := Aside0.mk H
   clear H
   go_wp2
   go_meet
   case rel => exact ⟨_, ((t754 == 4)), (by first | rfl | (simp; done) | (simp [*]; done)), H', ⟨by first | omega | exact Nat.le_refl _⟩, ⟨bb HB.out⟩⟩
 case rest =>
  clear HC5
  try clear p2
  try clear c3
  try clear c5
  try clear c6
  try clear c6b0
  try clear c6b1
  obtain ⟨kq, x11_4, rfl, HA, HJ4, HB⟩ := hcut
  cases kq with
  | zero => exact absurd HA.out (by simp [fsum_Add.j0])
  | succ kj4 =>
   have H := HA.out
   clear HA
   simp only [fsum_Add.j0] at H
   by_cases c7 : x11_4 = true
   ·subst c7
    have H1 : ((fbits_Nan.f).bind fun t755 => (some t755)) = some r := by rw [if_pos rfl] at H; exact H
    clear H
    have H := H1
    clear H1
    replace H := Option.bind_eq_some_iff.mp H
    obtain ⟨t755, A80, H⟩ := H
    replace H : (some t755) = some r := H
    have A8 := Aside0.mk A80
    clear A80
    obtain rfl := Option.some.inj H
    go_wp2_with (first | ((with_reducible refine gate_callee (f := 32) rfl ?_); refine goesL_ (some 18) rfl rfl Try.func32 (by kernel_rfl) rfl #[] rfl (by (try simp only [List.map_toArray, List.map_cons, List.map_nil]); first | done | rfl | (simp only [List.length_drop, List.length_take]; rfl) | (simp only [*]; done)) ?_; (with_reducible refine (fbits_Nan.calls  t755 _ A8.out).mono ?_); rintro e w' ⟨rfl, ⟨nd, rfl⟩⟩; refine ⟨_, rfl, ?_⟩))
    go_ret
    exact ⟨by first | rfl | (simp [errW_none, errW_some] <;> rfl) | (simp [*, errW_none, errW_some] <;> rfl), by repeat (first | (with_reducible first | exact HB.out | apply below_alloc | apply pw_below_drewN | apply below_drew1) | exact HB.out)⟩
   ·replace c7 := Bool.eq_false_iff.mpr c7
    subst c7
    have H1 : (if t753 = 3 then (if t754 = 3 then (fsum_Add.j1 kj4 a0 a1 t753 t754 (a0 != a1)) else (fsum_Add.j1 kj4 a0 a1 t753 t754 false)) else (fsum_Add.j1 kj4 a0 a1 t753 t754 false)) = some r := by rw [if_neg (show ¬ (false = true) by decide)] at H; exact H
    clear H
    have H := H1
    clear H1
    have HC9 := Aside0.mk H
    clear H
    go_upto_region 4 with (fail)
    go_cut [19] (fun v19 wc => ∃ (kq : Nat) (x19_8 : Bool), v19 = .bool x19_8 ∧ Aside0 (fsum_Add.j1 kq a0 a1 t753 t754 x19_8 = some r) ∧ Aside0 (kq ≤ kj4) ∧ Aside0 (Below w.heap.size w wc))
    case first =>
     have H := HC9.out
     clear HC9
     by_cases c10 : t753 = 3
     ·rw [if_pos c10] at H
      have c10b0 : (t753 == 3) = true := beq_iff_eq.mpr c10
      have c10b1 : (t753 != 3) = false := bne_eq_false_iff_eq.mpr c10
      clear c10
      (first | rw [c10b0] | (simp only [i64_w, i32_w]; rw [c10b0]) | rw [c10b1] | skip)
      by_cases c11 : t754 = 3
      ·rw [if_pos c11] at H
       have c11b0 : (t754 == 3) = true := beq_iff_eq.mpr c11
       have c11b1 : (t754 != 3) = false := bne_eq_false_iff_eq.mpr c11
       clear c11
       have H' := Aside0.mk H
       clear H
       go_wp2
       go_meet
       case rel => exact ⟨_, ((a0 != a1)), (by first | rfl | (simp; done) | (simp [*]; done)), H', ⟨by have := HJ4.out; first | omega | exact Nat.le_refl _⟩, ⟨bb HB.out⟩⟩
      ·rw [if_neg c11] at H
       have c11b0 : (t754 == 3) = false := beq_eq_false_iff_ne.mpr c11
       have c11b1 : (t754 != 3) = true := bne_iff_ne.mpr c11
       have H' := Aside0.mk H
       clear H
       go_wp2
       go_meet
       case rel => exact ⟨_, (false), (by first | rfl | (simp; done) | (simp [*]; done)), H', ⟨by have := HJ4.out; first | omega | exact Nat.le_refl _⟩, ⟨bb HB.out⟩⟩
     ·rw [if_neg c10] at H
      have c10b0 : (t753 == 3) = false := beq_eq_false_iff_ne.mpr c10
      have c10b1 : (t753 != 3) = true := bne_iff_ne.mpr c10
      (first | rw [c10b0] | (simp only [i64_w, i32_w]; rw [c10b0]) | rw [c10b1] | skip)
      have H' := Aside0.mk H
      clear H
      go_wp2
      go_meet
      case rel => exact ⟨_, (false), (by first | rfl | (simp; done) | (simp [*]; done)), H', ⟨by have := HJ4.out; first | omega | exact Nat.le_refl _⟩, ⟨bb HB.out⟩⟩
    case rest =>
     clear HC9
     try clear c1
     try clear p2
     try clear c3
     try clear c5
     try clear c6
     try clear c6b0
     try clear c6b1
     try clear c7
     try clear c10
     try clear c10b0
     try clear c10b1
     try clear c11
     try clear c11b0
     try clear c11b1
     try clear p2
     obtain ⟨kq, x19_8, rfl, HA, HJ8, HB⟩ := hcut
     cases kq with
     | zero => exact absurd HA.out (by simp [fsum_Add.j1])
     | succ kj8 =>
      have H := HA.out
      clear HA
      simp only [fsum_Add.j1] at H
      by_cases c12 : x19_8 = true
      ·subst c12
       have H1 : ((fbits_Nan.f).bind fun t756 => (some t756)) = some r := by rw [if_pos rfl] at H; exact H
       clear H
       have H := H1
       clear H1
       replace H := Option.bind_eq_some_iff.mp H
       obtain ⟨t756, A130, H⟩ := H
       replace H : (some t756) = some r := H
       have A13 := Aside0.mk A130
       clear A130
       obtain rfl := Option.some.inj H
       go_wp2_with (first | ((with_reducible refine gate_callee (f := 32) rfl ?_); refine goesL_ (some 31) rfl rfl Try.func32 (by kernel_rfl) rfl #[] rfl (by (try simp only [List.map_toArray, List.map_cons, List.map_nil]); first | done | rfl | (simp only [List.length_drop, List.length_take]; rfl) | (simp only [*]; done)) ?_; (with_reducible refine (fbits_Nan.calls  t756 _ A13.out).mono ?_); rintro e w' ⟨rfl, ⟨nd, rfl⟩⟩; refine ⟨_, rfl, ?_⟩))
       go_ret
       exact ⟨by first | rfl | (simp [errW_none, errW_some] <;> rfl) | (simp [*, errW_none, errW_some] <;> rfl), by repeat (first | (with_reducible first | exact HB.out | apply below_alloc | apply pw_below_drewN | apply below_drew1) | exact HB.out)⟩
      ·replace c12 := Bool.eq_false_iff.mpr c12
       subst c12
       have H1 : (if t753 = 3 then (some a0) else (if t754 = 3 then (some a1) else ((fsum_of.f kj8 a0).bind fun bt757 => ((fsum_of.f kj8 a1).bind fun bt760 => ((fsum_finite.f kj8 bt757.1 bt757.2.1 bt757.2.2 bt760.1 bt760.2.1 bt760.2.2).bind fun t763 => (some t763)))))) = some r := by rw [if_neg (show ¬ (false = true) by decide)] at H; exact H
       clear H
       have H := H1
       clear H1
       by_cases c14 : t753 = 3
       ·rw [if_pos c14] at H
        have c14b0 : (t753 == 3) = true := beq_iff_eq.mpr c14
        have c14b1 : (t753 != 3) = false := bne_eq_false_iff_eq.mpr c14
        clear c14
        obtain rfl := Option.some.inj H
        go_wp2
        go_ret
        exact ⟨by first | rfl | (simp [errW_none, errW_some] <;> rfl) | (simp [*, errW_none, errW_some] <;> rfl), by repeat (first | (with_reducible first | exact HB.out | apply below_alloc | apply pw_below_drewN | apply below_drew1) | exact HB.out)⟩
       ·rw [if_neg c14] at H
        have c14b0 : (t753 == 3) = false := beq_eq_false_iff_ne.mpr c14
        have c14b1 : (t753 != 3) = true := bne_iff_ne.mpr c14
        by_cases c15 : t754 = 3
        ·rw [if_pos c15] at H
         have c15b0 : (t754 == 3) = true := beq_iff_eq.mpr c15
         have c15b1 : (t754 != 3) = false := bne_eq_false_iff_eq.mpr c15
         clear c15
         obtain rfl := Option.some.inj H
         go_wp2
         go_ret
         exact ⟨by first | rfl | (simp [errW_none, errW_some] <;> rfl) | (simp [*, errW_none, errW_some] <;> rfl), by repeat (first | (with_reducible first | exact HB.out | apply below_alloc | apply pw_below_drewN | apply below_drew1) | exact HB.out)⟩
        ·rw [if_neg c15] at H
         have c15b0 : (t754 == 3) = false := beq_eq_false_iff_ne.mpr c15
         have c15b1 : (t754 != 3) = true := bne_iff_ne.mpr c15
         replace H := Option.bind_eq_some_iff.mp H
         obtain ⟨⟨t757, t758, t759⟩, A160, H⟩ := H
         replace H : ((fsum_of.f kj8 a1).bind fun bt760 => ((fsum_finite.f kj8 t757 t758 t759 bt760.1 bt760.2.1 bt760.2.2).bind fun t763 => (some t763))) = some r := H
         have A16 := Aside0.mk A160
         clear A160
         replace H := Option.bind_eq_some_iff.mp H
         obtain ⟨⟨t760, t761, t762⟩, A170, H⟩ := H
         replace H : ((fsum_finite.f kj8 t757 t758 t759 t760 t761 t762).bind fun t763 => (some t763)) = some r := H
         have A17 := Aside0.mk A170
         clear A170
         replace H := Option.bind_eq_some_iff.mp H
         obtain ⟨t763, A180, H⟩ := H
         replace H : (some t763) = some r := H
         have A18 := Aside0.mk A180
         clear A180
         obtain rfl := Option.some.inj H
         go_wp2_with (first | ((with_reducible refine gate_callee (f := 105) rfl ?_); refine goesL_ (some 41) rfl rfl Try.func105 (by kernel_rfl) rfl #[.int .u64 a0] rfl (by (try simp only [List.map_toArray, List.map_cons, List.map_nil]); first | done | rfl | (simp only [List.length_drop, List.length_take]; rfl) | (simp only [*]; done)) ?_; (with_reducible refine (fsum_of.calls kj8 a0 t757 t758 t759 _ A16.out).mono ?_); rintro e w19 ⟨rfl, hb⟩; refine ⟨_, rfl, ?_⟩; have n0_ := Aside0.mk (below_step (bb HB.out) hb); clear HB; have HB := n0_; clear n0_; (try clear hb); (try clear hb2); (try clear hk); (try clear hi)) | ((with_reducible refine gate_callee (f := 105) rfl ?_); refine goesL_ (some 43) rfl rfl Try.func105 (by kernel_rfl) rfl #[.int .u64 a1] rfl (by (try simp only [List.map_toArray, List.map_cons, List.map_nil]); first | done | rfl | (simp only [List.length_drop, List.length_take]; rfl) | (simp only [*]; done)) ?_; (with_reducible refine (fsum_of.calls kj8 a1 t760 t761 t762 _ A17.out).mono ?_); rintro e w20 ⟨rfl, hb⟩; refine ⟨_, rfl, ?_⟩; have n0_ := Aside0.mk (below_step (bb HB.out) hb); clear HB; have HB := n0_; clear n0_; (try clear hb); (try clear hb2); (try clear hk); (try clear hi)) | ((with_reducible refine gate_callee (f := 104) rfl ?_); refine goesL_ (some 44) rfl rfl Try.func104 (by kernel_rfl) rfl #[.agg #[.bool t757, .int .u64 t758, .int .i64 t759], .agg #[.bool t760, .int .u64 t761, .int .i64 t762]] rfl (by (try simp only [List.map_toArray, List.map_cons, List.map_nil]); first | done | rfl | (simp only [List.length_drop, List.length_take]; rfl) | (simp only [*]; done)) ?_; (with_reducible refine (fsum_finite.calls kj8 t757 t758 t759 t760 t761 t762 t763 _ A18.out).mono ?_); rintro e w21 ⟨rfl, hb⟩; refine ⟨_, rfl, ?_⟩; have n0_ := Aside0.mk (below_step (bb HB.out) hb); clear HB; have HB := n0_; clear n0_; (try clear hb); (try clear hb2); (try clear hk); (try clear hi)))
         go_ret
         exact ⟨by first | rfl | (simp [errW_none, errW_some] <;> rfl) | (simp [*, errW_none, errW_some] <;> rfl), by repeat (first | (with_reducible first | exact HB.out | apply below_alloc | apply pw_below_drewN | apply below_drew1) | exact HB.out)⟩

def fsum_Sub.f (k : Nat) (a0 : Int) (a1 : Int) : Option (Int) := (fbits_Flip.f a1).bind fun t799 => ((fsum_Add.f k a0 t799).bind fun t800 => (some t800))
set_option maxHeartbeats 8000000 in
set_option maxRecDepth 100000 in
theorem fsum_Sub.calls (k : Nat) (a0 : Int) (a1 : Int) (r : Int) (w : World) (h : fsum_Sub.f k a0 a1 = some r) :
  Calls Try.prog 57 #[.int .u64 a0, .int .u64 a1] w fun e w' => e = .returned (.int .u64 r) ∧ Below w.heap.size w w' := by
 have HB := Aside0.mk (Below.refl w.heap.size w)
 have H : ((fbits_Flip.f a1).bind fun t799 => ((fsum_Add.f k a0 t799).bind fun t800 => (some t800))) = some r := h
 clear h
 replace H := Option.bind_eq_some_iff.mp H
 obtain ⟨t799, A30, H⟩ := H
 replace H : ((fsum_Add.f k a0 t799).bind fun t800 => (some t800)) = some r := H
 have A3 := Aside0.mk A30
 clear A30
 replace H := Option.bind_eq_some_iff.mp H
 obtain ⟨t800, A40, H⟩ := H
 replace H : (some t800) = some r := H
 have A4 := Aside0.mk A40
 clear A40
 obtain rfl := Option.some.inj H
 go_enter Try.func57, Try.ntmps57
 go_wp2_with (first | ((with_reducible refine gate_callee (f := 45) rfl ?_); refine goesL_ (some 7) rfl rfl Try.func45 (by kernel_rfl) rfl #[.int .u64 a1] rfl (by (try simp only [List.map_toArray, List.map_cons, List.map_nil]); first | done | rfl | (simp only [List.length_drop, List.length_take]; rfl) | (simp only [*]; done)) ?_; (with_reducible refine (fbits_Flip.calls a1 t799 _ A3.out).mono ?_); rintro e w' ⟨rfl, ⟨nd, rfl⟩⟩; refine ⟨_, rfl, ?_⟩) | ((with_reducible refine gate_callee (f := 55) rfl ?_); refine goesL_ (some 8) rfl rfl Try.func55 (by kernel_rfl) rfl #[.int .u64 a0, .int .u64 t799] rfl (by (try simp only [List.map_toArray, List.map_cons, List.map_nil]); first | done | rfl | (simp only [List.length_drop, List.length_take]; rfl) | (simp only [*]; done)) ?_; (with_reducible refine (fsum_Add.calls k a0 t799 t800 _ A4.out).mono ?_); rintro e w5 ⟨rfl, hb⟩; refine ⟨_, rfl, ?_⟩; have n0_ := Aside0.mk (below_step (by repeat (first | (with_reducible first | exact HB.out | apply below_alloc | apply pw_below_drewN | apply below_drew1) | exact HB.out)) hb); clear HB; have HB := n0_; clear n0_; (try clear hb); (try clear hb2); (try clear hk); (try clear hi)))
 go_ret
 exact ⟨by first | rfl | (simp [errW_none, errW_some] <;> rfl) | (simp [*, errW_none, errW_some] <;> rfl), by repeat (first | (with_reducible first | exact HB.out | apply below_alloc | apply pw_below_drewN | apply below_drew1) | exact HB.out)⟩

end Go.Proofs.Ytbpggonjcnakgaa.P
