/- Functions of one package as Lean functions, and walks: written by a program for this claim. -/
import Derived.Test.YtldcgclbgbhffaaFbase
import Derived.Test.YtldcgclbgbhffaaBnat
import Derived.Test.YtldcgclbgbhffaaBgcd
import Derived.Test.YtldcgclbgbhffaaBprod
namespace Go.Proofs.Ytldcgclbgbhffaa.P
open Go.RowKit Go.Proofs.YtldcgclbgbhffaaW.PrintWords Go.Proofs.YtldcgclbgbhffaaW.PrintLast Go.Proofs.YtldcgclbgbhffaaW.PrintMore
attribute [local go_sem] max2_int min2_int max_two min_two max_three min_three max_four min_four   -- for this text's walks alone
set_option linter.unusedVariables false
set_option linter.unusedSimpArgs false

def rat_one.f  : Option (List Int) := some (([1] : List Int))

def rat_Of.f (k : Nat) (a0 : Int) : Option (Bool × List Int × List Int) := if a0 < 0 then ((nat_Of.f k (IntKind.u64.wrap (-(IntKind.u64.wrap (a0))))).bind fun t319 => ((rat_one.f).bind fun t322 => (some (true, t319, t322)))) else ((nat_Of.f k (IntKind.u64.wrap (a0))).bind fun t325 => ((rat_one.f).bind fun t328 => (some (false, t325, t328))))

def rat_lowest.f (k : Nat) (a0 : Bool) (l1 : List Int) (l2 : List Int) : Option (Bool × List Int × List Int) := (gcd_Reduce.f k l1 l2).bind fun bt300 => (if a0 = true then (some (decide ((bt300.1.length : Int) > 0), bt300.1, bt300.2)) else (some (false, bt300.1, bt300.2)))

def rat_same.f (k : Nat) (l0 : List Int) (l1 : List Int) : Option (Bool) := (nat_Right.f l0).bind fun t476 => (if t476 = true then ((nat_Right.f l1).bind fun t477 => (if t477 = true then ((nat_Cmp.f k l0 l1).bind fun t478 => (some (t478 == 0))) else (some false))) else (some false))

def rat_sum.f (k : Nat) (a0 : Bool) (l1 : List Int) (a2 : Bool) (l3 : List Int) : Option (Bool × List Int) := if (a0 == a2) = true then ((nat_Add.f k l1 l3).bind fun t479 => (some (a0, t479))) else ((nat_Sub.f k l1 l3).bind fun bt482 => (if bt482.2 = true then (some (a0, bt482.1)) else ((nat_Sub.f k l3 l1).bind fun bt486 => (some (a2, bt486.1)))))

def rat_safe.f (k : Nat) (l0 : List Int) : Option (List Int) := (nat_Bits.f k l0).bind fun t490 => (if t490 = 0 then ((rat_one.f).bind fun t491 => (some t491)) else (some l0))

def rat_Add.f (k : Nat) (a0_0 : Bool) (l0_1 : List Int) (l0_2 : List Int) (a1_0 : Bool) (l1_1 : List Int) (l1_2 : List Int) : Option (Bool × List Int × List Int) := (rat_same.f k l0_2 l1_2).bind fun t497 => (if t497 = true then ((rat_sum.f k a0_0 l0_1 a1_0 l1_1).bind fun bt498 => ((rat_safe.f k l0_2).bind fun t502 => ((rat_lowest.f k bt498.1 bt498.2 t502).bind fun bt505 => (some (bt505.1, bt505.2.1, bt505.2.2))))) else ((prod_Mul.f k l0_1 l1_2).bind fun t512 => ((prod_Mul.f k l1_1 l0_2).bind fun t515 => ((rat_sum.f k a0_0 t512 a1_0 t515).bind fun bt518 => ((prod_Mul.f k l0_2 l1_2).bind fun t522 => ((rat_safe.f k t522).bind fun t525 => ((rat_lowest.f k bt518.1 bt518.2 t525).bind fun bt528 => (some (bt528.1, bt528.2.1, bt528.2.2)))))))))

def rat_Sign.f (k : Nat) (a0_0 : Bool) (l0_1 : List Int) (l0_2 : List Int) : Option (Int) := (nat_Bits.f k l0_1).bind fun t536 => (if t536 = 0 then (some 0) else (if a0_0 = true then (some (-1)) else (some 1)))

mutual
def rat_Same.j0 : Nat → Bool → Bool → List Int → List Int → Bool → List Int → List Int → Option (Bool)
 | 0, _, _, _, _, _, _, _ => none
 | k + 1, x31, x854000, x854001, x854002, x855000, x855001, x855002 => if x31 = true then (some false) else (rat_Same.l0 k x854001 (x854001.length : Int) 0 x854000 x854001 x854002 x855000 x855001 x855002)
def rat_Same.l0 : Nat → List Int → Int → Int → Bool → List Int → List Int → Bool → List Int → List Int → Option (Bool)
 | 0, _, _, _, _, _, _, _, _, _ => none
 | k + 1, x33, x34, x35, x854000, x854001, x854002, x855000, x855001, x855002 => if x35 < x34 then (if 0 ≤ x35 then (if x35 < (x33.length : Int) then (if x35 < (x855001.length : Int) then (if (rd x33 x35) = (rd x855001 x35) then (rat_Same.l0 k x33 x34 (wrap64 (x35 + 1)) x854000 x854001 x854002 x855000 x855001 x855002) else (some false)) else (none)) else (none)) else (none)) else (rat_Same.l1 k x854002 (x854002.length : Int) 0 x855000 x855001 x855002)
def rat_Same.l1 : Nat → List Int → Int → Int → Bool → List Int → List Int → Option (Bool)
 | 0, _, _, _, _, _, _ => none
 | k + 1, x49, x50, x51, x855000, x855001, x855002 => if x51 < x50 then (if 0 ≤ x51 then (if x51 < (x49.length : Int) then (if x51 < (x855002.length : Int) then (if (rd x49 x51) = (rd x855002 x51) then (rat_Same.l1 k x49 x50 (wrap64 (x51 + 1)) x855000 x855001 x855002) else (some false)) else (none)) else (none)) else (none)) else (some true)
end
def rat_Same.f (k : Nat) (a0_0 : Bool) (l0_1 : List Int) (l0_2 : List Int) (a1_0 : Bool) (l1_1 : List Int) (l1_2 : List Int) : Option (Bool) := if (a0_0 != a1_0) = true then (rat_Same.j0 k true a0_0 l0_1 l0_2 a1_0 l1_1 l1_2) else (if (l0_1.length : Int) = (l1_1.length : Int) then (rat_Same.j0 k ((l0_2.length : Int) != (l1_2.length : Int)) a0_0 l0_1 l0_2 a1_0 l1_1 l1_2) else (rat_Same.j0 k true a0_0 l0_1 l0_2 a1_0 l1_1 l1_2))
set_option maxHeartbeats 8000000 in
set_option maxRecDepth 100000 in
theorem rat_Same.calls (k : Nat) (a0_0 : Bool) (A0_1 : Option Addr) (c0_1 : Nat) (l0_1 : List Int) (A0_2 : Option Addr) (c0_2 : Nat) (l0_2 : List Int) (a1_0 : Bool) (A1_1 : Option Addr) (c1_1 : Nat) (l1_1 : List Int) (A1_2 : Option Addr) (c1_2 : Nat) (l1_2 : List Int) (r : Bool) (w : World) (hr0_1 : Kd.C (Kd.int .u64) w A0_1 l0_1.length l0_1) (hc0_1 : l0_1.length ≤ c0_1) (hr0_2 : Kd.C (Kd.int .u64) w A0_2 l0_2.length l0_2) (hc0_2 : l0_2.length ≤ c0_2) (hr1_1 : Kd.C (Kd.int .u64) w A1_1 l1_1.length l1_1) (hc1_1 : l1_1.length ≤ c1_1) (hr1_2 : Kd.C (Kd.int .u64) w A1_2 l1_2.length l1_2) (hc1_2 : l1_2.length ≤ c1_2) (h : rat_Same.f k a0_0 l0_1 l0_2 a1_0 l1_1 l1_2 = some r) :
  Calls Try.prog 106 #[.agg #[.bool a0_0, .slice A0_1 l0_1.length c0_1, .slice A0_2 l0_2.length c0_2], .agg #[.bool a1_0, .slice A1_1 l1_1.length c1_1, .slice A1_2 l1_2.length c1_2]] w fun e w' => e = .returned (.bool r) ∧ Below w.heap.size w w' := by
 have hu66 := Try.underlying66
 have HR0_1 := Aside0.mk hr0_1
 have HC0_1 := Aside0.mk hc0_1
 clear hr0_1 hc0_1
 have HR0_2 := Aside0.mk hr0_2
 have HC0_2 := Aside0.mk hc0_2
 clear hr0_2 hc0_2
 have HR1_1 := Aside0.mk hr1_1
 have HC1_1 := Aside0.mk hc1_1
 clear hr1_1 hc1_1
 have HR1_2 := Aside0.mk hr1_2
 have HC1_2 := Aside0.mk hc1_2
 clear hr1_2 hc1_2
 have HB := Aside0.mk (Below.refl w.heap.size w)
 have H : (if (a0_0 != a1_0) = true then (rat_Same.j0 k true a0_0 l0_1 l0_2 a1_0 l1_1 l1_2) else (if (l0_1.length : Int) = (l1_1.length : Int) then (rat_Same.j0 k ((l0_2.length : Int) != (l1_2.length : Int)) a0_0 l0_1 l0_2 a1_0 l1_1 l1_2) else (rat_Same.j0 k true a0_0 l0_1 l0_2 a1_0 l1_1 l1_2))) = some r := h
 clear h
 have HC3 := Aside0.mk H
 clear H
 go_enter Try.func106, Try.ntmps106
 go_upto_region 1 with (first | ((with_reducible refine gate_dst (N := 2) rfl ?_); (try (refine gate_guard (by rfl) ?_; dsimp only)); refine box_event ?hg (N := 2) ?hd (cs := #[.bool a0_0, .slice A0_1 l0_1.length c0_1, .slice A0_2 l0_2.length c0_2]) (t := 66) ?hr ?_; (case hd => rfl); (case hg => rfl); (case hr => first | (go_simp; done) | (go_simp; rfl)); intro gb853 hg w4 hbox hb; have n0_ := Aside0.mk (below_step (by repeat (first | (with_reducible first | exact HB.out | apply below_alloc | apply pw_below_drewN | apply below_drew1) | exact HB.out)) hb); have n1_ := Aside0.mk (hbox); have n2_ := Aside0.mk ((by rw [hg]; exact (below_size (by repeat (first | (with_reducible first | exact HB.out | apply below_alloc | apply pw_below_drewN | apply below_drew1) | exact HB.out))) : w.heap.size ≤ gb853)); have n3_ := Aside0.mk ((by rw [hg]; exact (below_size (by repeat (first | (with_reducible first | exact HB.out | apply below_alloc | apply pw_below_drewN | apply below_drew1) | exact HB.out))) : w.heap.size ≤ gb853)); clear HB; have HB := n0_; have BK853 := n1_; have GW853 := n2_; have GE853 := n3_; clear n0_ n1_ n2_ n3_; clear hb hbox hg) | ((with_reducible refine gate_dst (N := 3) rfl ?_); (try (refine gate_guard (by rfl) ?_; dsimp only)); refine box_event ?hg (N := 3) ?hd (cs := #[.bool a1_0, .slice A1_1 l1_1.length c1_1, .slice A1_2 l1_2.length c1_2]) (t := 66) ?hr ?_; (case hd => rfl); (case hg => rfl); (case hr => first | (go_simp; done) | (go_simp; rfl)); intro gb854 hg w5 hbox hb; have n0_ := Aside0.mk (blk_below (g := gb853) (o := .cells #[.bool a0_0, .slice A0_1 l0_1.length c0_1, .slice A0_2 l0_2.length c0_2] 66 (0, 0)) (by (with_reducible repeat (first | refine blk_drewN ?_ _ | refine blk_drew ?_ | refine blk_alloc ?_ _)); exact BK853.out) hb); have n1_ := Aside0.mk (below_step (by repeat (first | (with_reducible first | exact HB.out | apply below_alloc | apply pw_below_drewN | apply below_drew1 | refine below_set ?_ GE853.out) | exact HB.out)) hb); have n2_ := Aside0.mk (hbox); have n3_ := Aside0.mk ((by rw [hg]; exact (below_size (by repeat (first | (with_reducible first | exact HB.out | apply below_alloc | apply pw_below_drewN | apply below_drew1 | refine below_set ?_ GE853.out) | exact HB.out))) : w.heap.size ≤ gb854)); have n4_ := Aside0.mk ((by rw [hg]; exact (below_size (by repeat (first | (with_reducible first | exact HB.out | apply below_alloc | apply pw_below_drewN | apply below_drew1 | refine below_set ?_ GE853.out) | exact HB.out))) : w.heap.size ≤ gb854)); have n5_ := Aside0.mk ((by rw [hg]; exact Nat.ne_of_lt (blk_lt (g := gb853) (o := .cells #[.bool a0_0, .slice A0_1 l0_1.length c0_1, .slice A0_2 l0_2.length c0_2] 66 (0, 0)) (by (with_reducible repeat (first | refine blk_drewN ?_ _ | refine blk_drew ?_ | refine blk_alloc ?_ _)); exact BK853.out)) : gb853 ≠ gb854)); have n6_ := Aside0.mk ((by rw [hg]; exact Nat.ne_of_gt (blk_lt (g := gb853) (o := .cells #[.bool a0_0, .slice A0_1 l0_1.length c0_1, .slice A0_2 l0_2.length c0_2] 66 (0, 0)) (by (with_reducible repeat (first | refine blk_drewN ?_ _ | refine blk_drew ?_ | refine blk_alloc ?_ _)); exact BK853.out)) : gb854 ≠ gb853)); clear BK853; clear HB; have BK853 := n0_; have HB := n1_; have BK854 := n2_; have GW854 := n3_; have GE854 := n4_; have NB853_854 := n5_; have NB854_853 := n6_; clear n0_ n1_ n2_ n3_ n4_ n5_ n6_; clear hb hbox hg))
 (try simp only [Act.put, List.setIfInBounds_toArray, List.set_cons_zero, List.set_cons_succ])
 go_cut [31] (fun v31 wc => ∃ (kq : Nat) (x31_2 : Bool), v31 = .bool x31_2 ∧ Aside0 (rat_Same.j0 kq x31_2 a0_0 l0_1 l0_2 a1_0 l1_1 l1_2 = some r) ∧ Aside0 (kq ≤ k) ∧ Aside0 (wc.heap[gb853]? = some (.cells #[.bool a0_0, (.slice A0_1 l0_1.length c0_1), (.slice A0_2 l0_2.length c0_2)] 66 (0, 0))) ∧ Aside0 (wc.heap[gb854]? = some (.cells #[.bool a1_0, (.slice A1_1 l1_1.length c1_1), (.slice A1_2 l1_2.length c1_2)] 66 (0, 0))) ∧ Aside0 (Below w.heap.size w wc))
 case first =>
  have H := HC3.out
  clear HC3
  by_cases c6 : (a0_0 != a1_0) = true
  ·rw [if_pos c6] at H
   have c6b0 : (a0_0 != a1_0) = true := c6
   (try (have c6b1 : decide (a0_0 = a1_0) = false := by simpa using c6))
   (try (have c6b2 : (a0_0 == a1_0) = false := by simpa using c6))
   (try (have c6b3 : ¬ (a0_0 = a1_0) := by simpa using c6))
   clear c6
   (first | rw [c6b0] | (simp only [i64_w, i32_w]; rw [c6b0]) | rw [c6b1] | skip)
   have H' := Aside0.mk H
   clear H
   have hnb7 := NB853_854.out
   have hnc7 := NB854_853.out
   have hcz8_0 : w5.cell? ⟨gb853, 0, none⟩ = some (.bool a0_0) := (blk_cell BK853.out 0).trans rfl
   have hcz8_1 : w5.cell? ⟨gb853, 1, none⟩ = some (.slice A0_1 l0_1.length c0_1) := (blk_cell BK853.out 1).trans rfl
   have hcz8_2 : w5.cell? ⟨gb853, 2, none⟩ = some (.slice A0_2 l0_2.length c0_2) := (blk_cell BK853.out 2).trans rfl
   have hfz8_0 := blk_frozen BK853.out 0
   have hfz8_1 := blk_frozen BK853.out 1
   have hfz8_2 := blk_frozen BK853.out 2
   have hcz9_0 : w5.cell? ⟨gb854, 0, none⟩ = some (.bool a1_0) := (blk_cell BK854.out 0).trans rfl
   have hcz9_1 : w5.cell? ⟨gb854, 1, none⟩ = some (.slice A1_1 l1_1.length c1_1) := (blk_cell BK854.out 1).trans rfl
   have hcz9_2 : w5.cell? ⟨gb854, 2, none⟩ = some (.slice A1_2 l1_2.length c1_2) := (blk_cell BK854.out 2).trans rfl
   have hfz9_0 := blk_frozen BK854.out 0
   have hfz9_1 := blk_frozen BK854.out 1
   have hfz9_2 := blk_frozen BK854.out 2
   go_wp2
   go_meet
   case rel => exact ⟨_, (true), (by first | rfl | (simp; done) | (simp [*]; done)), H', ⟨by first | omega | exact Nat.le_refl _⟩, ⟨by (with_reducible repeat (first | refine blk_drewN ?_ _ | refine blk_drew ?_ | refine blk_alloc ?_ _)); exact BK853.out⟩, ⟨by (with_reducible repeat (first | refine blk_drewN ?_ _ | refine blk_drew ?_ | refine blk_alloc ?_ _)); exact BK854.out⟩, ⟨by repeat (first | (with_reducible first | exact HB.out | apply below_alloc | apply pw_below_drewN | apply below_drew1 | refine below_set ?_ GE853.out | refine below_set ?_ GE854.out) | exact HB.out)⟩⟩
  ·rw [if_neg c6] at H
   have c6b0 : (a0_0 != a1_0) = false := by simpa using c6
   (try (have c6b1 : decide (a0_0 = a1_0) = true := by simpa using c6))
   (try (have c6b2 : (a0_0 == a1_0) = true := by simpa using c6))
   clear c6
   (first | rw [c6b0] | (simp only [i64_w, i32_w]; rw [c6b0]) | rw [c6b1] | skip)
   by_cases c10 : (l0_1.length : Int) = (l1_1.length : Int)
   ·rw [if_pos c10] at H
    have c10b0 : ((l0_1.length : Int) == (l1_1.length : Int)) = true := beq_iff_eq.mpr c10
    have c10b1 : ((l0_1.length : Int) != (l1_1.length : Int)) = false := bne_eq_false_iff_eq.mpr c10
    have c10b2 : (l0_1.length == l1_1.length) = true := by first | simpa using c10 | (simp at c10 ⊢; omega)
    clear c10
    have H' := Aside0.mk H
    clear H
    have hnb11 := NB853_854.out
    have hnc11 := NB854_853.out
    have hcz12_0 : w5.cell? ⟨gb853, 0, none⟩ = some (.bool a0_0) := (blk_cell BK853.out 0).trans rfl
    have hcz12_1 : w5.cell? ⟨gb853, 1, none⟩ = some (.slice A0_1 l0_1.length c0_1) := (blk_cell BK853.out 1).trans rfl
    have hcz12_2 : w5.cell? ⟨gb853, 2, none⟩ = some (.slice A0_2 l0_2.length c0_2) := (blk_cell BK853.out 2).trans rfl
    have hfz12_0 := blk_frozen BK853.out 0
    have hfz12_1 := blk_frozen BK853.out 1
    have hfz12_2 := blk_frozen BK853.out 2
    have hcz13_0 : w5.cell? ⟨gb854, 0, none⟩ = some (.bool a1_0) := (blk_cell BK854.out 0).trans rfl
    have hcz13_1 : w5.cell? ⟨gb854, 1, none⟩ = some (.slice A1_1 l1_1.length c1_1) := (blk_cell BK854.out 1).trans rfl
    have hcz13_2 : w5.cell? ⟨gb854, 2, none⟩ = some (.slice A1_2 l1_2.length c1_2) := (blk_cell BK854.out 2).trans rfl
    have hfz13_0 := blk_frozen BK854.out 0
    have hfz13_1 := blk_frozen BK854.out 1
    have hfz13_2 := blk_frozen BK854.out 2
    go_wp2
    go_meet
    case rel => exact ⟨_, (((l0_2.length : Int) != (l1_2.length : Int))), (by first | rfl | (simp; done) | (simp [*]; done)), H', ⟨by first | omega | exact Nat.le_refl _⟩, ⟨by (with_reducible repeat (first | refine blk_drewN ?_ _ | refine blk_drew ?_ | refine blk_alloc ?_ _)); exact BK853.out⟩, ⟨by (with_reducible repeat (first | refine blk_drewN ?_ _ | refine blk_drew ?_ | refine blk_alloc ?_ _)); exact BK854.out⟩, ⟨by repeat (first | (with_reducible first | exact HB.out | apply below_alloc | apply pw_below_drewN | apply below_drew1 | refine below_set ?_ GE853.out | refine below_set ?_ GE854.out) | exact HB.out)⟩⟩
   ·rw [if_neg c10] at H
    have c10b0 : ((l0_1.length : Int) == (l1_1.length : Int)) = false := beq_eq_false_iff_ne.mpr c10
    have c10b1 : ((l0_1.length : Int) != (l1_1.length : Int)) = true := bne_iff_ne.mpr c10
    have c10b2 : (l0_1.length == l1_1.length) = false := by first | simpa using c10 | (simp at c10 ⊢; omega)
    have H' := Aside0.mk H
    clear H
    have hnb14 := NB853_854.out
    have hnc14 := NB854_853.out
    have hcz15_0 : w5.cell? ⟨gb853, 0, none⟩ = some (.bool a0_0) := (blk_cell BK853.out 0).trans rfl
    have hcz15_1 : w5.cell? ⟨gb853, 1, none⟩ = some (.slice A0_1 l0_1.length c0_1) := (blk_cell BK853.out 1).trans rfl
    have hcz15_2 : w5.cell? ⟨gb853, 2, none⟩ = some (.slice A0_2 l0_2.length c0_2) := (blk_cell BK853.out 2).trans rfl
    have hfz15_0 := blk_frozen BK853.out 0
    have hfz15_1 := blk_frozen BK853.out 1
    have hfz15_2 := blk_frozen BK853.out 2
    have hcz16_0 : w5.cell? ⟨gb854, 0, none⟩ = some (.bool a1_0) := (blk_cell BK854.out 0).trans rfl
    have hcz16_1 : w5.cell? ⟨gb854, 1, none⟩ = some (.slice A1_1 l1_1.length c1_1) := (blk_cell BK854.out 1).trans rfl
    have hcz16_2 : w5.cell? ⟨gb854, 2, none⟩ = some (.slice A1_2 l1_2.length c1_2) := (blk_cell BK854.out 2).trans rfl
    have hfz16_0 := blk_frozen BK854.out 0
    have hfz16_1 := blk_frozen BK854.out 1
    have hfz16_2 := blk_frozen BK854.out 2
    go_wp2
    go_meet
    case rel => exact ⟨_, (true), (by first | rfl | (simp; done) | (simp [*]; done)), H', ⟨by first | omega | exact Nat.le_refl _⟩, ⟨by (with_reducible repeat (first | refine blk_drewN ?_ _ | refine blk_drew ?_ | refine blk_alloc ?_ _)); exact BK853.out⟩, ⟨by (with_reducible repeat (first | refine blk_drewN ?_ _ | refine blk_drew ?_ | refine blk_alloc ?_ _)); exact BK854.out⟩, ⟨by repeat (first | (with_reducible first | exact HB.out | apply below_alloc | apply pw_below_drewN | apply below_drew1 | refine below_set ?_ GE853.out | refine below_set ?_ GE854.out) | exact HB.out)⟩⟩
 case rest =>
  clear HC3
  try clear c1
  try clear p2
  try clear c6
  try clear c6b0
  try clear c6b1
  try clear c6b2
  try clear c7
  try clear c10
  try clear c10b0
  try clear c10b1
  try clear c10b2
  try clear c11
  try clear c14
  try clear hcz12_0
  try clear hcz12_1
  try clear hcz12_2
  try clear hcz13_0
  try clear hcz13_1
  try clear hcz13_2
  try clear hcz15_0
  try clear hcz15_1
  try clear hcz15_2
  try clear hcz16_0
  try clear hcz16_1
  try clear hcz16_2
  try clear hcz8_0
  try clear hcz8_1
  try clear hcz8_2
  try clear hcz9_0
  try clear hcz9_1
  try clear hcz9_2
  try clear hfz12_0
  try clear hfz12_1
  try clear hfz12_2
  try clear hfz13_0
  try clear hfz13_1
  try clear hfz13_2
  try clear hfz15_0
  try clear hfz15_1
  try clear hfz15_2
  try clear hfz16_0
  try clear hfz16_1
  try clear hfz16_2
  try clear hfz8_0
  try clear hfz8_1
  try clear hfz8_2
  try clear hfz9_0
  try clear hfz9_1
  try clear hfz9_2
  obtain ⟨kq, x31_2, rfl, HA, HJ2, BK853, BK854, HB⟩ := hcut
  cases kq with
  | zero => exact absurd HA.out (by simp [rat_Same.j0])
  | succ kj2 =>
   have H := HA.out
   clear HA
   simp only [rat_Same.j0] at H
   by_cases c17 : x31_2 = true
   ·subst c17
    have H1 : (some false) = some r := by rw [if_pos rfl] at H; exact H
    clear H
    have H := H1
    clear H1
    obtain rfl := Option.some.inj H
    go_wp2
    go_ret
    exact ⟨by first | rfl | (simp [errW_none, errW_some] <;> rfl) | (simp [*, errW_none, errW_some] <;> rfl), by repeat (first | (with_reducible first | exact HB.out | apply below_alloc | apply pw_below_drewN | apply below_drew1 | refine below_set ?_ GE853.out | refine below_set ?_ GE854.out) | exact HB.out)⟩
   ·replace c17 := Bool.eq_false_iff.mpr c17
    subst c17
    have H1 : (rat_Same.l0 kj2 l0_1 (l0_1.length : Int) 0 a0_0 l0_1 l0_2 a1_0 l1_1 l1_2) = some r := by rw [if_neg (show ¬ (false = true) by decide)] at H; exact H
    clear H
    have H := H1
    clear H1
    have H' := Aside0.mk H
    clear H
    have hnb18 := NB853_854.out
    have hnc18 := NB854_853.out
    have hcz19_0 : wc.cell? ⟨gb853, 0, none⟩ = some (.bool a0_0) := (blk_cell BK853.out 0).trans rfl
    have hcz19_1 : wc.cell? ⟨gb853, 1, none⟩ = some (.slice A0_1 l0_1.length c0_1) := (blk_cell BK853.out 1).trans rfl
    have hcz19_2 : wc.cell? ⟨gb853, 2, none⟩ = some (.slice A0_2 l0_2.length c0_2) := (blk_cell BK853.out 2).trans rfl
    have hfz19_0 := blk_frozen BK853.out 0
    have hfz19_1 := blk_frozen BK853.out 1
    have hfz19_2 := blk_frozen BK853.out 2
    go_wp2
    go_loopg [35] kj2 (fun kq v35 w' => ∃ (x35_2 : Int), v35 = .int .i64 x35_2 ∧ Aside0 (rat_Same.l0 kq l0_1 (l0_1.length : Int) x35_2 a0_0 l0_1 l0_2 a1_0 l1_1 l1_2 = some r) ∧ Aside0 (kq ≤ kj2) ∧ Aside0 (w'.heap[gb853]? = some (.cells #[.bool a0_0, (.slice A0_1 l0_1.length c0_1), (.slice A0_2 l0_2.length c0_2)] 66 (0, 0))) ∧ Aside0 (w'.heap[gb854]? = some (.cells #[.bool a1_0, (.slice A1_1 l1_1.length c1_1), (.slice A1_2 l1_2.length c1_2)] 66 (0, 0))) ∧ Aside0 (Below w.heap.size w w'))
    case atStart => exact ⟨(0), (by first | rfl | (simp; done) | (simp [*]; done)), H', ⟨Nat.le_refl _⟩, ⟨by (with_reducible repeat (first | refine blk_drewN ?_ _ | refine blk_drew ?_ | refine blk_alloc ?_ _)); exact BK853.out⟩, ⟨by (with_reducible repeat (first | refine blk_drewN ?_ _ | refine blk_drew ?_ | refine blk_alloc ?_ _)); exact BK854.out⟩, ⟨by repeat (first | (with_reducible first | exact HB.out | apply below_alloc | apply pw_below_drewN | apply below_drew1 | refine below_set ?_ GE853.out | refine below_set ?_ GE854.out) | exact HB.out)⟩⟩
    case round =>
     clear H'
     try clear c1
     try clear p2
     try clear c6
     try clear c6b0
     try clear c6b1
     try clear c6b2
     try clear c7
     try clear c10
     try clear c10b0
     try clear c10b1
     try clear c10b2
     try clear c11
     try clear c14
     try clear c17
     try clear c18
     try clear hcz12_0
     try clear hcz12_1
     try clear hcz12_2
     try clear hcz13_0
     try clear hcz13_1
     try clear hcz13_2
     try clear hcz15_0
     try clear hcz15_1
     try clear hcz15_2
     try clear hcz16_0
     try clear hcz16_1
     try clear hcz16_2
     try clear hcz19_0
     try clear hcz19_1
     try clear hcz19_2
     try clear hcz8_0
     try clear hcz8_1
     try clear hcz8_2
     try clear hcz9_0
     try clear hcz9_1
     try clear hcz9_2
     try clear hfz12_0
     try clear hfz12_1
     try clear hfz12_2
     try clear hfz13_0
     try clear hfz13_1
     try clear hfz13_2
     try clear hfz15_0
     try clear hfz15_1
     try clear hfz15_2
     try clear hfz16_0
     try clear hfz16_1
     try clear hfz16_2
     try clear hfz19_0
     try clear hfz19_1
     try clear hfz19_2
     try clear hfz8_0
     try clear hfz8_1
     try clear hfz8_2
     try clear hfz9_0
     try clear hfz9_1
     try clear hfz9_2
     try clear p2
     obtain ⟨x35_2, rfl, HA, HK2, BK853, BK854, HB⟩ := hrel
     cases gk with
     | zero => exact absurd HA.out (by simp [rat_Same.l0])
     | succ k2 =>
      have H := HA.out
      clear HA
      simp only [rat_Same.l0] at H
      by_cases c20 : x35_2 < (l0_1.length : Int)
      ·rw [if_pos c20] at H
       have c20b0 : decide (x35_2 < (l0_1.length : Int)) = true := decide_eq_true c20
       clear c20
       by_cases c21 : 0 ≤ x35_2
       ·rw [if_pos c21] at H
        have c21b0 : decide (0 ≤ x35_2) = true := decide_eq_true c21
        clear c21
        by_cases c22 : x35_2 < (l0_1.length : Int)
        ·rw [if_pos c22] at H
         have c22b0 : decide (x35_2 < (l0_1.length : Int)) = true := decide_eq_true c22
         clear c22
         by_cases c23 : x35_2 < (l1_1.length : Int)
         ·rw [if_pos c23] at H
          have c23b0 : decide (x35_2 < (l1_1.length : Int)) = true := decide_eq_true c23
          clear c23
          by_cases c24 : (rd l0_1 x35_2) = (rd l1_1 x35_2)
          ·rw [if_pos c24] at H
           have c24b0 : ((rd l0_1 x35_2) == (rd l1_1 x35_2)) = true := beq_iff_eq.mpr c24
           have c24b1 : ((rd l0_1 x35_2) != (rd l1_1 x35_2)) = false := bne_eq_false_iff_eq.mpr c24
           clear c24
           have H' := Aside0.mk H
           clear H
           have p855 : 0 ≤ (x35_2 : Int) := of_decide_eq_true (by first | (with_reducible assumption) | assumption)
           have q855 : x35_2 < (l0_1.length : Int) := of_decide_eq_true (by first | (with_reducible assumption) | assumption)
           obtain ⟨ad855, e855, hx855_0⟩ := Kd.at_int HR0_1.out x35_2 p855 q855
           cases e855
           replace hx855_0 := (HB.out.cell (World.block_lt_of_cell? w _ hx855_0)).trans hx855_0
           replace p855 := eq_true p855
           replace q855 := eq_true q855
           have hnb25 := NB854_853.out
           have hnc25 := NB853_854.out
           have hcz26_0 : wr.cell? ⟨gb854, 0, none⟩ = some (.bool a1_0) := (blk_cell BK854.out 0).trans rfl
           have hcz26_1 : wr.cell? ⟨gb854, 1, none⟩ = some (.slice A1_1 l1_1.length c1_1) := (blk_cell BK854.out 1).trans rfl
           have hcz26_2 : wr.cell? ⟨gb854, 2, none⟩ = some (.slice A1_2 l1_2.length c1_2) := (blk_cell BK854.out 2).trans rfl
           have hfz26_0 := blk_frozen BK854.out 0
           have hfz26_1 := blk_frozen BK854.out 1
           have hfz26_2 := blk_frozen BK854.out 2
           have p856 : 0 ≤ (x35_2 : Int) := of_decide_eq_true (by first | (with_reducible assumption) | assumption)
           have q856 : x35_2 < (l1_1.length : Int) := of_decide_eq_true (by first | (with_reducible assumption) | assumption)
           obtain ⟨ad856, e856, hx856_0⟩ := Kd.at_int HR1_1.out x35_2 p856 q856
           cases e856
           replace hx856_0 := (HB.out.cell (World.block_lt_of_cell? w _ hx856_0)).trans hx856_0
           replace p856 := eq_true p856
           replace q856 := eq_true q856
           go_wp2
           go_roundg k2
           case measure => have := HJ2.out; have := HK2.out; omega
           case rel => exact ⟨(wrap64 (x35_2 + 1)), (by first | rfl | (simp; done) | (simp [*]; done)), H', ⟨by have := HJ2.out; have := HK2.out; omega⟩, ⟨by (with_reducible repeat (first | refine blk_drewN ?_ _ | refine blk_drew ?_ | refine blk_alloc ?_ _)); exact BK853.out⟩, ⟨by (with_reducible repeat (first | refine blk_drewN ?_ _ | refine blk_drew ?_ | refine blk_alloc ?_ _)); exact BK854.out⟩, ⟨by repeat (first | (with_reducible first | exact HB.out | apply below_alloc | apply pw_below_drewN | apply below_drew1 | refine below_set ?_ GE853.out | refine below_set ?_ GE854.out) | exact HB.out)⟩⟩
          ·rw [if_neg c24] at H
           have c24b0 : ((rd l0_1 x35_2) == (rd l1_1 x35_2)) = false := beq_eq_false_iff_ne.mpr c24
           have c24b1 : ((rd l0_1 x35_2) != (rd l1_1 x35_2)) = true := bne_iff_ne.mpr c24
           obtain rfl := Option.some.inj H
           have p855 : 0 ≤ (x35_2 : Int) := of_decide_eq_true (by first | (with_reducible assumption) | assumption)
           have q855 : x35_2 < (l0_1.length : Int) := of_decide_eq_true (by first | (with_reducible assumption) | assumption)
           obtain ⟨ad855, e855, hx855_0⟩ := Kd.at_int HR0_1.out x35_2 p855 q855
           cases e855
           replace hx855_0 := (HB.out.cell (World.block_lt_of_cell? w _ hx855_0)).trans hx855_0
           replace p855 := eq_true p855
           replace q855 := eq_true q855
           have hnb27 := NB854_853.out
           have hnc27 := NB853_854.out
           have hcz28_0 : wr.cell? ⟨gb854, 0, none⟩ = some (.bool a1_0) := (blk_cell BK854.out 0).trans rfl
           have hcz28_1 : wr.cell? ⟨gb854, 1, none⟩ = some (.slice A1_1 l1_1.length c1_1) := (blk_cell BK854.out 1).trans rfl
           have hcz28_2 : wr.cell? ⟨gb854, 2, none⟩ = some (.slice A1_2 l1_2.length c1_2) := (blk_cell BK854.out 2).trans rfl
           have hfz28_0 := blk_frozen BK854.out 0
           have hfz28_1 := blk_frozen BK854.out 1
           have hfz28_2 := blk_frozen BK854.out 2
           have p856 : 0 ≤ (x35_2 : Int) := of_decide_eq_true (by first | (with_reducible assumption) | assumption)
           have q856 : x35_2 < (l1_1.length : Int) := of_decide_eq_true (by first | (with_reducible assumption) | assumption)
           obtain ⟨ad856, e856, hx856_0⟩ := Kd.at_int HR1_1.out x35_2 p856 q856
           cases e856
           replace hx856_0 := (HB.out.cell (World.block_lt_of_cell? w _ hx856_0)).trans hx856_0
           replace p856 := eq_true p856
           replace q856 := eq_true q856
           go_wp2
           go_ret
           exact ⟨by first | rfl | (simp [errW_none, errW_some] <;> rfl) | (simp [*, errW_none, errW_some] <;> rfl), by repeat (first | (with_reducible first | exact HB.out | apply below_alloc | apply pw_below_drewN | apply below_drew1 | refine below_set ?_ GE853.out | refine below_set ?_ GE854.out) | exact HB.out)⟩
         ·rw [if_neg c23] at H
          exact absurd H (by simp)
        ·rw [if_neg c22] at H
         exact absurd H (by simp)
       ·rw [if_neg c21] at H
        exact absurd H (by simp)
      ·rw [if_neg c20] at H
       have c20b0 : decide (x35_2 < (l0_1.length : Int)) = false := decide_eq_false c20
       clear c20
       have H' := Aside0.mk H
       clear H
       have hnb29 := NB853_854.out
       have hnc29 := NB854_853.out
       have hcz30_0 : wr.cell? ⟨gb853, 0, none⟩ = some (.bool a0_0) := (blk_cell BK853.out 0).trans rfl
       have hcz30_1 : wr.cell? ⟨gb853, 1, none⟩ = some (.slice A0_1 l0_1.length c0_1) := (blk_cell BK853.out 1).trans rfl
       have hcz30_2 : wr.cell? ⟨gb853, 2, none⟩ = some (.slice A0_2 l0_2.length c0_2) := (blk_cell BK853.out 2).trans rfl
       have hfz30_0 := blk_frozen BK853.out 0
       have hfz30_1 := blk_frozen BK853.out 1
       have hfz30_2 := blk_frozen BK853.out 2
       go_wp2
       go_loopg [51] k2 (fun kq v51 w' => ∃ (x51_3 : Int), v51 = .int .i64 x51_3 ∧ Aside0 (rat_Same.l1 kq l0_2 (l0_2.length : Int) x51_3 a1_0 l1_1 l1_2 = some r) ∧ Aside0 (kq ≤ k2) ∧ Aside0 (w'.heap[gb853]? = some (.cells #[.bool a0_0, (.slice A0_1 l0_1.length c0_1), (.slice A0_2 l0_2.length c0_2)] 66 (0, 0))) ∧ Aside0 (w'.heap[gb854]? = some (.cells #[.bool a1_0, (.slice A1_1 l1_1.length c1_1), (.slice A1_2 l1_2.length c1_2)] 66 (0, 0))) ∧ Aside0 (Below w.heap.size w w'))
       case atStart => exact ⟨(0), (by first | rfl | (simp; done) | (simp [*]; done)), H', ⟨Nat.le_refl _⟩, ⟨by (with_reducible repeat (first | refine blk_drewN ?_ _ | refine blk_drew ?_ | refine blk_alloc ?_ _)); exact BK853.out⟩, ⟨by (with_reducible repeat (first | refine blk_drewN ?_ _ | refine blk_drew ?_ | refine blk_alloc ?_ _)); exact BK854.out⟩, ⟨by repeat (first | (with_reducible first | exact HB.out | apply below_alloc | apply pw_below_drewN | apply below_drew1 | refine below_set ?_ GE853.out | refine below_set ?_ GE854.out) | exact HB.out)⟩⟩
       case round =>
        clear H'
        try clear c1
        try clear c2
        try clear p2
        try clear c6
        try clear c6b0
        try clear c6b1
        try clear c6b2
        try clear p6
        try clear c7
        try clear p8
        try clear q8
        try clear hx8
        try clear c10
        try clear c10b0
        try clear c10b1
        try clear c10b2
        try clear c11
        try clear c14
        try clear c17
        try clear c18
        try clear c20
        try clear c20b0
        try clear c21
        try clear c21b0
        try clear c22
        try clear c22b0
        try clear c23
        try clear c23b0
        try clear c24
        try clear c24b0
        try clear c24b1
        try clear c25
        try clear c27
        try clear c29
        try clear hcz12_0
        try clear hcz12_1
        try clear hcz12_2
        try clear hcz13_0
        try clear hcz13_1
        try clear hcz13_2
        try clear hcz15_0
        try clear hcz15_1
        try clear hcz15_2
        try clear hcz16_0
        try clear hcz16_1
        try clear hcz16_2
        try clear hcz19_0
        try clear hcz19_1
        try clear hcz19_2
        try clear hcz26_0
        try clear hcz26_1
        try clear hcz26_2
        try clear hcz28_0
        try clear hcz28_1
        try clear hcz28_2
        try clear hcz30_0
        try clear hcz30_1
        try clear hcz30_2
        try clear hcz8_0
        try clear hcz8_1
        try clear hcz8_2
        try clear hcz9_0
        try clear hcz9_1
        try clear hcz9_2
        try clear hfz12_0
        try clear hfz12_1
        try clear hfz12_2
        try clear hfz13_0
        try clear hfz13_1
        try clear hfz13_2
        try clear hfz15_0
        try clear hfz15_1
        try clear hfz15_2
        try clear hfz16_0
        try clear hfz16_1
        try clear hfz16_2
        try clear hfz19_0
        try clear hfz19_1
        try clear hfz19_2
        try clear hfz26_0
        try clear hfz26_1
        try clear hfz26_2
        try clear hfz28_0
        try clear hfz28_1
        try clear hfz28_2
        try clear hfz30_0
        try clear hfz30_1
        try clear hfz30_2
        try clear hfz8_0
        try clear hfz8_1
        try clear hfz8_2
        try clear hfz9_0
        try clear hfz9_1
        try clear hfz9_2
        try clear hx855_0
        try clear hx856_0
        try clear p2
        try clear p855
        try clear p856
        try clear q855
        try clear q856
        obtain ⟨x51_3, rfl, HA, HK3, BK853, BK854, HB⟩ := hrel
        cases gk with
        | zero => exact absurd HA.out (by simp [rat_Same.l1])
        | succ k3 =>
         have H := HA.out
         clear HA
         simp only [rat_Same.l1] at H
         by_cases c31 : x51_3 < (l0_2.length : Int)
         ·rw [if_pos c31] at H
          have c31b0 : decide (x51_3 < (l0_2.length : Int)) = true := decide_eq_true c31
          clear c31
          by_cases c32 : 0 ≤ x51_3
          ·rw [if_pos c32] at H
           have c32b0 : decide (0 ≤ x51_3) = true := decide_eq_true c32
           clear c32
           by_cases c33 : x51_3 < (l0_2.length : Int)
           ·rw [if_pos c33] at H
            have c33b0 : decide (x51_3 < (l0_2.length : Int)) = true := decide_eq_true c33
            clear c33
            by_cases c34 : x51_3 < (l1_2.length : Int)
            ·rw [if_pos c34] at H
             have c34b0 : decide (x51_3 < (l1_2.length : Int)) = true := decide_eq_true c34
             clear c34
             by_cases c35 : (rd l0_2 x51_3) = (rd l1_2 x51_3)
             ·rw [if_pos c35] at H
              have c35b0 : ((rd l0_2 x51_3) == (rd l1_2 x51_3)) = true := beq_iff_eq.mpr c35
              have c35b1 : ((rd l0_2 x51_3) != (rd l1_2 x51_3)) = false := bne_eq_false_iff_eq.mpr c35
              clear c35
              have H' := Aside0.mk H
              clear H
              have p857 : 0 ≤ (x51_3 : Int) := of_decide_eq_true (by first | (with_reducible assumption) | assumption)
              have q857 : x51_3 < (l0_2.length : Int) := of_decide_eq_true (by first | (with_reducible assumption) | assumption)
              obtain ⟨ad857, e857, hx857_0⟩ := Kd.at_int HR0_2.out x51_3 p857 q857
              cases e857
              replace hx857_0 := (HB.out.cell (World.block_lt_of_cell? w _ hx857_0)).trans hx857_0
              replace p857 := eq_true p857
              replace q857 := eq_true q857
              have hnb36 := NB854_853.out
              have hnc36 := NB853_854.out
              have hcz37_0 : wr.cell? ⟨gb854, 0, none⟩ = some (.bool a1_0) := (blk_cell BK854.out 0).trans rfl
              have hcz37_1 : wr.cell? ⟨gb854, 1, none⟩ = some (.slice A1_1 l1_1.length c1_1) := (blk_cell BK854.out 1).trans rfl
              have hcz37_2 : wr.cell? ⟨gb854, 2, none⟩ = some (.slice A1_2 l1_2.length c1_2) := (blk_cell BK854.out 2).trans rfl
              have hfz37_0 := blk_frozen BK854.out 0
              have hfz37_1 := blk_frozen BK854.out 1
              have hfz37_2 := blk_frozen BK854.out 2
              have p858 : 0 ≤ (x51_3 : Int) := of_decide_eq_true (by first | (with_reducible assumption) | assumption)
              have q858 : x51_3 < (l1_2.length : Int) := of_decide_eq_true (by first | (with_reducible assumption) | assumption)
              obtain ⟨ad858, e858, hx858_0⟩ := Kd.at_int HR1_2.out x51_3 p858 q858
              cases e858
              replace hx858_0 := (HB.out.cell (World.block_lt_of_cell? w _ hx858_0)).trans hx858_0
              replace p858 := eq_true p858
              replace q858 := eq_true q858
              go_wp2
              go_roundg k3
              case measure => have := HJ2.out; have := HK2.out; have := HK3.out; omega
              case rel => exact ⟨(wrap64 (x51_3 + 1)), (by first | rfl | (simp; done) | (simp [*]; done)), H', ⟨by have := HJ2.out; have := HK2.out; have := HK3.out; omega⟩, ⟨by (with_reducible repeat (first | refine blk_drewN ?_ _ | refine blk_drew ?_ | refine blk_alloc ?_ _)); exact BK853.out⟩, ⟨by (with_reducible repeat (first | refine blk_drewN ?_ _ | refine blk_drew ?_ | refine blk_alloc ?_ _)); exact BK854.out⟩, ⟨by repeat (first | (with_reducible first | exact HB.out | apply below_alloc | apply pw_below_drewN | apply below_drew1 | refine below_set ?_ GE853.out | refine below_set ?_ GE854.out) | exact HB.out)⟩⟩
             ·rw [if_neg c35] at H
              have c35b0 : ((rd l0_2 x51_3) == (rd l1_2 x51_3)) = false := beq_eq_false_iff_ne.mpr c35
              have c35b1 : ((rd l0_2 x51_3) != (rd l1_2 x51_3)) = true := bne_iff_ne.mpr c35
              obtain rfl := Option.some.inj H
              have p857 : 0 ≤ (x51_3 : Int) := of_decide_eq_true (by first | (with_reducible assumption) | assumption)
              have q857 : x51_3 < (l0_2.length : Int) := of_decide_eq_true (by first | (with_reducible assumption) | assumption)
              obtain ⟨ad857, e857, hx857_0⟩ := Kd.at_int HR0_2.out x51_3 p857 q857
              cases e857
              replace hx857_0 := (HB.out.cell (World.block_lt_of_cell? w _ hx857_0)).trans hx857_0
              replace p857 := eq_true p857
              replace q857 := eq_true q857
              have hnb38 := NB854_853.out
              have hnc38 := NB853_854.out
              have hcz39_0 : wr.cell? ⟨gb854, 0, none⟩ = some (.bool a1_0) := (blk_cell BK854.out 0).trans rfl
              have hcz39_1 : wr.cell? ⟨gb854, 1, none⟩ = some (.slice A1_1 l1_1.length c1_1) := (blk_cell BK854.out 1).trans rfl
              have hcz39_2 : wr.cell? ⟨gb854, 2, none⟩ = some (.slice A1_2 l1_2.length c1_2) := (blk_cell BK854.out 2).trans rfl
              have hfz39_0 := blk_frozen BK854.out 0
              have hfz39_1 := blk_frozen BK854.out 1
              have hfz39_2 := blk_frozen BK854.out 2
              have p858 : 0 ≤ (x51_3 : Int) := of_decide_eq_true (by first | (with_reducible assumption) | assumption)
              have q858 : x51_3 < (l1_2.length : Int) := of_decide_eq_true (by first | (with_reducible assumption) | assumption)
              obtain ⟨ad858, e858, hx858_0⟩ := Kd.at_int HR1_2.out x51_3 p858 q858
              cases e858
              replace hx858_0 := (HB.out.cell (World.block_lt_of_cell? w _ hx858_0)).trans hx858_0
              replace p858 := eq_true p858
              replace q858 := eq_true q858
              go_wp2
              go_ret
              exact ⟨by first | rfl | (simp [errW_none, errW_some] <;> rfl) | (simp [*, errW_none, errW_some] <;> rfl), by repeat (first | (with_reducible first | exact HB.out | apply below_alloc | apply pw_below_drewN | apply below_drew1 | refine below_set ?_ GE853.out | refine below_set ?_ GE854.out) | exact HB.out)⟩
            ·rw [if_neg c34] at H
             exact absurd H (by simp)
           ·rw [if_neg c33] at H
            exact absurd H (by simp)
          ·rw [if_neg c32] at H
           exact absurd H (by simp)
         ·rw [if_neg c31] at H
          have c31b0 : decide (x51_3 < (l0_2.length : Int)) = false := decide_eq_false c31
          clear c31
          obtain rfl := Option.some.inj H
          go_wp2
          go_ret
          exact ⟨by first | rfl | (simp [errW_none, errW_some] <;> rfl) | (simp [*, errW_none, errW_some] <;> rfl), by repeat (first | (with_reducible first | exact HB.out | apply below_alloc | apply pw_below_drewN | apply below_drew1 | refine below_set ?_ GE853.out | refine below_set ?_ GE854.out) | exact HB.out)⟩

def rat_Neg.f (k : Nat) (a0_0 : Bool) (l0_1 : List Int) (l0_2 : List Int) : Option (Bool × List Int × List Int) := if a0_0 = true then ((nat_Trim.f k l0_1).bind fun t1061 => ((nat_Trim.f k l0_2).bind fun t1064 => (some (false, t1061, t1064)))) else ((nat_Bits.f k l0_1).bind fun t1067 => ((nat_Trim.f k l0_1).bind fun t1068 => ((nat_Trim.f k l0_2).bind fun t1071 => (some (decide (t1067 > 0), t1068, t1071)))))

def rat_Sub.f (k : Nat) (a0_0 : Bool) (l0_1 : List Int) (l0_2 : List Int) (a1_0 : Bool) (l1_1 : List Int) (l1_2 : List Int) : Option (Bool × List Int × List Int) := (rat_Neg.f k a1_0 l1_1 l1_2).bind fun bt1077 => ((rat_Add.f k a0_0 l0_1 l0_2 bt1077.1 bt1077.2.1 bt1077.2.2).bind fun bt1084 => (some (bt1084.1, bt1084.2.1, bt1084.2.2)))

def rat_Cmp.f (k : Nat) (a0_0 : Bool) (l0_1 : List Int) (l0_2 : List Int) (a1_0 : Bool) (l1_1 : List Int) (l1_2 : List Int) : Option (Int) := (rat_Sub.f k a0_0 l0_1 l0_2 a1_0 l1_1 l1_2).bind fun bt1135 => ((rat_Sign.f k bt1135.1 bt1135.2.1 bt1135.2.2).bind fun t1142 => (some t1142))

def rat_Make.f (k : Nat) (a0 : Bool) (l1 : List Int) (l2 : List Int) : Option (Bool × List Int × List Int × Int) := (nat_Bits.f k l2).bind fun t307 => (if t307 = 0 then (some (false, ([] : List Int), ([] : List Int), 4)) else ((rat_lowest.f k a0 l1 l2).bind fun bt308 => (some (bt308.1, bt308.2.1, bt308.2.2, 0))))

def rat_Inv.f (k : Nat) (a0_0 : Bool) (l0_1 : List Int) (l0_2 : List Int) : Option (Bool × List Int × List Int × Int) := (nat_Bits.f k l0_1).bind fun t908 => (if t908 = 0 then (some (false, ([] : List Int), ([] : List Int), 4)) else ((nat_Trim.f k l0_2).bind fun t909 => ((nat_Trim.f k l0_1).bind fun t912 => (some (a0_0, t909, t912, 0)))))

end Go.Proofs.Ytldcgclbgbhffaa.P
