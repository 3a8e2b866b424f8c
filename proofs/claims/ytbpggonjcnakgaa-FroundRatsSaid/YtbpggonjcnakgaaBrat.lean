/- Functions of one package as Lean functions, and walks: written by a program for this claim. -/
import Derived.Test.YtbpggonjcnakgaaFbase
import Derived.Test.YtbpggonjcnakgaaBnat
import Derived.Test.YtbpggonjcnakgaaBgcd
namespace Go.Proofs.Ytbpggonjcnakgaa.P
open Go.RowKit Go.Proofs.YtbpggonjcnakgaaW.PrintWords Go.Proofs.YtbpggonjcnakgaaW.PrintLast Go.Proofs.YtbpggonjcnakgaaW.PrintMore
attribute [local go_sem] max2_int min2_int max_two min_two max_three min_three max_four min_four   -- for this text's walks alone
set_option linter.unusedVariables false
set_option linter.unusedSimpArgs false

def rat_Sign.f (k : Nat) (a0_0 : Bool) (l0_1 : List Int) (l0_2 : List Int) : Option (Int) := (nat_Bits.f k l0_1).bind fun t1323 => (if t1323 = 0 then (some 0) else (if a0_0 = true then (some (-1)) else (some 1)))
set_option maxHeartbeats 8000000 in
set_option maxRecDepth 100000 in
theorem rat_Sign.calls (k : Nat) (a0_0 : Bool) (A0_1 : Option Addr) (c0_1 : Nat) (l0_1 : List Int) (A0_2 : Option Addr) (c0_2 : Nat) (l0_2 : List Int) (r : Int) (w : World) (hr0_1 : Kd.C (Kd.int .u64) w A0_1 l0_1.length l0_1) (hc0_1 : l0_1.length ≤ c0_1) (hr0_2 : Kd.C (Kd.int .u64) w A0_2 l0_2.length l0_2) (hc0_2 : l0_2.length ≤ c0_2) (h : rat_Sign.f k a0_0 l0_1 l0_2 = some r) :
  Calls Try.prog 132 #[.agg #[.bool a0_0, .slice A0_1 l0_1.length c0_1, .slice A0_2 l0_2.length c0_2]] w fun e w' => e = .returned (.int .i64 r) ∧ Below w.heap.size w w' := by
 have hu32 := Try.underlying32
 have HR0_1 := Aside0.mk hr0_1
 have HC0_1 := Aside0.mk hc0_1
 clear hr0_1 hc0_1
 have HR0_2 := Aside0.mk hr0_2
 have HC0_2 := Aside0.mk hc0_2
 clear hr0_2 hc0_2
 have HB := Aside0.mk (Below.refl w.heap.size w)
 have H := h
 clear h
 unfold rat_Sign.f at H
 obtain ⟨t1323, A2, H⟩ := bnd H
 refine if c3 : t1323 = 0 then ?p99_ else ?n99_
 case' p99_ =>
  rw [if_pos c3] at H
  have c3b0 : (t1323 == 0) = true := beq_iff_eq.mpr c3
  have c3b1 : (t1323 != 0) = false := bne_eq_false_iff_eq.mpr c3
  clear c3
  obtain rfl := Option.some.inj H
 case' n99_ =>
  rw [if_neg c3] at H
  have c3b0 : (t1323 == 0) = false := beq_eq_false_iff_ne.mpr c3
  have c3b1 : (t1323 != 0) = true := bne_iff_ne.mpr c3
  refine if c6 : a0_0 = true then ?p100_ else ?n100_
  case' p100_ =>
   subst c6
   replace H := ift H
   obtain rfl := Option.some.inj H
  case' n100_ =>
   replace c6 := Bool.eq_false_iff.mpr c6
   subst c6
   replace H := iff_ H
   obtain rfl := Option.some.inj H
 case p99_ | p100_ | n100_ =>
  go_enter Try.func132, Try.ntmps132
  go_wp2_with (first | ((with_reducible refine gate_dst (N := 1) rfl ?_); refine box_event ?hg (N := 1) ?hd (cs := #[.bool false, .slice A0_1 l0_1.length c0_1, .slice A0_2 l0_2.length c0_2]) (t := 32) ?hr ?_; (case hd => rfl); (case hg => rfl); (case hr => first | (go_simp; done) | (go_simp; rfl)); intro gb1322 hg w9 hbox hb; refine sw4 ⟨below_step (bb HB.out) hb⟩ ⟨hbox⟩ ⟨(by rw [hg]; exact (below_size (bb HB.out)) : w.heap.size ≤ gb1322)⟩ ⟨(by rw [hg]; exact (below_size (bb HB.out)) : w.heap.size ≤ gb1322)⟩ ?_; clear HB; intro HB BK1322 GW1322 GE1322; clear hb hbox hg; obtain ⟨hcz10_0, hcz10_1, hcz10_2, hfz10_0, hfz10_1, hfz10_2⟩ := cz3 BK1322) | ((with_reducible refine gate_callee (f := 114) rfl ?_); refine goesL_ (some 6) rfl rfl Try.func114 (by kernel_rfl) rfl #[.slice A0_1 l0_1.length c0_1] rfl lx ?_; (with_reducible refine (nat_Bits.calls k _ _ l0_1 t1323 _ ?side1 ?side2 A2.out).mono ?_); (case side1 => exact cs (Kd.C_below HR0_1.out HB.out)); (case side2 => exact HC0_1.out); rintro e w' ⟨rfl, ⟨nd, rfl⟩⟩; refine ⟨_, rfl, ?_⟩) | ((with_reducible refine gate_dst (N := 1) rfl ?_); refine box_event ?hg (N := 1) ?hd (cs := #[.bool a0_0, .slice A0_1 l0_1.length c0_1, .slice A0_2 l0_2.length c0_2]) (t := 32) ?hr ?_; (case hd => rfl); (case hg => rfl); (case hr => first | (go_simp; done) | (go_simp; rfl)); intro gb1322 hg w4 hbox hb; refine sw4 ⟨below_step (bb HB.out) hb⟩ ⟨hbox⟩ ⟨(by rw [hg]; exact (below_size (bb HB.out)) : w.heap.size ≤ gb1322)⟩ ⟨(by rw [hg]; exact (below_size (bb HB.out)) : w.heap.size ≤ gb1322)⟩ ?_; clear HB; intro HB BK1322 GW1322 GE1322; clear hb hbox hg; obtain ⟨hcz5_0, hcz5_1, hcz5_2, hfz5_0, hfz5_1, hfz5_2⟩ := cz3 BK1322) | ((with_reducible refine gate_dst (N := 1) rfl ?_); refine box_event ?hg (N := 1) ?hd (cs := #[.bool true, .slice A0_1 l0_1.length c0_1, .slice A0_2 l0_2.length c0_2]) (t := 32) ?hr ?_; (case hd => rfl); (case hg => rfl); (case hr => first | (go_simp; done) | (go_simp; rfl)); intro gb1322 hg w7 hbox hb; refine sw4 ⟨below_step (bb HB.out) hb⟩ ⟨hbox⟩ ⟨(by rw [hg]; exact (below_size (bb HB.out)) : w.heap.size ≤ gb1322)⟩ ⟨(by rw [hg]; exact (below_size (bb HB.out)) : w.heap.size ≤ gb1322)⟩ ?_; clear HB; intro HB BK1322 GW1322 GE1322; clear hb hbox hg; obtain ⟨hcz8_0, hcz8_1, hcz8_2, hfz8_0, hfz8_1, hfz8_2⟩ := cz3 BK1322))
  go_ret
  exact ⟨er, hbb⟩

def rat_lowest.f (k : Nat) (a0 : Bool) (l1 : List Int) (l2 : List Int) : Option (Bool × List Int × List Int) := (gcd_Reduce.f k l1 l2).bind fun bt1581 => (if a0 = true then (some (decide ((bt1581.1.length : Int) > 0), bt1581.1, bt1581.2)) else (some (false, bt1581.1, bt1581.2)))
set_option maxHeartbeats 8000000 in
set_option maxRecDepth 100000 in
theorem rat_lowest.calls (k : Nat) (a0 : Bool) (A1 : Option Addr) (c1 : Nat) (l1 : List Int) (A2 : Option Addr) (c2 : Nat) (l2 : List Int) (r1 : Bool) (r2 : List Int) (r3 : List Int) (w : World) (hr1 : Kd.C (Kd.int .u64) w A1 l1.length l1) (hc1 : l1.length ≤ c1) (hr2 : Kd.C (Kd.int .u64) w A2 l2.length l2) (hc2 : l2.length ≤ c2) (h : rat_lowest.f k a0 l1 l2 = some (r1, r2, r3)) :
  Calls Try.prog 157 #[.bool a0, .slice A1 l1.length c1, .slice A2 l2.length c2] w fun e w' => ∃ v1_ v2_ : Value, e = .returned (.agg #[.bool r1, v1_, v2_]) ∧ Kd.R (Kd.int .u64) 22 w' w.heap.size (fun k_ => some k_ ≠ (v2_ : Value).ownBlock) v1_ r2 ∧ Kd.R (Kd.int .u64) 22 w' w.heap.size (fun k_ => some k_ ≠ (v1_ : Value).ownBlock) v2_ r3 ∧ Below w.heap.size w w' := by
 have hu32 := Try.underlying32
 have HR1 := Aside0.mk hr1
 have HC1 := Aside0.mk hc1
 clear hr1 hc1
 have HR2 := Aside0.mk hr2
 have HC2 := Aside0.mk hc2
 clear hr2 hc2
 have HB := Aside0.mk (Below.refl w.heap.size w)
 have H := h
 clear h
 unfold rat_lowest.f at H
 obtain ⟨⟨t1581, t1582⟩, A4, H⟩ := bnd H
 dsimp only at H
 by_cases c5 : a0 = true
 ·subst c5
  replace H := ift H
  simp only [Option.some.injEq, Prod.mk.injEq] at H
  obtain ⟨rfl, rfl, rfl⟩ := H
  go_enter Try.func157, Try.ntmps157
  go_wp2_with (first | ((with_reducible refine gate_dst (N := 6) rfl ?_); (try (refine gate_guard (by rfl) ?_; dsimp only)); refine box_event ?hg (N := 6) ?hd (cs := #[.bool false, .slice none 0 0, .slice none 0 0]) (t := 32) ?hr ?_; (case hd => rfl); (case hg => rfl); (case hr => first | (go_simp; done) | (go_simp; rfl)); intro gb1580 hg w6 hbox hb; refine sw4 ⟨below_step (bb HB.out) hb⟩ ⟨hbox⟩ ⟨(by rw [hg]; exact (below_size (bb HB.out)) : w.heap.size ≤ gb1580)⟩ ⟨(by rw [hg]; exact (below_size (bb HB.out)) : w.heap.size ≤ gb1580)⟩ ?_; clear HB; intro HB BK1580 GW1580 GE1580; clear hb hbox hg) | ((with_reducible refine gate_callee (f := 161) rfl ?_); refine goesL_ (some 12) rfl rfl Try.func161 (by kernel_rfl) rfl #[.slice A1 l1.length c1, .slice A2 l2.length c2] rfl lx ?_; (with_reducible refine (gcd_Reduce.calls k _ _ l1 _ _ l2 t1581 t1582 _ ?side1 ?side2 ?side3 ?side4 A4.out).mono ?_); (case side1 => exact cs (Kd.C_below HR1.out HB.out)); (case side2 => exact HC1.out); (case side3 => exact cs (Kd.C_below HR2.out HB.out)); (case side4 => exact HC2.out); rintro e w7 ⟨v1583, v1585, rfl, ho0, ho1, hb⟩; refine ⟨_, rfl, ?_⟩; refine sw4 ⟨Kd.R_lower ho0 (below_size hbb)⟩ ⟨Kd.R_lower ho1 (below_size hbb)⟩ ⟨blk_below (bk BK1580.out) hb⟩ ⟨below_step hbb hb⟩ ?_; clear BK1580 HB; intro HO1584 HO1586 BK1580 HB; obtain ⟨Ao8, co8, eo8⟩ := Kd.R_slice HO1584.out; subst eo8; obtain ⟨Ao9, co9, eo9⟩ := Kd.R_slice HO1586.out; subst eo9; obtain ⟨hcz10_0, hcz10_1, hcz10_2, hfz10_0, hfz10_1, hfz10_2⟩ := cz3 BK1580))
  refine bodyPost_ret (results_cell_row rfl _ _ gb1580 32 #[.bool (decide (0 < t1581.length)), .slice Ao8 t1581.length co8, .slice Ao9 t1582.length co9] (0, 0) _ rfl (by (with_reducible repeat (first | refine blk_drewN ?_ _ | refine blk_drew ?_ | refine blk_alloc ?_ _)); refine blk_put (cs := #[.bool (decide (0 < t1581.length)), .slice Ao8 t1581.length co8, .slice none 0 0]) ?_ 2 _ rfl; (with_reducible repeat (first | refine blk_drewN ?_ _ | refine blk_drew ?_ | refine blk_alloc ?_ _)); refine blk_put (cs := #[.bool (decide (0 < t1581.length)), .slice none 0 0, .slice none 0 0]) ?_ 1 _ rfl; (with_reducible repeat (first | refine blk_drewN ?_ _ | refine blk_drew ?_ | refine blk_alloc ?_ _)); refine blk_put (cs := #[.bool false, .slice none 0 0, .slice none 0 0]) ?_ 0 _ rfl; (with_reducible repeat (first | refine blk_drewN ?_ _ | refine blk_drew ?_ | refine blk_alloc ?_ _)); exact BK1580.out) Try.underlying32 rfl (by kernel_rfl)) rfl ?_
  try simp only [show decide ((t1581.length : Int) > 0) = decide (0 < t1581.length) from by simp]
  exact ⟨_, _, by first | rfl | (simp [errW_none, errW_some] <;> rfl) | (simp [*, errW_none, errW_some] <;> rfl), by (with_reducible repeat (first | apply Kd.R_alloc | apply Kd.R_drewN | apply Kd.R_drew)); exact Kd.R_mono (Kd.R_far (p := ⟨gb1580, 2, none⟩) (Kd.R_far (p := ⟨gb1580, 1, none⟩) (Kd.R_far (p := ⟨gb1580, 0, none⟩) (Kd.R_types HO1584.out BK1580.out (by decide)) (fun _ hk => hk.2) (.bool (decide (0 < t1581.length)))) (fun _ hk => hk.2) (.slice Ao8 t1581.length co8)) (fun _ hk => hk.2) (.slice Ao9 t1582.length co9)) (fun _ hk => hk.1), by (with_reducible repeat (first | apply Kd.R_alloc | apply Kd.R_drewN | apply Kd.R_drew)); exact Kd.R_mono (Kd.R_far (p := ⟨gb1580, 2, none⟩) (Kd.R_far (p := ⟨gb1580, 1, none⟩) (Kd.R_far (p := ⟨gb1580, 0, none⟩) (Kd.R_types HO1586.out BK1580.out (by decide)) (fun _ hk => hk.2) (.bool (decide (0 < t1581.length)))) (fun _ hk => hk.2) (.slice Ao8 t1581.length co8)) (fun _ hk => hk.2) (.slice Ao9 t1582.length co9)) (fun _ hk => hk.1), hbb⟩
 ·replace c5 := Bool.eq_false_iff.mpr c5
  subst c5
  replace H := iff_ H
  simp only [Option.some.injEq, Prod.mk.injEq] at H
  obtain ⟨rfl, rfl, rfl⟩ := H
  go_enter Try.func157, Try.ntmps157
  go_wp2_with (first | ((with_reducible refine gate_dst (N := 6) rfl ?_); (try (refine gate_guard (by rfl) ?_; dsimp only)); refine box_event ?hg (N := 6) ?hd (cs := #[.bool false, .slice none 0 0, .slice none 0 0]) (t := 32) ?hr ?_; (case hd => rfl); (case hg => rfl); (case hr => first | (go_simp; done) | (go_simp; rfl)); intro gb1580 hg w11 hbox hb; refine sw4 ⟨below_step (bb HB.out) hb⟩ ⟨hbox⟩ ⟨(by rw [hg]; exact (below_size (bb HB.out)) : w.heap.size ≤ gb1580)⟩ ⟨(by rw [hg]; exact (below_size (bb HB.out)) : w.heap.size ≤ gb1580)⟩ ?_; clear HB; intro HB BK1580 GW1580 GE1580; clear hb hbox hg) | ((with_reducible refine gate_callee (f := 161) rfl ?_); refine goesL_ (some 12) rfl rfl Try.func161 (by kernel_rfl) rfl #[.slice A1 l1.length c1, .slice A2 l2.length c2] rfl lx ?_; (with_reducible refine (gcd_Reduce.calls k _ _ l1 _ _ l2 t1581 t1582 _ ?side1 ?side2 ?side3 ?side4 A4.out).mono ?_); (case side1 => exact cs (Kd.C_below HR1.out HB.out)); (case side2 => exact HC1.out); (case side3 => exact cs (Kd.C_below HR2.out HB.out)); (case side4 => exact HC2.out); rintro e w12 ⟨v1583, v1585, rfl, ho0, ho1, hb⟩; refine ⟨_, rfl, ?_⟩; refine sw4 ⟨Kd.R_lower ho0 (below_size hbb)⟩ ⟨Kd.R_lower ho1 (below_size hbb)⟩ ⟨blk_below (bk BK1580.out) hb⟩ ⟨below_step hbb hb⟩ ?_; clear BK1580 HB; intro HO1584 HO1586 BK1580 HB; obtain ⟨Ao13, co13, eo13⟩ := Kd.R_slice HO1586.out; subst eo13; obtain ⟨Ao14, co14, eo14⟩ := Kd.R_slice HO1584.out; subst eo14; obtain ⟨hcz15_0, hcz15_1, hcz15_2, hfz15_0, hfz15_1, hfz15_2⟩ := cz3 BK1580))
  refine bodyPost_ret (results_cell_row rfl _ _ gb1580 32 #[.bool false, .slice Ao14 t1581.length co14, .slice Ao13 t1582.length co13] (0, 0) _ rfl (by (with_reducible repeat (first | refine blk_drewN ?_ _ | refine blk_drew ?_ | refine blk_alloc ?_ _)); refine blk_put (cs := #[.bool false, .slice Ao14 t1581.length co14, .slice none 0 0]) ?_ 2 _ rfl; (with_reducible repeat (first | refine blk_drewN ?_ _ | refine blk_drew ?_ | refine blk_alloc ?_ _)); refine blk_put (cs := #[.bool false, .slice none 0 0, .slice none 0 0]) ?_ 1 _ rfl; (with_reducible repeat (first | refine blk_drewN ?_ _ | refine blk_drew ?_ | refine blk_alloc ?_ _)); refine blk_put (cs := #[.bool false, .slice none 0 0, .slice none 0 0]) ?_ 0 _ rfl; (with_reducible repeat (first | refine blk_drewN ?_ _ | refine blk_drew ?_ | refine blk_alloc ?_ _)); exact BK1580.out) Try.underlying32 rfl (by kernel_rfl)) rfl ?_
  exact ⟨_, _, by first | rfl | (simp [errW_none, errW_some] <;> rfl) | (simp [*, errW_none, errW_some] <;> rfl), by (with_reducible repeat (first | apply Kd.R_alloc | apply Kd.R_drewN | apply Kd.R_drew)); exact Kd.R_mono (Kd.R_far (p := ⟨gb1580, 2, none⟩) (Kd.R_far (p := ⟨gb1580, 1, none⟩) (Kd.R_far (p := ⟨gb1580, 0, none⟩) (Kd.R_types HO1584.out BK1580.out (by decide)) (fun _ hk => hk.2) (.bool false)) (fun _ hk => hk.2) (.slice Ao14 t1581.length co14)) (fun _ hk => hk.2) (.slice Ao13 t1582.length co13)) (fun _ hk => hk.1), by (with_reducible repeat (first | apply Kd.R_alloc | apply Kd.R_drewN | apply Kd.R_drew)); exact Kd.R_mono (Kd.R_far (p := ⟨gb1580, 2, none⟩) (Kd.R_far (p := ⟨gb1580, 1, none⟩) (Kd.R_far (p := ⟨gb1580, 0, none⟩) (Kd.R_types HO1586.out BK1580.out (by decide)) (fun _ hk => hk.2) (.bool false)) (fun _ hk => hk.2) (.slice Ao14 t1581.length co14)) (fun _ hk => hk.2) (.slice Ao13 t1582.length co13)) (fun _ hk => hk.1), hbb⟩

def rat_Make.f (k : Nat) (a0 : Bool) (l1 : List Int) (l2 : List Int) : Option (Bool × List Int × List Int × Int) := (nat_Bits.f k l2).bind fun t1588 => (if t1588 = 0 then (some (false, ([] : List Int), ([] : List Int), 4)) else ((rat_lowest.f k a0 l1 l2).bind fun bt1589 => (some (bt1589.1, bt1589.2.1, bt1589.2.2, 0))))
set_option maxHeartbeats 8000000 in
set_option maxRecDepth 100000 in
theorem rat_Make.calls (k : Nat) (a0 : Bool) (A1 : Option Addr) (c1 : Nat) (l1 : List Int) (A2 : Option Addr) (c2 : Nat) (l2 : List Int) (r1 : Bool) (r2 : List Int) (r3 : List Int) (r4 : Int) (w : World) (hr1 : Kd.C (Kd.int .u64) w A1 l1.length l1) (hc1 : l1.length ≤ c1) (hr2 : Kd.C (Kd.int .u64) w A2 l2.length l2) (hc2 : l2.length ≤ c2) (h : rat_Make.f k a0 l1 l2 = some (r1, r2, r3, r4)) :
  Calls Try.prog 137 #[.bool a0, .slice A1 l1.length c1, .slice A2 l2.length c2] w fun e w' => ∃ v1_ v2_ : Value, e = .returned (.tuple #[.agg #[.bool r1, v1_, v2_], .int .i64 r4]) ∧ Kd.R (Kd.int .u64) 22 w' w.heap.size (fun k_ => some k_ ≠ (v2_ : Value).ownBlock) v1_ r2 ∧ Kd.R (Kd.int .u64) 22 w' w.heap.size (fun k_ => some k_ ≠ (v1_ : Value).ownBlock) v2_ r3 ∧ Below w.heap.size w w' := by
 have hu32 := Try.underlying32
 have HR1 := Aside0.mk hr1
 have HC1 := Aside0.mk hc1
 clear hr1 hc1
 have HR2 := Aside0.mk hr2
 have HC2 := Aside0.mk hc2
 clear hr2 hc2
 have HB := Aside0.mk (Below.refl w.heap.size w)
 have H := h
 clear h
 unfold rat_Make.f at H
 obtain ⟨t1588, A4, H⟩ := bnd H
 refine if c5 : t1588 = 0 then ?p75_ else ?n75_
 case' p75_ =>
  rw [if_pos c5] at H
  have c5b0 : (t1588 == 0) = true := beq_iff_eq.mpr c5
  have c5b1 : (t1588 != 0) = false := bne_eq_false_iff_eq.mpr c5
  clear c5
  simp only [Option.some.injEq, Prod.mk.injEq] at H
  obtain ⟨rfl, rfl, rfl, rfl⟩ := H
 case' n75_ =>
  rw [if_neg c5] at H
  have c5b0 : (t1588 == 0) = false := beq_eq_false_iff_ne.mpr c5
  have c5b1 : (t1588 != 0) = true := bne_iff_ne.mpr c5
  obtain ⟨⟨t1589, t1590, t1593⟩, A8, H⟩ := bnd H
  dsimp only at H
  simp only [Option.some.injEq, Prod.mk.injEq] at H
  obtain ⟨rfl, rfl, rfl, rfl⟩ := H
 case p75_ | n75_ =>
  go_enter Try.func137, Try.ntmps137
  go_wp2_with (first | ((with_reducible refine gate_dst (N := 6) rfl ?_); refine box_event ?hg (N := 6) ?hd (cs := #[.bool false, .slice none 0 0, .slice none 0 0]) (t := 32) ?hr ?_; (case hd => rfl); (case hg => rfl); (case hr => first | (go_simp; done) | (go_simp; rfl)); intro gb1587 hg w9 hbox hb; refine sw4 ⟨below_step (bb HB.out) hb⟩ ⟨hbox⟩ ⟨(by rw [hg]; exact (below_size (bb HB.out)) : w.heap.size ≤ gb1587)⟩ ⟨(by rw [hg]; exact (below_size (bb HB.out)) : w.heap.size ≤ gb1587)⟩ ?_; clear HB; intro HB BK1587 GW1587 GE1587; clear hb hbox hg) | ((with_reducible refine gate_callee (f := 114) rfl ?_); refine goesL_ (some 9) rfl rfl Try.func114 (by kernel_rfl) rfl #[.slice A2 l2.length c2] rfl lx ?_; (with_reducible refine (nat_Bits.calls k _ _ l2 t1588 _ ?side1 ?side2 A4.out).mono ?_); (case side1 => exact cs (Kd.C_below HR2.out HB.out)); (case side2 => exact HC2.out); rintro e w' ⟨rfl, ⟨nd, rfl⟩⟩; refine ⟨_, rfl, ?_⟩; (try (rw [drewN_self w9]; generalize hq_ : World.drewN w9 _ = w9; have n0_ : Aside0 (w9.heap[gb1587]? = some (.cells #[.bool false, .slice none 0 0, .slice none 0 0] 32 (0, 0))) := ⟨by rw [← hq_]; exact (bk BK1587.out)⟩; have n1_ : Aside0 (Below w.heap.size w w9) := ⟨by rw [← hq_]; exact hbb⟩; clear BK1587 HB hq_; have BK1587 := n0_; have HB := n1_; clear n0_ n1_)); obtain ⟨hcz7_0, hcz7_1, hcz7_2, hfz7_0, hfz7_1, hfz7_2⟩ := cz3 BK1587) | ((with_reducible refine gate_callee (f := 157) rfl ?_); refine goesL_ (some 15) rfl rfl Try.func157 (by kernel_rfl) rfl #[.bool a0, .slice A1 l1.length c1, .slice A2 l2.length c2] rfl lx ?_; (with_reducible refine (rat_lowest.calls k a0 _ _ l1 _ _ l2 t1589 t1590 t1593 _ ?side1 ?side2 ?side3 ?side4 A8.out).mono ?_); (case side1 => exact cs (Kd.C_below HR1.out HB.out)); (case side2 => exact HC1.out); (case side3 => exact cs (Kd.C_below HR2.out HB.out)); (case side4 => exact HC2.out); rintro e w10 ⟨v1591, v1594, rfl, ho0, ho1, hb⟩; refine ⟨_, rfl, ?_⟩; refine sw4 ⟨Kd.R_lower ho0 (below_size hbb)⟩ ⟨Kd.R_lower ho1 (below_size hbb)⟩ ⟨blk_below (bk BK1587.out) hb⟩ ⟨below_step hbb hb⟩ ?_; clear BK1587 HB; intro HO1592 HO1595 BK1587 HB; obtain ⟨hcz11_0, hcz11_1, hcz11_2, hfz11_0, hfz11_1, hfz11_2⟩ := cz3 BK1587; obtain ⟨Ao12, co12, eo12⟩ := Kd.R_slice HO1592.out; subst eo12; obtain ⟨Ao13, co13, eo13⟩ := Kd.R_slice HO1595.out; subst eo13))
  first | (refine bodyPost_ret (results_ct rfl _ _ gb1587 32 #[.bool t1589, .slice Ao12 t1590.length co12, .slice Ao13 t1593.length co13] (0, 0) _ rfl (by (with_reducible repeat (first | refine blk_drewN ?_ _ | refine blk_drew ?_ | refine blk_alloc ?_ _)); refine blk_put (cs := #[.bool t1589, .slice Ao12 t1590.length co12, .slice none 0 0]) ?_ 2 _ rfl; (with_reducible repeat (first | refine blk_drewN ?_ _ | refine blk_drew ?_ | refine blk_alloc ?_ _)); refine blk_put (cs := #[.bool t1589, .slice none 0 0, .slice none 0 0]) ?_ 1 _ rfl; (with_reducible repeat (first | refine blk_drewN ?_ _ | refine blk_drew ?_ | refine blk_alloc ?_ _)); refine blk_put (cs := #[.bool false, .slice none 0 0, .slice none 0 0]) ?_ 0 _ rfl; (with_reducible repeat (first | refine blk_drewN ?_ _ | refine blk_drew ?_ | refine blk_alloc ?_ _)); exact BK1587.out) Try.underlying32 rfl (by kernel_rfl)) rfl ?_) | (refine bodyPost_ret (results_ct rfl _ _ gb1587 32 #[.bool false, .slice none 0 0, .slice none 0 0] (0, 0) _ rfl (by (with_reducible repeat (first | refine blk_drewN ?_ _ | refine blk_drew ?_ | refine blk_alloc ?_ _)); refine blk_put (cs := #[.bool false, .slice none 0 0, .slice none 0 0]) ?_ 2 _ rfl; (with_reducible repeat (first | refine blk_drewN ?_ _ | refine blk_drew ?_ | refine blk_alloc ?_ _)); refine blk_put (cs := #[.bool false, .slice none 0 0, .slice none 0 0]) ?_ 1 _ rfl; (with_reducible repeat (first | refine blk_drewN ?_ _ | refine blk_drew ?_ | refine blk_alloc ?_ _)); refine blk_put (cs := #[.bool false, .slice none 0 0, .slice none 0 0]) ?_ 0 _ rfl; (with_reducible repeat (first | refine blk_drewN ?_ _ | refine blk_drew ?_ | refine blk_alloc ?_ _)); exact BK1587.out) Try.underlying32 rfl (by kernel_rfl)) rfl ?_)
  first | (exact ⟨_, _, by first | rfl | (simp [errW_none, errW_some] <;> rfl) | (simp [*, errW_none, errW_some] <;> rfl), by (with_reducible repeat (first | apply Kd.R_alloc | apply Kd.R_drewN | apply Kd.R_drew)); exact Kd.R_mono (Kd.R_far (p := ⟨gb1587, 2, none⟩) (Kd.R_far (p := ⟨gb1587, 1, none⟩) (Kd.R_far (p := ⟨gb1587, 0, none⟩) (Kd.R_types HO1592.out BK1587.out (by decide)) (fun _ hk => hk.2) (.bool t1589)) (fun _ hk => hk.2) (.slice Ao12 t1590.length co12)) (fun _ hk => hk.2) (.slice Ao13 t1593.length co13)) (fun _ hk => hk.1), by (with_reducible repeat (first | apply Kd.R_alloc | apply Kd.R_drewN | apply Kd.R_drew)); exact Kd.R_mono (Kd.R_far (p := ⟨gb1587, 2, none⟩) (Kd.R_far (p := ⟨gb1587, 1, none⟩) (Kd.R_far (p := ⟨gb1587, 0, none⟩) (Kd.R_types HO1595.out BK1587.out (by decide)) (fun _ hk => hk.2) (.bool t1589)) (fun _ hk => hk.2) (.slice Ao12 t1590.length co12)) (fun _ hk => hk.2) (.slice Ao13 t1593.length co13)) (fun _ hk => hk.1), hbb⟩) | (exact ⟨_, _, by first | rfl | (simp [errW_none, errW_some] <;> rfl) | (simp [*, errW_none, errW_some] <;> rfl), by first | exact Kd.R_nil _ _ _ _ _ | exact Kd.N_nil _ _ _ _ _ | exact Kd.V_nil _ _ _ _ _ | exact Kd.Q_nil _ _ _ _ _ | exact Kd.S_nil _ _ _ _ _, by first | exact Kd.R_nil _ _ _ _ _ | exact Kd.N_nil _ _ _ _ _ | exact Kd.V_nil _ _ _ _ _ | exact Kd.Q_nil _ _ _ _ _ | exact Kd.S_nil _ _ _ _ _, hbb⟩)

end Go.Proofs.Ytbpggonjcnakgaa.P
