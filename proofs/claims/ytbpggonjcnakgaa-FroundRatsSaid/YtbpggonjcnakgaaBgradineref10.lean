/- Functions of one package as Lean functions, and walks: written by a program for this claim. -/
import Derived.Test.YtbpggonjcnakgaaFbase
import Derived.Test.YtbpggonjcnakgaaBgradineref09
import Derived.Test.YtbpggonjcnakgaaBgradineref02
import Derived.Test.YtbpggonjcnakgaaBgradineref07
import Derived.Test.YtbpggonjcnakgaaBgradineref04
namespace Go.Proofs.Ytbpggonjcnakgaa.P
open Go.RowKit Go.Proofs.YtbpggonjcnakgaaW.PrintWords Go.Proofs.YtbpggonjcnakgaaW.PrintLast Go.Proofs.YtbpggonjcnakgaaW.PrintMore
attribute [local go_sem] max2_int min2_int max_two min_two max_three min_three max_four min_four   -- for this text's walks alone
set_option linter.unusedVariables false
set_option linter.unusedSimpArgs false

def gradineref10_ToRat.f (k : Nat) (a0 : Int) : Option (Bool × List Int × List Int) := (gradineref09_Parts.f a0).bind fun bt450 => ((gradineref09_Neg.f a0).bind fun t452 => ((gradineref02_Shl.f k (([bt450.1] : List Int)) bt450.2).bind fun t456 => ((gradineref02_Shl.f k (([1] : List Int)) (wrap64 (-bt450.2))).bind fun t462 => ((gradineref07_Make.f k t452 t456 t462).bind fun bt465 => (some (bt465.1, bt465.2.1, bt465.2.2))))))
set_option maxHeartbeats 8000000 in
set_option maxRecDepth 100000 in
theorem gradineref10_ToRat.calls (k : Nat) (a0 : Int) (r1 : Bool) (r2 : List Int) (r3 : List Int) (w : World) (h : gradineref10_ToRat.f k a0 = some (r1, r2, r3)) :
  Calls Try.prog 30 #[.int .u64 a0] w fun e w' => ∃ v1_ v2_ : Value, e = .returned (.agg #[.bool r1, v1_, v2_]) ∧ Kd.R (Kd.int .u64) 22 w' w.heap.size (fun k_ => some k_ ≠ (v2_ : Value).ownBlock) v1_ r2 ∧ Kd.R (Kd.int .u64) 22 w' w.heap.size (fun k_ => some k_ ≠ (v1_ : Value).ownBlock) v2_ r3 ∧ Below w.heap.size w w' := by
 have hu32 := Try.underlying32
 have HB := Aside0.mk (Below.refl w.heap.size w)
 have H := h
 clear h
 unfold gradineref10_ToRat.f at H
 obtain ⟨⟨t450, t451⟩, A2, H⟩ := bnd H
 dsimp only at H
 obtain ⟨t452, A3, H⟩ := bnd H
 obtain ⟨y453, hy453⟩ : ∃ y_ : List Int, y_ = (([t450] : List Int)) := ⟨_, rfl⟩
 rw [← hy453] at H
 have Ny453 := Aside0.mk hy453
 clear hy453
 obtain ⟨t456, A4, H⟩ := bnd H
 obtain ⟨y459, hy459⟩ : ∃ y_ : List Int, y_ = (([1] : List Int)) := ⟨_, rfl⟩
 rw [← hy459] at H
 have Ny459 := Aside0.mk hy459
 clear hy459
 obtain ⟨t462, A5, H⟩ := bnd H
 obtain ⟨⟨t465, t466, t469⟩, A6, H⟩ := bnd H
 dsimp only at H
 simp only [Option.some.injEq, Prod.mk.injEq] at H
 obtain ⟨rfl, rfl, rfl⟩ := H
 go_enter Try.func30, Try.ntmps30
 go_wp2_with (first | ((with_reducible refine gate_dst (N := 2) rfl ?_); refine box_event ?hg (N := 2) ?hd (cs := #[.bool false, .slice none 0 0, .slice none 0 0]) (t := 32) ?hr ?_; (case hd => rfl); (case hg => rfl); (case hr => first | (go_simp; done) | (go_simp; rfl)); intro gb449 hg w7 hbox hb; refine sw4 ⟨below_step (bb HB.out) hb⟩ ⟨hbox⟩ ⟨(by rw [hg]; exact (below_size (bb HB.out)) : w.heap.size ≤ gb449)⟩ ⟨(by rw [hg]; exact (below_size (bb HB.out)) : w.heap.size ≤ gb449)⟩ ?_; clear HB; intro HB BK449 GW449 GE449; clear hb hbox hg) | ((with_reducible refine gate_callee (f := 42) rfl ?_); refine goesL_ (some 7) rfl rfl Try.func42 (by kernel_rfl) rfl #[.int .u64 a0] rfl lx ?_; (with_reducible refine (gradineref09_Parts.calls a0 t450 t451 _ A2.out).mono ?_); rintro e w' ⟨rfl, ⟨nd, rfl⟩⟩; refine ⟨_, rfl, ?_⟩; (try (rw [drewN_self w7]; generalize hq_ : World.drewN w7 _ = w7; have n0_ : Aside0 (w7.heap[gb449]? = some (.cells #[.bool false, .slice none 0 0, .slice none 0 0] 32 (0, 0))) := ⟨by rw [← hq_]; exact (bk BK449.out)⟩; have n1_ : Aside0 (Below w.heap.size w w7) := ⟨by rw [← hq_]; exact hbb⟩; clear BK449 HB hq_; have BK449 := n0_; have HB := n1_; clear n0_ n1_))) | ((with_reducible refine gate_callee (f := 27) rfl ?_); refine goesL_ (some 11) rfl rfl Try.func27 (by kernel_rfl) rfl #[.int .u64 a0] rfl lx ?_; (with_reducible refine (gradineref09_Neg.calls a0 t452 _ A3.out).mono ?_); rintro e w' ⟨rfl, ⟨nd, rfl⟩⟩; refine ⟨_, rfl, ?_⟩; (try (rw [drewN_self w7]; generalize hq_ : World.drewN w7 _ = w7; have n0_ : Aside0 (w7.heap[gb449]? = some (.cells #[.bool false, .slice none 0 0, .slice none 0 0] 32 (0, 0))) := ⟨by rw [← hq_]; exact (bk BK449.out)⟩; have n1_ : Aside0 (Below w.heap.size w w7) := ⟨by rw [← hq_]; exact hbb⟩; clear BK449 HB hq_; have BK449 := n0_; have HB := n1_; clear n0_ n1_))) | ((with_reducible refine gate_dst (N := 13) rfl ?_); refine Kd.R_lit (Kd.int .u64) _ 22 ?hg (N := 13) ?hd (xs := ([t450] : List Int)) (inner := [.int .u64 t450]) (ok := fun _ => True) (okp := fun _ => True) ?hr ?hp (fun _ hk => hk) trivial (Below.refl _ _) (Nat.le_refl _) (by simp) ?_; (case hd => rfl); (case hg => rfl); (case hr => first | (go_simp; done) | (go_simp; rfl)); (case hp => exact (Reps.one (show Kd.M (Kd.int .u64) _ _ _ t450 [.int .u64 t450] from rfl) (Reps.none _ _))); intro v454 w8 ho9 hb hg_ hnew_; clear hg_ hnew_; (first | rw [← Ny453.out] at ho9 | (simp only [Int.reduceToNat] at ho9; rw [← Ny453.out] at ho9)); refine sw3 ⟨Kd.R_lower ho9 (below_size hbb)⟩ ⟨blk_below (bk BK449.out) hb⟩ ⟨below_step hbb hb⟩ ?_; clear BK449 HB; intro HO455 BK449 HB; clear hb ho9; obtain ⟨Ao10, co10, eo10⟩ := Kd.R_slice HO455.out; subst eo10) | ((with_reducible refine gate_callee (f := 90) rfl ?_); refine goesL_ (some 15) rfl rfl Try.func90 (by kernel_rfl) rfl #[.slice Ao10 y453.length co10, .int .i64 t451] rfl lx ?_; (with_reducible refine (gradineref02_Shl.calls k _ _ y453 t451 t456 _ ?side1 ?side2 A4.out).mono ?_); (case side1 => exact cs (Kd.R_reads' HO455.out).2.2); (case side2 => exact (Kd.R_reads' HO455.out).2.1); rintro e w11 ⟨v457, rfl, ho0, hb⟩; refine ⟨_, rfl, ?_⟩; refine sw4 ⟨Kd.R_elder' (st HO455.out) (Kd.R_base ho0) hb⟩ ⟨Kd.R_lower (Kd.R_new' ho0 (Kd.R_lt (st HO455.out))) (below_size hbb)⟩ ⟨blk_below (bk BK449.out) hb⟩ ⟨below_step hbb hb⟩ ?_; clear HO455 BK449 HB; intro HO455 HO458 BK449 HB) | ((with_reducible refine gate_dst (N := 16) rfl ?_); refine Kd.R_lit (Kd.int .u64) _ 22 ?hg (N := 16) ?hd (xs := ([1] : List Int)) (inner := [.int .u64 1]) (ok := fun _ => True) (okp := fun _ => True) ?hr ?hp (fun _ hk => hk) trivial (Below.refl _ _) (Nat.le_refl _) (by simp) ?_; (case hd => rfl); (case hg => rfl); (case hr => first | (go_simp; done) | (go_simp; rfl)); (case hp => exact (Reps.one (show Kd.M (Kd.int .u64) _ _ _ 1 [.int .u64 1] from rfl) (Reps.none _ _))); intro v460 w12 ho13 hb hg_ hnew_; clear hg_ hnew_; (first | rw [← Ny459.out] at ho13 | (simp only [Int.reduceToNat] at ho13; rw [← Ny459.out] at ho13)); refine sw5 ⟨Kd.R_elder' (st HO455.out) (Kd.R_base ho13) hb⟩ ⟨Kd.R_elder' (st HO458.out) (Kd.R_base ho13) hb⟩ ⟨Kd.R_lower (Kd.R_new' (Kd.R_new' ho13 (Kd.R_lt (st HO455.out))) (Kd.R_lt (st HO458.out))) (below_size hbb)⟩ ⟨blk_below (bk BK449.out) hb⟩ ⟨below_step hbb hb⟩ ?_; clear HO455 HO458 BK449 HB; intro HO455 HO458 HO461 BK449 HB; clear hb ho13; obtain ⟨Ao14, co14, eo14⟩ := Kd.R_slice HO461.out; subst eo14) | ((with_reducible refine gate_callee (f := 90) rfl ?_); refine goesL_ (some 19) rfl rfl Try.func90 (by kernel_rfl) rfl #[.slice Ao14 y459.length co14, .int .i64 (wrap64 (-t451))] rfl lx ?_; (with_reducible refine (gradineref02_Shl.calls k _ _ y459 (wrap64 (-t451)) t462 _ ?side1 ?side2 A5.out).mono ?_); (case side1 => exact cs (Kd.R_reads' HO461.out).2.2); (case side2 => exact (Kd.R_reads' HO461.out).2.1); rintro e w15 ⟨v463, rfl, ho0, hb⟩; refine ⟨_, rfl, ?_⟩; refine sw6 ⟨Kd.R_elder' (st HO455.out) (Kd.R_base ho0) hb⟩ ⟨Kd.R_elder' (st HO458.out) (Kd.R_base ho0) hb⟩ ⟨Kd.R_elder' (st HO461.out) (Kd.R_base ho0) hb⟩ ⟨Kd.R_lower (Kd.R_new' (Kd.R_new' (Kd.R_new' ho0 (Kd.R_lt (st HO455.out))) (Kd.R_lt (st HO458.out))) (Kd.R_lt (st HO461.out))) (below_size hbb)⟩ ⟨blk_below (bk BK449.out) hb⟩ ⟨below_step hbb hb⟩ ?_; clear HO455 HO458 HO461 BK449 HB; intro HO455 HO458 HO461 HO464 BK449 HB; obtain ⟨Ao16, co16, eo16⟩ := Kd.R_slice HO458.out; subst eo16; obtain ⟨Ao17, co17, eo17⟩ := Kd.R_slice HO464.out; subst eo17) | ((with_reducible refine gate_callee (f := 81) rfl ?_); refine goesL_ (some 20) rfl rfl Try.func81 (by kernel_rfl) rfl #[.bool t452, .slice Ao16 t456.length co16, .slice Ao17 t462.length co17] rfl lx ?_; (with_reducible refine (gradineref07_Make.calls k t452 _ _ t456 _ _ t462 t465 t466 t469 _ ?side1 ?side2 ?side3 ?side4 A6.out).mono ?_); (case side1 => exact cs (Kd.R_reads' HO458.out).2.2); (case side2 => exact (Kd.R_reads' HO458.out).2.1); (case side3 => exact cs (Kd.R_reads' HO464.out).2.2); (case side4 => exact (Kd.R_reads' HO464.out).2.1); rintro e w18 ⟨v467, v470, rfl, ho0, ho1, hb⟩; refine ⟨_, rfl, ?_⟩; refine sw8 ⟨Kd.R_mono (Kd.R_told (Kd.R_told (Kd.R_old (st HO455.out) hb) (Kd.R_base ho0)) (Kd.R_base ho1)) (fun _ h_ => h_.1)⟩ ⟨Kd.R_mono (Kd.R_told (Kd.R_told (Kd.R_old (st HO458.out) hb) (Kd.R_base ho0)) (Kd.R_base ho1)) (fun _ h_ => h_.1)⟩ ⟨Kd.R_mono (Kd.R_told (Kd.R_told (Kd.R_old (st HO461.out) hb) (Kd.R_base ho0)) (Kd.R_base ho1)) (fun _ h_ => h_.1)⟩ ⟨Kd.R_mono (Kd.R_told (Kd.R_told (Kd.R_old (st HO464.out) hb) (Kd.R_base ho0)) (Kd.R_base ho1)) (fun _ h_ => h_.1)⟩ ⟨Kd.R_lower (Kd.R_new' (Kd.R_new' (Kd.R_new' (Kd.R_new' ho0 (Kd.R_lt (st HO455.out))) (Kd.R_lt (st HO458.out))) (Kd.R_lt (st HO461.out))) (Kd.R_lt (st HO464.out))) (below_size hbb)⟩ ⟨Kd.R_lower (Kd.R_new' (Kd.R_new' (Kd.R_new' (Kd.R_new' ho1 (Kd.R_lt (st HO455.out))) (Kd.R_lt (st HO458.out))) (Kd.R_lt (st HO461.out))) (Kd.R_lt (st HO464.out))) (below_size hbb)⟩ ⟨blk_below (bk BK449.out) hb⟩ ⟨below_step hbb hb⟩ ?_; clear HO455 HO458 HO461 HO464 BK449 HB; intro HO455 HO458 HO461 HO464 HO468 HO471 BK449 HB; obtain ⟨hcz19_0, hcz19_1, hcz19_2, hfz19_0, hfz19_1, hfz19_2⟩ := cz3 BK449; obtain ⟨Ao20, co20, eo20⟩ := Kd.R_slice HO468.out; subst eo20; obtain ⟨Ao21, co21, eo21⟩ := Kd.R_slice HO471.out; subst eo21))
 refine bodyPost_ret (results_cell_row rfl _ _ gb449 32 #[.bool t465, .slice Ao20 t466.length co20, .slice Ao21 t469.length co21] (0, 0) _ rfl (by (with_reducible repeat (first | refine blk_drewN ?_ _ | refine blk_drew ?_ | refine blk_alloc ?_ _)); refine blk_put (cs := #[.bool t465, .slice Ao20 t466.length co20, .slice none 0 0]) ?_ 2 _ rfl; (with_reducible repeat (first | refine blk_drewN ?_ _ | refine blk_drew ?_ | refine blk_alloc ?_ _)); refine blk_put (cs := #[.bool t465, .slice none 0 0, .slice none 0 0]) ?_ 1 _ rfl; (with_reducible repeat (first | refine blk_drewN ?_ _ | refine blk_drew ?_ | refine blk_alloc ?_ _)); refine blk_put (cs := #[.bool false, .slice none 0 0, .slice none 0 0]) ?_ 0 _ rfl; (with_reducible repeat (first | refine blk_drewN ?_ _ | refine blk_drew ?_ | refine blk_alloc ?_ _)); exact BK449.out) Try.underlying32 rfl (by kernel_rfl)) rfl ?_
 exact ⟨_, _, by first | rfl | (simp [errW_none, errW_some] <;> rfl) | (simp [*, errW_none, errW_some] <;> rfl), by (with_reducible repeat (first | apply Kd.R_alloc | apply Kd.R_drewN | apply Kd.R_drew)); exact Kd.R_mono (Kd.R_far (p := ⟨gb449, 2, none⟩) (Kd.R_far (p := ⟨gb449, 1, none⟩) (Kd.R_far (p := ⟨gb449, 0, none⟩) (Kd.R_types HO468.out BK449.out (by decide)) (fun _ hk => hk.2) (.bool t465)) (fun _ hk => hk.2) (.slice Ao20 t466.length co20)) (fun _ hk => hk.2) (.slice Ao21 t469.length co21)) (fun _ hk => hk.1.1.1.1.1), by (with_reducible repeat (first | apply Kd.R_alloc | apply Kd.R_drewN | apply Kd.R_drew)); exact Kd.R_mono (Kd.R_far (p := ⟨gb449, 2, none⟩) (Kd.R_far (p := ⟨gb449, 1, none⟩) (Kd.R_far (p := ⟨gb449, 0, none⟩) (Kd.R_types HO471.out BK449.out (by decide)) (fun _ hk => hk.2) (.bool t465)) (fun _ hk => hk.2) (.slice Ao20 t466.length co20)) (fun _ hk => hk.2) (.slice Ao21 t469.length co21)) (fun _ hk => hk.1.1.1.1.1), hbb⟩

mutual
def gradineref10_Of.j0 : Nat → Bool → Int → List Int → Option (Int)
 | 0, _, _, _ => none
 | k + 1, x0, x8, x9 => if (x9.length : Int) > 0 then (if 0 < (x9.length : Int) then (gradineref10_Of.j1 k x0 x8 (rd x9 0)) else (none)) else (gradineref10_Of.j1 k x0 x8 0)
def gradineref10_Of.j1 : Nat → Bool → Int → Int → Option (Int)
 | 0, _, _, _ => none
 | k + 1, x0, x8, x12 => (gradineref09_Make.f k x0 x12 x8).bind fun bt596 => (if bt596.2 = true then (some bt596.1) else ((gradineref09_Inf.f x0).bind fun t598 => (some t598)))
end
def gradineref10_Of.f (k : Nat) (a0 : Bool) (l1 : List Int) (a2 : Int) : Option (Int) := (gradineref02_Trim.f k l1).bind fun t552 => (if (t552.length : Int) = 0 then ((gradineref09_Signed.f a0 0).bind fun t555 => (some t555)) else ((gradineref02_Bits.f k t552).bind fun t556 => (if a2 > 2000 then ((gradineref09_Inf.f a0).bind fun t557 => (some t557)) else (if a2 < (wrap64 ((-1200) - t556)) then ((gradineref09_Signed.f a0 0).bind fun t558 => (some t558)) else (if (mx (wrap64 ((wrap64 (t556 + a2)) - 53)) (-1074)) > 971 then ((gradineref09_Inf.f a0).bind fun t559 => (some t559)) else ((gradineref02_Shl.f k t552 (wrap64 (a2 - (mx (wrap64 ((wrap64 (t556 + a2)) - 53)) (-1074))))).bind fun t560 => (if a2 < (mx (wrap64 ((wrap64 (t556 + a2)) - 53)) (-1074)) then ((gradineref02_Shr.f k t552 (wrap64 ((mx (wrap64 ((wrap64 (t556 + a2)) - 53)) (-1074)) - a2))).bind fun t563 => ((gradineref02_Shl.f k t563 (wrap64 ((mx (wrap64 ((wrap64 (t556 + a2)) - 53)) (-1074)) - a2))).bind fun t566 => ((gradineref02_Sub.f k t552 t566).bind fun t569 => ((gradineref02_Shl.f k t569 1).bind fun t572 => ((gradineref02_Shl.f k (([1] : List Int)) (wrap64 ((mx (wrap64 ((wrap64 (t556 + a2)) - 53)) (-1074)) - a2))).bind fun t578 => ((gradineref02_Cmp.f k t572 t578).bind fun t581 => (if t581 > 0 then ((gradineref02_Add.f k t563 (([1] : List Int))).bind fun t585 => (gradineref10_Of.j0 k a0 (mx (wrap64 ((wrap64 (t556 + a2)) - 53)) (-1074)) t585)) else (if t581 = 0 then ((gradineref02_Bit.f t563 0).bind fun t588 => (if t588 = true then ((gradineref02_Add.f k t563 (([1] : List Int))).bind fun t592 => (gradineref10_Of.j0 k a0 (mx (wrap64 ((wrap64 (t556 + a2)) - 53)) (-1074)) t592)) else (gradineref10_Of.j0 k a0 (mx (wrap64 ((wrap64 (t556 + a2)) - 53)) (-1074)) t563))) else (gradineref10_Of.j0 k a0 (mx (wrap64 ((wrap64 (t556 + a2)) - 53)) (-1074)) t563))))))))) else (gradineref10_Of.j0 k a0 (mx (wrap64 ((wrap64 (t556 + a2)) - 53)) (-1074)) t560))))))))
set_option maxHeartbeats 8000000 in
set_option maxRecDepth 100000 in
theorem gradineref10_Of.calls (k : Nat) (a0 : Bool) (A1 : Option Addr) (c1 : Nat) (l1 : List Int) (a2 : Int) (r : Int) (w : World) (hr1 : Kd.C (Kd.int .u64) w A1 l1.length l1) (hc1 : l1.length ≤ c1) (h : gradineref10_Of.f k a0 l1 a2 = some r) :
  Calls Try.prog 94 #[.bool a0, .slice A1 l1.length c1, .int .i64 a2] w fun e w' => e = .returned (.int .u64 r) ∧ Below w.heap.size w w' := by
 have HR1 := Aside0.mk hr1
 have HC1 := Aside0.mk hc1
 clear hr1 hc1
 have HB := Aside0.mk (Below.refl w.heap.size w)
 have H := h
 clear h
 unfold gradineref10_Of.f at H
 obtain ⟨t552, A4, H⟩ := bnd H
 refine if c5 : (t552.length : Int) = 0 then ?p18_ else ?n18_
 case' p18_ =>
  rw [if_pos c5] at H
  have c5b0 : ((t552.length : Int) == 0) = true := beq_iff_eq.mpr c5
  have c5b1 : ((t552.length : Int) != 0) = false := bne_eq_false_iff_eq.mpr c5
  clear c5
  obtain ⟨t555, A6, H⟩ := bnd H
  obtain rfl := Option.some.inj H
 case' n18_ =>
  rw [if_neg c5] at H
  have c5b0 : ((t552.length : Int) == 0) = false := beq_eq_false_iff_ne.mpr c5
  have c5b1 : ((t552.length : Int) != 0) = true := bne_iff_ne.mpr c5
  have c5b2 : ¬ (t552 = []) := fun h_ => c5 (by rw [h_]; rfl)
  obtain ⟨t556, A9, H⟩ := bnd H
  refine if c10 : a2 > 2000 then ?p19_ else ?n19_
  case' p19_ =>
   rw [if_pos c10] at H
   have c10b0 : decide (2000 < a2) = true := decide_eq_true c10
   clear c10
   obtain ⟨t557, A11, H⟩ := bnd H
   obtain rfl := Option.some.inj H
  case' n19_ =>
   rw [if_neg c10] at H
   have c10b0 : decide (2000 < a2) = false := decide_eq_false c10
   clear c10
   refine if c14 : a2 < (wrap64 ((-1200) - t556)) then ?p20_ else ?n20_
   case' p20_ =>
    rw [if_pos c14] at H
    have c14b0 : decide (a2 < (wrap64 ((-1200) - t556))) = true := decide_eq_true c14
    clear c14
    obtain ⟨t558, A15, H⟩ := bnd H
    obtain rfl := Option.some.inj H
   case' n20_ =>
    rw [if_neg c14] at H
    have c14b0 : decide (a2 < (wrap64 ((-1200) - t556))) = false := decide_eq_false c14
    clear c14
    obtain ⟨ji18, hji18⟩ : ∃ j_ : Int, (mx (wrap64 ((wrap64 (t556 + a2)) - 53)) (-1074)) = j_ := ⟨_, rfl⟩
    rw [hji18] at H
    (try rw [hji18] at A4)
    (try rw [hji18] at A9)
    have hji18_ : (if (wrap64 ((wrap64 (t556 + a2)) - 53)) < (-1074) then (-1074) else (wrap64 ((wrap64 (t556 + a2)) - 53))) = ji18 := hji18
    refine if c19 : (ji18) > 971 then ?p21_ else ?n21_
    case' p21_ =>
     rw [if_pos c19] at H
     have c19b0 : decide (971 < (ji18)) = true := decide_eq_true c19
     clear c19
     obtain ⟨t559, A20, H⟩ := bnd H
     obtain rfl := Option.some.inj H
    case n21_ =>
     rw [if_neg c19] at H
     have c19b0 : decide (971 < (ji18)) = false := decide_eq_false c19
     clear c19
     obtain ⟨t560, A23, H⟩ := bnd H
     have HC24 := Aside0.mk H
     clear H
     go_enter Try.func94, Try.ntmps94
     go_upto_if 50 with (first | ((with_reducible refine gate_callee (f := 140) rfl ?_); refine goesL_ (some 16) rfl rfl Try.func140 (by kernel_rfl) rfl #[.slice A1 l1.length c1] rfl lx ?_; (with_reducible refine (gradineref02_Trim.calls k _ _ l1 t552 _ ?side1 ?side2 A4.out).mono ?_); (case side1 => exact cs HR1.out); (case side2 => exact HC1.out); rintro e w25 ⟨v553, rfl, ho0, hb⟩; refine ⟨_, rfl, ?_⟩; refine sw2 ⟨Kd.R_lower ho0 (below_size (bb HB.out))⟩ ⟨below_step (bb HB.out) hb⟩ ?_; clear HB; intro HO554 HB; obtain ⟨Ao26, co26, eo26⟩ := Kd.R_slice HO554.out; subst eo26) | ((with_reducible refine gate_callee (f := 101) rfl ?_); refine goesL_ (some 23) rfl rfl Try.func101 (by kernel_rfl) rfl #[.slice Ao26 t552.length co26] rfl lx ?_; (with_reducible refine (gradineref02_Bits.calls k _ _ t552 t556 _ ?side1 ?side2 A9.out).mono ?_); (case side1 => exact cs (Kd.R_reads' HO554.out).2.2); (case side2 => exact (Kd.R_reads' HO554.out).2.1); rintro e w' ⟨rfl, ⟨nd, rfl⟩⟩; refine ⟨_, rfl, ?_⟩) | ((with_reducible refine gate_callee (f := 90) rfl ?_); refine goesL_ (some 47) rfl rfl Try.func90 (by kernel_rfl) rfl #[.slice Ao26 t552.length co26, .int .i64 (wrap64 (a2 - (ji18)))] rfl (by (try simp only [List.map_toArray, List.map_cons, List.map_nil]); first | done | (simp only [hji18]; rfl) | rfl | (simp only [List.length_drop, List.length_take]; rfl) | (simp only [*]; done)) ?_; (with_reducible refine (gradineref02_Shl.calls k _ _ t552 (wrap64 (a2 - (ji18))) t560 _ ?side1 ?side2 A23.out).mono ?_); (case side1 => exact cs (Kd.R_reads' HO554.out).2.2); (case side2 => exact (Kd.R_reads' HO554.out).2.1); rintro e w27 ⟨v561, rfl, ho0, hb⟩; refine ⟨_, rfl, ?_⟩; refine sw3 ⟨Kd.R_elder' (st HO554.out) (Kd.R_base ho0) hb⟩ ⟨Kd.R_lower (Kd.R_new' ho0 (Kd.R_lt (st HO554.out))) (below_size (bb HB.out))⟩ ⟨below_step (bb HB.out) hb⟩ ?_; clear HO554 HB; intro HO554 HO562 HB))
     (try simp only [Act.put, List.setIfInBounds_toArray, List.set_cons_zero, List.set_cons_succ])
     go_cut [9] (fun v9 wc => ∃ (kq : Nat) (x9_23 : List Int), Aside0 (gradineref10_Of.j0 kq a0 ji18 x9_23 = some r) ∧ Aside0 (kq ≤ k) ∧ Aside0 (Kd.R (Kd.int .u64) 22 wc w.heap.size (fun _ => True) v9 x9_23) ∧ Aside0 (Below w.heap.size w wc))
     case first =>
      have H := HC24.out
      clear HC24
      by_cases c28 : a2 < (ji18)
      ·rw [if_pos c28] at H
       have c28b0 : decide (a2 < (ji18)) = true := decide_eq_true c28
       clear c28
       (first | rw [c28b0] | (simp only [i64_w, i32_w]; rw [c28b0]) | skip)
       obtain ⟨t563, A29, H⟩ := bnd H
       obtain ⟨t566, A30, H⟩ := bnd H
       obtain ⟨t569, A31, H⟩ := bnd H
       obtain ⟨t572, A32, H⟩ := bnd H
       obtain ⟨y575, hy575⟩ : ∃ y_ : List Int, y_ = (([1] : List Int)) := ⟨_, rfl⟩
       replace H : ((gradineref02_Shl.f k y575 (wrap64 ((ji18) - a2))).bind fun t578 => ((gradineref02_Cmp.f k t572 t578).bind fun t581 => (if t581 > 0 then ((gradineref02_Add.f k t563 (([1] : List Int))).bind fun t585 => (gradineref10_Of.j0 k a0 ji18 t585)) else (if t581 = 0 then ((gradineref02_Bit.f t563 0).bind fun t588 => (if t588 = true then ((gradineref02_Add.f k t563 (([1] : List Int))).bind fun t592 => (gradineref10_Of.j0 k a0 ji18 t592)) else (gradineref10_Of.j0 k a0 ji18 t563))) else (gradineref10_Of.j0 k a0 ji18 t563))))) = some r := by first | (rw [hy575]; with_reducible exact H) | (have H2_ := (Option.bind_some _ _).symm.trans H; rw [hy575]; with_reducible exact H2_) | (have H2_ := (Option.bind_some _ _).symm.trans H; with_reducible exact H2_) | with_reducible exact H | (rw [hy575]; exact H) | exact H
       have Ny575 := Aside0.mk hy575
       clear hy575
       replace H := Option.bind_eq_some_iff.mp H
       obtain ⟨t578, A330, H⟩ := H
       replace H : ((gradineref02_Cmp.f k t572 t578).bind fun t581 => (if t581 > 0 then ((gradineref02_Add.f k t563 (([1] : List Int))).bind fun t585 => (gradineref10_Of.j0 k a0 ji18 t585)) else (if t581 = 0 then ((gradineref02_Bit.f t563 0).bind fun t588 => (if t588 = true then ((gradineref02_Add.f k t563 (([1] : List Int))).bind fun t592 => (gradineref10_Of.j0 k a0 ji18 t592)) else (gradineref10_Of.j0 k a0 ji18 t563))) else (gradineref10_Of.j0 k a0 ji18 t563)))) = some r := H
       have A33 := Aside0.mk A330
       clear A330
       replace H := Option.bind_eq_some_iff.mp H
       obtain ⟨t581, A340, H⟩ := H
       replace H : (if t581 > 0 then ((gradineref02_Add.f k t563 (([1] : List Int))).bind fun t585 => (gradineref10_Of.j0 k a0 ji18 t585)) else (if t581 = 0 then ((gradineref02_Bit.f t563 0).bind fun t588 => (if t588 = true then ((gradineref02_Add.f k t563 (([1] : List Int))).bind fun t592 => (gradineref10_Of.j0 k a0 ji18 t592)) else (gradineref10_Of.j0 k a0 ji18 t563))) else (gradineref10_Of.j0 k a0 ji18 t563))) = some r := H
       have A34 := Aside0.mk A340
       clear A340
       by_cases c35 : t581 > 0
       ·rw [if_pos c35] at H
        have c35b0 : decide (0 < t581) = true := decide_eq_true c35
        clear c35
        obtain ⟨y582, hy582⟩ : ∃ y_ : List Int, y_ = (([1] : List Int)) := ⟨_, rfl⟩
        replace H : ((gradineref02_Add.f k t563 y582).bind fun t585 => (gradineref10_Of.j0 k a0 ji18 t585)) = some r := by first | (rw [hy582]; with_reducible exact H) | (have H2_ := (Option.bind_some _ _).symm.trans H; rw [hy582]; with_reducible exact H2_) | (have H2_ := (Option.bind_some _ _).symm.trans H; with_reducible exact H2_) | with_reducible exact H | (rw [hy582]; exact H) | exact H
        have Ny582 := Aside0.mk hy582
        clear hy582
        obtain ⟨t585, A36, H⟩ := bnd H
        have H' := Aside0.mk H
        clear H
        go_wp2_with (first | ((with_reducible refine gate_callee (f := 100) rfl ?_); refine goesL_ (some 55) rfl rfl Try.func100 (by kernel_rfl) rfl #[.slice Ao26 t552.length co26, .int .i64 (wrap64 ((ji18) - a2))] rfl (by (try simp only [List.map_toArray, List.map_cons, List.map_nil]); first | done | (simp only [hji18]; rfl) | rfl | (simp only [List.length_drop, List.length_take]; rfl) | (simp only [*]; done)) ?_; (with_reducible refine (gradineref02_Shr.calls k _ _ t552 (wrap64 ((ji18) - a2)) t563 _ ?side1 ?side2 A29.out).mono ?_); (case side1 => exact cs (Kd.R_reads' HO554.out).2.2); (case side2 => exact (Kd.R_reads' HO554.out).2.1); rintro e w37 ⟨v564, rfl, ho0, hb⟩; refine ⟨_, rfl, ?_⟩; refine sw4 ⟨Kd.R_elder' (st HO554.out) (Kd.R_base ho0) hb⟩ ⟨Kd.R_elder' (st HO562.out) (Kd.R_base ho0) hb⟩ ⟨Kd.R_lower (Kd.R_new' (Kd.R_new' ho0 (Kd.R_lt (st HO554.out))) (Kd.R_lt (st HO562.out))) (below_size (bb HB.out))⟩ ⟨below_step (bb HB.out) hb⟩ ?_; clear HO554 HO562 HB; intro HO554 HO562 HO565 HB; obtain ⟨Ao38, co38, eo38⟩ := Kd.R_slice HO565.out; subst eo38) | ((with_reducible refine gate_callee (f := 90) rfl ?_); refine goesL_ (some 61) rfl rfl Try.func90 (by kernel_rfl) rfl #[.slice Ao38 t563.length co38, .int .i64 (wrap64 ((ji18) - a2))] rfl (by (try simp only [List.map_toArray, List.map_cons, List.map_nil]); first | done | (simp only [hji18]; rfl) | rfl | (simp only [List.length_drop, List.length_take]; rfl) | (simp only [*]; done)) ?_; (with_reducible refine (gradineref02_Shl.calls k _ _ t563 (wrap64 ((ji18) - a2)) t566 _ ?side1 ?side2 A30.out).mono ?_); (case side1 => exact cs (Kd.R_reads' HO565.out).2.2); (case side2 => exact (Kd.R_reads' HO565.out).2.1); rintro e w39 ⟨v567, rfl, ho0, hb⟩; refine ⟨_, rfl, ?_⟩; refine sw5 ⟨Kd.R_elder' (st HO554.out) (Kd.R_base ho0) hb⟩ ⟨Kd.R_elder' (st HO562.out) (Kd.R_base ho0) hb⟩ ⟨Kd.R_elder' (st HO565.out) (Kd.R_base ho0) hb⟩ ⟨Kd.R_lower (Kd.R_new' (Kd.R_new' (Kd.R_new' ho0 (Kd.R_lt (st HO554.out))) (Kd.R_lt (st HO562.out))) (Kd.R_lt (st HO565.out))) (below_size (bb HB.out))⟩ ⟨below_step (bb HB.out) hb⟩ ?_; clear HO554 HO562 HO565 HB; intro HO554 HO562 HO565 HO568 HB; obtain ⟨Ao40, co40, eo40⟩ := Kd.R_slice HO568.out; subst eo40) | ((with_reducible refine gate_callee (f := 102) rfl ?_); refine goesL_ (some 62) rfl rfl Try.func102 (by kernel_rfl) rfl #[.slice Ao26 t552.length co26, .slice Ao40 t566.length co40] rfl lx ?_; (with_reducible refine (gradineref02_Sub.calls k _ _ t552 _ _ t566 t569 _ ?side1 ?side2 ?side3 ?side4 A31.out).mono ?_); (case side1 => exact cs (Kd.R_reads' HO554.out).2.2); (case side2 => exact (Kd.R_reads' HO554.out).2.1); (case side3 => exact cs (Kd.R_reads' HO568.out).2.2); (case side4 => exact (Kd.R_reads' HO568.out).2.1); rintro e w41 ⟨v570, rfl, ho0, hb⟩; refine ⟨_, rfl, ?_⟩; refine sw6 ⟨Kd.R_elder' (st HO554.out) (Kd.R_base ho0) hb⟩ ⟨Kd.R_elder' (st HO562.out) (Kd.R_base ho0) hb⟩ ⟨Kd.R_elder' (st HO565.out) (Kd.R_base ho0) hb⟩ ⟨Kd.R_elder' (st HO568.out) (Kd.R_base ho0) hb⟩ ⟨Kd.R_lower (Kd.R_new' (Kd.R_new' (Kd.R_new' (Kd.R_new' ho0 (Kd.R_lt (st HO554.out))) (Kd.R_lt (st HO562.out))) (Kd.R_lt (st HO565.out))) (Kd.R_lt (st HO568.out))) (below_size (bb HB.out))⟩ ⟨below_step (bb HB.out) hb⟩ ?_; clear HO554 HO562 HO565 HO568 HB; intro HO554 HO562 HO565 HO568 HO571 HB; obtain ⟨Ao42, co42, eo42⟩ := Kd.R_slice HO571.out; subst eo42) | ((with_reducible refine gate_callee (f := 90) rfl ?_); refine goesL_ (some 64) rfl rfl Try.func90 (by kernel_rfl) rfl #[.slice Ao42 t569.length co42, .int .i64 1] rfl lx ?_; (with_reducible refine (gradineref02_Shl.calls k _ _ t569 1 t572 _ ?side1 ?side2 A32.out).mono ?_); (case side1 => exact cs (Kd.R_reads' HO571.out).2.2); (case side2 => exact (Kd.R_reads' HO571.out).2.1); rintro e w43 ⟨v573, rfl, ho0, hb⟩; refine ⟨_, rfl, ?_⟩; refine sw7 ⟨Kd.R_elder' (st HO554.out) (Kd.R_base ho0) hb⟩ ⟨Kd.R_elder' (st HO562.out) (Kd.R_base ho0) hb⟩ ⟨Kd.R_elder' (st HO565.out) (Kd.R_base ho0) hb⟩ ⟨Kd.R_elder' (st HO568.out) (Kd.R_base ho0) hb⟩ ⟨Kd.R_elder' (st HO571.out) (Kd.R_base ho0) hb⟩ ⟨Kd.R_lower (Kd.R_new' (Kd.R_new' (Kd.R_new' (Kd.R_new' (Kd.R_new' ho0 (Kd.R_lt (st HO554.out))) (Kd.R_lt (st HO562.out))) (Kd.R_lt (st HO565.out))) (Kd.R_lt (st HO568.out))) (Kd.R_lt (st HO571.out))) (below_size (bb HB.out))⟩ ⟨below_step (bb HB.out) hb⟩ ?_; clear HO554 HO562 HO565 HO568 HO571 HB; intro HO554 HO562 HO565 HO568 HO571 HO574 HB) | ((with_reducible refine gate_dst (N := 65) rfl ?_); refine Kd.R_lit (Kd.int .u64) _ 22 ?hg (N := 65) ?hd (xs := ([1] : List Int)) (inner := [.int .u64 1]) (ok := fun _ => True) (okp := fun _ => True) ?hr ?hp (fun _ hk => hk) trivial (Below.refl _ _) (Nat.le_refl _) (by simp) ?_; (case hd => rfl); (case hg => rfl); (case hr => first | (go_simp; done) | (go_simp; rfl)); (case hp => exact (Reps.one (show Kd.M (Kd.int .u64) _ _ _ 1 [.int .u64 1] from rfl) (Reps.none _ _))); intro v576 w44 ho45 hb hg_ hnew_; clear hg_ hnew_; (first | rw [← Ny575.out] at ho45 | (simp only [Int.reduceToNat] at ho45; rw [← Ny575.out] at ho45)); refine sw8 ⟨Kd.R_elder' (st HO554.out) (Kd.R_base ho45) hb⟩ ⟨Kd.R_elder' (st HO562.out) (Kd.R_base ho45) hb⟩ ⟨Kd.R_elder' (st HO565.out) (Kd.R_base ho45) hb⟩ ⟨Kd.R_elder' (st HO568.out) (Kd.R_base ho45) hb⟩ ⟨Kd.R_elder' (st HO571.out) (Kd.R_base ho45) hb⟩ ⟨Kd.R_elder' (st HO574.out) (Kd.R_base ho45) hb⟩ ⟨Kd.R_lower (Kd.R_new' (Kd.R_new' (Kd.R_new' (Kd.R_new' (Kd.R_new' (Kd.R_new' ho45 (Kd.R_lt (st HO554.out))) (Kd.R_lt (st HO562.out))) (Kd.R_lt (st HO565.out))) (Kd.R_lt (st HO568.out))) (Kd.R_lt (st HO571.out))) (Kd.R_lt (st HO574.out))) (below_size (bb HB.out))⟩ ⟨below_step (bb HB.out) hb⟩ ?_; clear HO554 HO562 HO565 HO568 HO571 HO574 HB; intro HO554 HO562 HO565 HO568 HO571 HO574 HO577 HB; clear hb ho45; obtain ⟨Ao46, co46, eo46⟩ := Kd.R_slice HO577.out; subst eo46) | ((with_reducible refine gate_callee (f := 90) rfl ?_); refine goesL_ (some 69) rfl rfl Try.func90 (by kernel_rfl) rfl #[.slice Ao46 y575.length co46, .int .i64 (wrap64 ((ji18) - a2))] rfl (by (try simp only [List.map_toArray, List.map_cons, List.map_nil]); first | done | (simp only [hji18]; rfl) | rfl | (simp only [List.length_drop, List.length_take]; rfl) | (simp only [*]; done)) ?_; (with_reducible refine (gradineref02_Shl.calls k _ _ y575 (wrap64 ((ji18) - a2)) t578 _ ?side1 ?side2 A33.out).mono ?_); (case side1 => exact cs (Kd.R_reads' HO577.out).2.2); (case side2 => exact (Kd.R_reads' HO577.out).2.1); rintro e w47 ⟨v579, rfl, ho0, hb⟩; refine ⟨_, rfl, ?_⟩; refine sw9 ⟨Kd.R_elder' (st HO554.out) (Kd.R_base ho0) hb⟩ ⟨Kd.R_elder' (st HO562.out) (Kd.R_base ho0) hb⟩ ⟨Kd.R_elder' (st HO565.out) (Kd.R_base ho0) hb⟩ ⟨Kd.R_elder' (st HO568.out) (Kd.R_base ho0) hb⟩ ⟨Kd.R_elder' (st HO571.out) (Kd.R_base ho0) hb⟩ ⟨Kd.R_elder' (st HO574.out) (Kd.R_base ho0) hb⟩ ⟨Kd.R_elder' (st HO577.out) (Kd.R_base ho0) hb⟩ ⟨Kd.R_lower (Kd.R_new' (Kd.R_new' (Kd.R_new' (Kd.R_new' (Kd.R_new' (Kd.R_new' (Kd.R_new' ho0 (Kd.R_lt (st HO554.out))) (Kd.R_lt (st HO562.out))) (Kd.R_lt (st HO565.out))) (Kd.R_lt (st HO568.out))) (Kd.R_lt (st HO571.out))) (Kd.R_lt (st HO574.out))) (Kd.R_lt (st HO577.out))) (below_size (bb HB.out))⟩ ⟨below_step (bb HB.out) hb⟩ ?_; clear HO554 HO562 HO565 HO568 HO571 HO574 HO577 HB; intro HO554 HO562 HO565 HO568 HO571 HO574 HO577 HO580 HB; obtain ⟨Ao48, co48, eo48⟩ := Kd.R_slice HO574.out; subst eo48; obtain ⟨Ao49, co49, eo49⟩ := Kd.R_slice HO580.out; subst eo49) | ((with_reducible refine gate_callee (f := 103) rfl ?_); refine goesL_ (some 70) rfl rfl Try.func103 (by kernel_rfl) rfl #[.slice Ao48 t572.length co48, .slice Ao49 t578.length co49] rfl lx ?_; (with_reducible refine (gradineref02_Cmp.calls k _ _ t572 _ _ t578 t581 _ ?side1 ?side2 ?side3 ?side4 A34.out).mono ?_); (case side1 => exact cs (Kd.R_reads' HO574.out).2.2); (case side2 => exact (Kd.R_reads' HO574.out).2.1); (case side3 => exact cs (Kd.R_reads' HO580.out).2.2); (case side4 => exact (Kd.R_reads' HO580.out).2.1); rintro e w50 ⟨rfl, hb⟩; refine ⟨_, rfl, ?_⟩; refine sw9 ⟨Kd.R_below (st HO554.out) hb⟩ ⟨Kd.R_below (st HO562.out) hb⟩ ⟨Kd.R_below (st HO565.out) hb⟩ ⟨Kd.R_below (st HO568.out) hb⟩ ⟨Kd.R_below (st HO571.out) hb⟩ ⟨Kd.R_below (st HO574.out) hb⟩ ⟨Kd.R_below (st HO577.out) hb⟩ ⟨Kd.R_below (st HO580.out) hb⟩ ⟨below_step (bb HB.out) hb⟩ ?_; clear HO554 HO562 HO565 HO568 HO571 HO574 HO577 HO580 HB; intro HO554 HO562 HO565 HO568 HO571 HO574 HO577 HO580 HB) | ((with_reducible refine gate_dst (N := 82) rfl ?_); refine Kd.R_lit (Kd.int .u64) _ 22 ?hg (N := 82) ?hd (xs := ([1] : List Int)) (inner := [.int .u64 1]) (ok := fun _ => True) (okp := fun _ => True) ?hr ?hp (fun _ hk => hk) trivial (Below.refl _ _) (Nat.le_refl _) (by simp) ?_; (case hd => rfl); (case hg => rfl); (case hr => first | (go_simp; done) | (go_simp; rfl)); (case hp => exact (Reps.one (show Kd.M (Kd.int .u64) _ _ _ 1 [.int .u64 1] from rfl) (Reps.none _ _))); intro v583 w51 ho52 hb hg_ hnew_; clear hg_ hnew_; (first | rw [← Ny582.out] at ho52 | (simp only [Int.reduceToNat] at ho52; rw [← Ny582.out] at ho52)); refine sw10 ⟨Kd.R_elder' (st HO554.out) (Kd.R_base ho52) hb⟩ ⟨Kd.R_elder' (st HO562.out) (Kd.R_base ho52) hb⟩ ⟨Kd.R_elder' (st HO565.out) (Kd.R_base ho52) hb⟩ ⟨Kd.R_elder' (st HO568.out) (Kd.R_base ho52) hb⟩ ⟨Kd.R_elder' (st HO571.out) (Kd.R_base ho52) hb⟩ ⟨Kd.R_elder' (st HO574.out) (Kd.R_base ho52) hb⟩ ⟨Kd.R_elder' (st HO577.out) (Kd.R_base ho52) hb⟩ ⟨Kd.R_elder' (st HO580.out) (Kd.R_base ho52) hb⟩ ⟨Kd.R_lower (Kd.R_new' (Kd.R_new' (Kd.R_new' (Kd.R_new' (Kd.R_new' (Kd.R_new' (Kd.R_new' (Kd.R_new' ho52 (Kd.R_lt (st HO554.out))) (Kd.R_lt (st HO562.out))) (Kd.R_lt (st HO565.out))) (Kd.R_lt (st HO568.out))) (Kd.R_lt (st HO571.out))) (Kd.R_lt (st HO574.out))) (Kd.R_lt (st HO577.out))) (Kd.R_lt (st HO580.out))) (below_size (bb HB.out))⟩ ⟨below_step (bb HB.out) hb⟩ ?_; clear HO554 HO562 HO565 HO568 HO571 HO574 HO577 HO580 HB; intro HO554 HO562 HO565 HO568 HO571 HO574 HO577 HO580 HO584 HB; clear hb ho52; obtain ⟨Ao53, co53, eo53⟩ := Kd.R_slice HO584.out; subst eo53) | ((with_reducible refine gate_callee (f := 108) rfl ?_); refine goesL_ (some 83) rfl rfl Try.func108 (by kernel_rfl) rfl #[.slice Ao38 t563.length co38, .slice Ao53 y582.length co53] rfl lx ?_; (with_reducible refine (gradineref02_Add.calls k _ _ t563 _ _ y582 t585 _ ?side1 ?side2 ?side3 ?side4 A36.out).mono ?_); (case side1 => exact cs (Kd.R_reads' HO565.out).2.2); (case side2 => exact (Kd.R_reads' HO565.out).2.1); (case side3 => exact cs (Kd.R_reads' HO584.out).2.2); (case side4 => exact (Kd.R_reads' HO584.out).2.1); rintro e w54 ⟨v586, rfl, ho0, hb⟩; refine ⟨_, rfl, ?_⟩; refine sw11 ⟨Kd.R_elder' (st HO554.out) (Kd.R_base ho0) hb⟩ ⟨Kd.R_elder' (st HO562.out) (Kd.R_base ho0) hb⟩ ⟨Kd.R_elder' (st HO565.out) (Kd.R_base ho0) hb⟩ ⟨Kd.R_elder' (st HO568.out) (Kd.R_base ho0) hb⟩ ⟨Kd.R_elder' (st HO571.out) (Kd.R_base ho0) hb⟩ ⟨Kd.R_elder' (st HO574.out) (Kd.R_base ho0) hb⟩ ⟨Kd.R_elder' (st HO577.out) (Kd.R_base ho0) hb⟩ ⟨Kd.R_elder' (st HO580.out) (Kd.R_base ho0) hb⟩ ⟨Kd.R_elder' (st HO584.out) (Kd.R_base ho0) hb⟩ ⟨Kd.R_lower (Kd.R_new' (Kd.R_new' (Kd.R_new' (Kd.R_new' (Kd.R_new' (Kd.R_new' (Kd.R_new' (Kd.R_new' (Kd.R_new' ho0 (Kd.R_lt (st HO554.out))) (Kd.R_lt (st HO562.out))) (Kd.R_lt (st HO565.out))) (Kd.R_lt (st HO568.out))) (Kd.R_lt (st HO571.out))) (Kd.R_lt (st HO574.out))) (Kd.R_lt (st HO577.out))) (Kd.R_lt (st HO580.out))) (Kd.R_lt (st HO584.out))) (below_size (bb HB.out))⟩ ⟨below_step (bb HB.out) hb⟩ ?_; clear HO554 HO562 HO565 HO568 HO571 HO574 HO577 HO580 HO584 HB; intro HO554 HO562 HO565 HO568 HO571 HO574 HO577 HO580 HO584 HO587 HB))
        go_meet
        case rel => exact ⟨_, (t585), H', ⟨by first | omega | exact Nat.le_refl _⟩, ⟨by (with_reducible repeat (first | apply Kd.R_alloc | apply Kd.R_drewN | apply Kd.R_drew)); exact Kd.R_mono HO587.out (fun _ hk => trivial)⟩, ⟨bb HB.out⟩⟩
       ·rw [if_neg c35] at H
        have c35b0 : decide (0 < t581) = false := decide_eq_false c35
        clear c35
        by_cases c55 : t581 = 0
        ·rw [if_pos c55] at H
         have c55b0 : (t581 == 0) = true := beq_iff_eq.mpr c55
         have c55b1 : (t581 != 0) = false := bne_eq_false_iff_eq.mpr c55
         clear c55
         obtain ⟨t588, A56, H⟩ := bnd H
         by_cases c57 : t588 = true
         ·subst c57
          have H1 : ((gradineref02_Add.f k t563 (([1] : List Int))).bind fun t592 => (gradineref10_Of.j0 k a0 ji18 t592)) = some r := by rw [if_pos rfl] at H; exact H
          clear H
          have H := H1
          clear H1
          obtain ⟨y589, hy589⟩ : ∃ y_ : List Int, y_ = (([1] : List Int)) := ⟨_, rfl⟩
          replace H : ((gradineref02_Add.f k t563 y589).bind fun t592 => (gradineref10_Of.j0 k a0 ji18 t592)) = some r := by first | (rw [hy589]; with_reducible exact H) | (have H2_ := (Option.bind_some _ _).symm.trans H; rw [hy589]; with_reducible exact H2_) | (have H2_ := (Option.bind_some _ _).symm.trans H; with_reducible exact H2_) | with_reducible exact H | (rw [hy589]; exact H) | exact H
          have Ny589 := Aside0.mk hy589
          clear hy589
          obtain ⟨t592, A58, H⟩ := bnd H
          have H' := Aside0.mk H
          clear H
          go_wp2_with (first | ((with_reducible refine gate_callee (f := 100) rfl ?_); refine goesL_ (some 55) rfl rfl Try.func100 (by kernel_rfl) rfl #[.slice Ao26 t552.length co26, .int .i64 (wrap64 ((ji18) - a2))] rfl (by (try simp only [List.map_toArray, List.map_cons, List.map_nil]); first | done | (simp only [hji18]; rfl) | rfl | (simp only [List.length_drop, List.length_take]; rfl) | (simp only [*]; done)) ?_; (with_reducible refine (gradineref02_Shr.calls k _ _ t552 (wrap64 ((ji18) - a2)) t563 _ ?side1 ?side2 A29.out).mono ?_); (case side1 => exact cs (Kd.R_reads' HO554.out).2.2); (case side2 => exact (Kd.R_reads' HO554.out).2.1); rintro e w59 ⟨v564, rfl, ho0, hb⟩; refine ⟨_, rfl, ?_⟩; refine sw4 ⟨Kd.R_elder' (st HO554.out) (Kd.R_base ho0) hb⟩ ⟨Kd.R_elder' (st HO562.out) (Kd.R_base ho0) hb⟩ ⟨Kd.R_lower (Kd.R_new' (Kd.R_new' ho0 (Kd.R_lt (st HO554.out))) (Kd.R_lt (st HO562.out))) (below_size (bb HB.out))⟩ ⟨below_step (bb HB.out) hb⟩ ?_; clear HO554 HO562 HB; intro HO554 HO562 HO565 HB; obtain ⟨Ao60, co60, eo60⟩ := Kd.R_slice HO565.out; subst eo60) | ((with_reducible refine gate_callee (f := 90) rfl ?_); refine goesL_ (some 61) rfl rfl Try.func90 (by kernel_rfl) rfl #[.slice Ao60 t563.length co60, .int .i64 (wrap64 ((ji18) - a2))] rfl (by (try simp only [List.map_toArray, List.map_cons, List.map_nil]); first | done | (simp only [hji18]; rfl) | rfl | (simp only [List.length_drop, List.length_take]; rfl) | (simp only [*]; done)) ?_; (with_reducible refine (gradineref02_Shl.calls k _ _ t563 (wrap64 ((ji18) - a2)) t566 _ ?side1 ?side2 A30.out).mono ?_); (case side1 => exact cs (Kd.R_reads' HO565.out).2.2); (case side2 => exact (Kd.R_reads' HO565.out).2.1); rintro e w61 ⟨v567, rfl, ho0, hb⟩; refine ⟨_, rfl, ?_⟩; refine sw5 ⟨Kd.R_elder' (st HO554.out) (Kd.R_base ho0) hb⟩ ⟨Kd.R_elder' (st HO562.out) (Kd.R_base ho0) hb⟩ ⟨Kd.R_elder' (st HO565.out) (Kd.R_base ho0) hb⟩ ⟨Kd.R_lower (Kd.R_new' (Kd.R_new' (Kd.R_new' ho0 (Kd.R_lt (st HO554.out))) (Kd.R_lt (st HO562.out))) (Kd.R_lt (st HO565.out))) (below_size (bb HB.out))⟩ ⟨below_step (bb HB.out) hb⟩ ?_; clear HO554 HO562 HO565 HB; intro HO554 HO562 HO565 HO568 HB; obtain ⟨Ao62, co62, eo62⟩ := Kd.R_slice HO568.out; subst eo62) | ((with_reducible refine gate_callee (f := 102) rfl ?_); refine goesL_ (some 62) rfl rfl Try.func102 (by kernel_rfl) rfl #[.slice Ao26 t552.length co26, .slice Ao62 t566.length co62] rfl lx ?_; (with_reducible refine (gradineref02_Sub.calls k _ _ t552 _ _ t566 t569 _ ?side1 ?side2 ?side3 ?side4 A31.out).mono ?_); (case side1 => exact cs (Kd.R_reads' HO554.out).2.2); (case side2 => exact (Kd.R_reads' HO554.out).2.1); (case side3 => exact cs (Kd.R_reads' HO568.out).2.2); (case side4 => exact (Kd.R_reads' HO568.out).2.1); rintro e w63 ⟨v570, rfl, ho0, hb⟩; refine ⟨_, rfl, ?_⟩; refine sw6 ⟨Kd.R_elder' (st HO554.out) (Kd.R_base ho0) hb⟩ ⟨Kd.R_elder' (st HO562.out) (Kd.R_base ho0) hb⟩ ⟨Kd.R_elder' (st HO565.out) (Kd.R_base ho0) hb⟩ ⟨Kd.R_elder' (st HO568.out) (Kd.R_base ho0) hb⟩ ⟨Kd.R_lower (Kd.R_new' (Kd.R_new' (Kd.R_new' (Kd.R_new' ho0 (Kd.R_lt (st HO554.out))) (Kd.R_lt (st HO562.out))) (Kd.R_lt (st HO565.out))) (Kd.R_lt (st HO568.out))) (below_size (bb HB.out))⟩ ⟨below_step (bb HB.out) hb⟩ ?_; clear HO554 HO562 HO565 HO568 HB; intro HO554 HO562 HO565 HO568 HO571 HB; obtain ⟨Ao64, co64, eo64⟩ := Kd.R_slice HO571.out; subst eo64) | ((with_reducible refine gate_callee (f := 90) rfl ?_); refine goesL_ (some 64) rfl rfl Try.func90 (by kernel_rfl) rfl #[.slice Ao64 t569.length co64, .int .i64 1] rfl lx ?_; (with_reducible refine (gradineref02_Shl.calls k _ _ t569 1 t572 _ ?side1 ?side2 A32.out).mono ?_); (case side1 => exact cs (Kd.R_reads' HO571.out).2.2); (case side2 => exact (Kd.R_reads' HO571.out).2.1); rintro e w65 ⟨v573, rfl, ho0, hb⟩; refine ⟨_, rfl, ?_⟩; refine sw7 ⟨Kd.R_elder' (st HO554.out) (Kd.R_base ho0) hb⟩ ⟨Kd.R_elder' (st HO562.out) (Kd.R_base ho0) hb⟩ ⟨Kd.R_elder' (st HO565.out) (Kd.R_base ho0) hb⟩ ⟨Kd.R_elder' (st HO568.out) (Kd.R_base ho0) hb⟩ ⟨Kd.R_elder' (st HO571.out) (Kd.R_base ho0) hb⟩ ⟨Kd.R_lower (Kd.R_new' (Kd.R_new' (Kd.R_new' (Kd.R_new' (Kd.R_new' ho0 (Kd.R_lt (st HO554.out))) (Kd.R_lt (st HO562.out))) (Kd.R_lt (st HO565.out))) (Kd.R_lt (st HO568.out))) (Kd.R_lt (st HO571.out))) (below_size (bb HB.out))⟩ ⟨below_step (bb HB.out) hb⟩ ?_; clear HO554 HO562 HO565 HO568 HO571 HB; intro HO554 HO562 HO565 HO568 HO571 HO574 HB) | ((with_reducible refine gate_dst (N := 65) rfl ?_); refine Kd.R_lit (Kd.int .u64) _ 22 ?hg (N := 65) ?hd (xs := ([1] : List Int)) (inner := [.int .u64 1]) (ok := fun _ => True) (okp := fun _ => True) ?hr ?hp (fun _ hk => hk) trivial (Below.refl _ _) (Nat.le_refl _) (by simp) ?_; (case hd => rfl); (case hg => rfl); (case hr => first | (go_simp; done) | (go_simp; rfl)); (case hp => exact (Reps.one (show Kd.M (Kd.int .u64) _ _ _ 1 [.int .u64 1] from rfl) (Reps.none _ _))); intro v576 w66 ho67 hb hg_ hnew_; clear hg_ hnew_; (first | rw [← Ny575.out] at ho67 | (simp only [Int.reduceToNat] at ho67; rw [← Ny575.out] at ho67)); refine sw8 ⟨Kd.R_elder' (st HO554.out) (Kd.R_base ho67) hb⟩ ⟨Kd.R_elder' (st HO562.out) (Kd.R_base ho67) hb⟩ ⟨Kd.R_elder' (st HO565.out) (Kd.R_base ho67) hb⟩ ⟨Kd.R_elder' (st HO568.out) (Kd.R_base ho67) hb⟩ ⟨Kd.R_elder' (st HO571.out) (Kd.R_base ho67) hb⟩ ⟨Kd.R_elder' (st HO574.out) (Kd.R_base ho67) hb⟩ ⟨Kd.R_lower (Kd.R_new' (Kd.R_new' (Kd.R_new' (Kd.R_new' (Kd.R_new' (Kd.R_new' ho67 (Kd.R_lt (st HO554.out))) (Kd.R_lt (st HO562.out))) (Kd.R_lt (st HO565.out))) (Kd.R_lt (st HO568.out))) (Kd.R_lt (st HO571.out))) (Kd.R_lt (st HO574.out))) (below_size (bb HB.out))⟩ ⟨below_step (bb HB.out) hb⟩ ?_; clear HO554 HO562 HO565 HO568 HO571 HO574 HB; intro HO554 HO562 HO565 HO568 HO571 HO574 HO577 HB; clear hb ho67; obtain ⟨Ao68, co68, eo68⟩ := Kd.R_slice HO577.out; subst eo68) | ((with_reducible refine gate_callee (f := 90) rfl ?_); refine goesL_ (some 69) rfl rfl Try.func90 (by kernel_rfl) rfl #[.slice Ao68 y575.length co68, .int .i64 (wrap64 ((ji18) - a2))] rfl (by (try simp only [List.map_toArray, List.map_cons, List.map_nil]); first | done | (simp only [hji18]; rfl) | rfl | (simp only [List.length_drop, List.length_take]; rfl) | (simp only [*]; done)) ?_; (with_reducible refine (gradineref02_Shl.calls k _ _ y575 (wrap64 ((ji18) - a2)) t578 _ ?side1 ?side2 A33.out).mono ?_); (case side1 => exact cs (Kd.R_reads' HO577.out).2.2); (case side2 => exact (Kd.R_reads' HO577.out).2.1); rintro e w69 ⟨v579, rfl, ho0, hb⟩; refine ⟨_, rfl, ?_⟩; refine sw9 ⟨Kd.R_elder' (st HO554.out) (Kd.R_base ho0) hb⟩ ⟨Kd.R_elder' (st HO562.out) (Kd.R_base ho0) hb⟩ ⟨Kd.R_elder' (st HO565.out) (Kd.R_base ho0) hb⟩ ⟨Kd.R_elder' (st HO568.out) (Kd.R_base ho0) hb⟩ ⟨Kd.R_elder' (st HO571.out) (Kd.R_base ho0) hb⟩ ⟨Kd.R_elder' (st HO574.out) (Kd.R_base ho0) hb⟩ ⟨Kd.R_elder' (st HO577.out) (Kd.R_base ho0) hb⟩ ⟨Kd.R_lower (Kd.R_new' (Kd.R_new' (Kd.R_new' (Kd.R_new' (Kd.R_new' (Kd.R_new' (Kd.R_new' ho0 (Kd.R_lt (st HO554.out))) (Kd.R_lt (st HO562.out))) (Kd.R_lt (st HO565.out))) (Kd.R_lt (st HO568.out))) (Kd.R_lt (st HO571.out))) (Kd.R_lt (st HO574.out))) (Kd.R_lt (st HO577.out))) (below_size (bb HB.out))⟩ ⟨below_step (bb HB.out) hb⟩ ?_; clear HO554 HO562 HO565 HO568 HO571 HO574 HO577 HB; intro HO554 HO562 HO565 HO568 HO571 HO574 HO577 HO580 HB; obtain ⟨Ao70, co70, eo70⟩ := Kd.R_slice HO574.out; subst eo70; obtain ⟨Ao71, co71, eo71⟩ := Kd.R_slice HO580.out; subst eo71) | ((with_reducible refine gate_callee (f := 103) rfl ?_); refine goesL_ (some 70) rfl rfl Try.func103 (by kernel_rfl) rfl #[.slice Ao70 t572.length co70, .slice Ao71 t578.length co71] rfl lx ?_; (with_reducible refine (gradineref02_Cmp.calls k _ _ t572 _ _ t578 t581 _ ?side1 ?side2 ?side3 ?side4 A34.out).mono ?_); (case side1 => exact cs (Kd.R_reads' HO574.out).2.2); (case side2 => exact (Kd.R_reads' HO574.out).2.1); (case side3 => exact cs (Kd.R_reads' HO580.out).2.2); (case side4 => exact (Kd.R_reads' HO580.out).2.1); rintro e w72 ⟨rfl, hb⟩; refine ⟨_, rfl, ?_⟩; refine sw9 ⟨Kd.R_below (st HO554.out) hb⟩ ⟨Kd.R_below (st HO562.out) hb⟩ ⟨Kd.R_below (st HO565.out) hb⟩ ⟨Kd.R_below (st HO568.out) hb⟩ ⟨Kd.R_below (st HO571.out) hb⟩ ⟨Kd.R_below (st HO574.out) hb⟩ ⟨Kd.R_below (st HO577.out) hb⟩ ⟨Kd.R_below (st HO580.out) hb⟩ ⟨below_step (bb HB.out) hb⟩ ?_; clear HO554 HO562 HO565 HO568 HO571 HO574 HO577 HO580 HB; intro HO554 HO562 HO565 HO568 HO571 HO574 HO577 HO580 HB) | (go_at_call 141; (with_reducible refine (gradineref02_Bit.calls _ _ t563 0 true _ ?side1 ?side2 A56.out).mono ?_); (case side1 => exact cs (Kd.R_reads' HO565.out).2.2); (case side2 => exact (Kd.R_reads' HO565.out).2.1); rintro e w' ⟨rfl, ⟨nd, rfl⟩⟩) | ((with_reducible refine gate_dst (N := 82) rfl ?_); refine Kd.R_lit (Kd.int .u64) _ 22 ?hg (N := 82) ?hd (xs := ([1] : List Int)) (inner := [.int .u64 1]) (ok := fun _ => True) (okp := fun _ => True) ?hr ?hp (fun _ hk => hk) trivial (Below.refl _ _) (Nat.le_refl _) (by simp) ?_; (case hd => rfl); (case hg => rfl); (case hr => first | (go_simp; done) | (go_simp; rfl)); (case hp => exact (Reps.one (show Kd.M (Kd.int .u64) _ _ _ 1 [.int .u64 1] from rfl) (Reps.none _ _))); intro v590 w73 ho74 hb hg_ hnew_; clear hg_ hnew_; (first | rw [← Ny589.out] at ho74 | (simp only [Int.reduceToNat] at ho74; rw [← Ny589.out] at ho74)); refine sw10 ⟨Kd.R_elder' (st HO554.out) (Kd.R_base ho74) hb⟩ ⟨Kd.R_elder' (st HO562.out) (Kd.R_base ho74) hb⟩ ⟨Kd.R_elder' (st HO565.out) (Kd.R_base ho74) hb⟩ ⟨Kd.R_elder' (st HO568.out) (Kd.R_base ho74) hb⟩ ⟨Kd.R_elder' (st HO571.out) (Kd.R_base ho74) hb⟩ ⟨Kd.R_elder' (st HO574.out) (Kd.R_base ho74) hb⟩ ⟨Kd.R_elder' (st HO577.out) (Kd.R_base ho74) hb⟩ ⟨Kd.R_elder' (st HO580.out) (Kd.R_base ho74) hb⟩ ⟨Kd.R_lower (Kd.R_new' (Kd.R_new' (Kd.R_new' (Kd.R_new' (Kd.R_new' (Kd.R_new' (Kd.R_new' (Kd.R_new' ho74 (Kd.R_lt (st HO554.out))) (Kd.R_lt (st HO562.out))) (Kd.R_lt (st HO565.out))) (Kd.R_lt (st HO568.out))) (Kd.R_lt (st HO571.out))) (Kd.R_lt (st HO574.out))) (Kd.R_lt (st HO577.out))) (Kd.R_lt (st HO580.out))) (below_size (bb HB.out))⟩ ⟨below_step (bb HB.out) hb⟩ ?_; clear HO554 HO562 HO565 HO568 HO571 HO574 HO577 HO580 HB; intro HO554 HO562 HO565 HO568 HO571 HO574 HO577 HO580 HO591 HB; clear hb ho74; obtain ⟨Ao75, co75, eo75⟩ := Kd.R_slice HO591.out; subst eo75) | ((with_reducible refine gate_callee (f := 108) rfl ?_); refine goesL_ (some 83) rfl rfl Try.func108 (by kernel_rfl) rfl #[.slice Ao60 t563.length co60, .slice Ao75 y589.length co75] rfl lx ?_; (with_reducible refine (gradineref02_Add.calls k _ _ t563 _ _ y589 t592 _ ?side1 ?side2 ?side3 ?side4 A58.out).mono ?_); (case side1 => exact cs (Kd.R_reads' HO565.out).2.2); (case side2 => exact (Kd.R_reads' HO565.out).2.1); (case side3 => exact cs (Kd.R_reads' HO591.out).2.2); (case side4 => exact (Kd.R_reads' HO591.out).2.1); rintro e w76 ⟨v593, rfl, ho0, hb⟩; refine ⟨_, rfl, ?_⟩; refine sw11 ⟨Kd.R_elder' (st HO554.out) (Kd.R_base ho0) hb⟩ ⟨Kd.R_elder' (st HO562.out) (Kd.R_base ho0) hb⟩ ⟨Kd.R_elder' (st HO565.out) (Kd.R_base ho0) hb⟩ ⟨Kd.R_elder' (st HO568.out) (Kd.R_base ho0) hb⟩ ⟨Kd.R_elder' (st HO571.out) (Kd.R_base ho0) hb⟩ ⟨Kd.R_elder' (st HO574.out) (Kd.R_base ho0) hb⟩ ⟨Kd.R_elder' (st HO577.out) (Kd.R_base ho0) hb⟩ ⟨Kd.R_elder' (st HO580.out) (Kd.R_base ho0) hb⟩ ⟨Kd.R_elder' (st HO591.out) (Kd.R_base ho0) hb⟩ ⟨Kd.R_lower (Kd.R_new' (Kd.R_new' (Kd.R_new' (Kd.R_new' (Kd.R_new' (Kd.R_new' (Kd.R_new' (Kd.R_new' (Kd.R_new' ho0 (Kd.R_lt (st HO554.out))) (Kd.R_lt (st HO562.out))) (Kd.R_lt (st HO565.out))) (Kd.R_lt (st HO568.out))) (Kd.R_lt (st HO571.out))) (Kd.R_lt (st HO574.out))) (Kd.R_lt (st HO577.out))) (Kd.R_lt (st HO580.out))) (Kd.R_lt (st HO591.out))) (below_size (bb HB.out))⟩ ⟨below_step (bb HB.out) hb⟩ ?_; clear HO554 HO562 HO565 HO568 HO571 HO574 HO577 HO580 HO591 HB; intro HO554 HO562 HO565 HO568 HO571 HO574 HO577 HO580 HO591 HO594 HB))
          go_meet
          case rel => exact ⟨_, (t592), H', ⟨by first | omega | exact Nat.le_refl _⟩, ⟨by (with_reducible repeat (first | apply Kd.R_alloc | apply Kd.R_drewN | apply Kd.R_drew)); exact Kd.R_mono HO594.out (fun _ hk => trivial)⟩, ⟨bb HB.out⟩⟩
         ·replace c57 := Bool.eq_false_iff.mpr c57
          subst c57
          replace H := iff_ H
          have H' := Aside0.mk H
          clear H
          go_wp2_with (first | ((with_reducible refine gate_callee (f := 100) rfl ?_); refine goesL_ (some 55) rfl rfl Try.func100 (by kernel_rfl) rfl #[.slice Ao26 t552.length co26, .int .i64 (wrap64 ((ji18) - a2))] rfl (by (try simp only [List.map_toArray, List.map_cons, List.map_nil]); first | done | (simp only [hji18]; rfl) | rfl | (simp only [List.length_drop, List.length_take]; rfl) | (simp only [*]; done)) ?_; (with_reducible refine (gradineref02_Shr.calls k _ _ t552 (wrap64 ((ji18) - a2)) t563 _ ?side1 ?side2 A29.out).mono ?_); (case side1 => exact cs (Kd.R_reads' HO554.out).2.2); (case side2 => exact (Kd.R_reads' HO554.out).2.1); rintro e w77 ⟨v564, rfl, ho0, hb⟩; refine ⟨_, rfl, ?_⟩; refine sw4 ⟨Kd.R_elder' (st HO554.out) (Kd.R_base ho0) hb⟩ ⟨Kd.R_elder' (st HO562.out) (Kd.R_base ho0) hb⟩ ⟨Kd.R_lower (Kd.R_new' (Kd.R_new' ho0 (Kd.R_lt (st HO554.out))) (Kd.R_lt (st HO562.out))) (below_size (bb HB.out))⟩ ⟨below_step (bb HB.out) hb⟩ ?_; clear HO554 HO562 HB; intro HO554 HO562 HO565 HB; obtain ⟨Ao78, co78, eo78⟩ := Kd.R_slice HO565.out; subst eo78) | ((with_reducible refine gate_callee (f := 90) rfl ?_); refine goesL_ (some 61) rfl rfl Try.func90 (by kernel_rfl) rfl #[.slice Ao78 t563.length co78, .int .i64 (wrap64 ((ji18) - a2))] rfl (by (try simp only [List.map_toArray, List.map_cons, List.map_nil]); first | done | (simp only [hji18]; rfl) | rfl | (simp only [List.length_drop, List.length_take]; rfl) | (simp only [*]; done)) ?_; (with_reducible refine (gradineref02_Shl.calls k _ _ t563 (wrap64 ((ji18) - a2)) t566 _ ?side1 ?side2 A30.out).mono ?_); (case side1 => exact cs (Kd.R_reads' HO565.out).2.2); (case side2 => exact (Kd.R_reads' HO565.out).2.1); rintro e w79 ⟨v567, rfl, ho0, hb⟩; refine ⟨_, rfl, ?_⟩; refine sw5 ⟨Kd.R_elder' (st HO554.out) (Kd.R_base ho0) hb⟩ ⟨Kd.R_elder' (st HO562.out) (Kd.R_base ho0) hb⟩ ⟨Kd.R_elder' (st HO565.out) (Kd.R_base ho0) hb⟩ ⟨Kd.R_lower (Kd.R_new' (Kd.R_new' (Kd.R_new' ho0 (Kd.R_lt (st HO554.out))) (Kd.R_lt (st HO562.out))) (Kd.R_lt (st HO565.out))) (below_size (bb HB.out))⟩ ⟨below_step (bb HB.out) hb⟩ ?_; clear HO554 HO562 HO565 HB; intro HO554 HO562 HO565 HO568 HB; obtain ⟨Ao80, co80, eo80⟩ := Kd.R_slice HO568.out; subst eo80) | ((with_reducible refine gate_callee (f := 102) rfl ?_); refine goesL_ (some 62) rfl rfl Try.func102 (by kernel_rfl) rfl #[.slice Ao26 t552.length co26, .slice Ao80 t566.length co80] rfl lx ?_; (with_reducible refine (gradineref02_Sub.calls k _ _ t552 _ _ t566 t569 _ ?side1 ?side2 ?side3 ?side4 A31.out).mono ?_); (case side1 => exact cs (Kd.R_reads' HO554.out).2.2); (case side2 => exact (Kd.R_reads' HO554.out).2.1); (case side3 => exact cs (Kd.R_reads' HO568.out).2.2); (case side4 => exact (Kd.R_reads' HO568.out).2.1); rintro e w81 ⟨v570, rfl, ho0, hb⟩; refine ⟨_, rfl, ?_⟩; refine sw6 ⟨Kd.R_elder' (st HO554.out) (Kd.R_base ho0) hb⟩ ⟨Kd.R_elder' (st HO562.out) (Kd.R_base ho0) hb⟩ ⟨Kd.R_elder' (st HO565.out) (Kd.R_base ho0) hb⟩ ⟨Kd.R_elder' (st HO568.out) (Kd.R_base ho0) hb⟩ ⟨Kd.R_lower (Kd.R_new' (Kd.R_new' (Kd.R_new' (Kd.R_new' ho0 (Kd.R_lt (st HO554.out))) (Kd.R_lt (st HO562.out))) (Kd.R_lt (st HO565.out))) (Kd.R_lt (st HO568.out))) (below_size (bb HB.out))⟩ ⟨below_step (bb HB.out) hb⟩ ?_; clear HO554 HO562 HO565 HO568 HB; intro HO554 HO562 HO565 HO568 HO571 HB; obtain ⟨Ao82, co82, eo82⟩ := Kd.R_slice HO571.out; subst eo82) | ((with_reducible refine gate_callee (f := 90) rfl ?_); refine goesL_ (some 64) rfl rfl Try.func90 (by kernel_rfl) rfl #[.slice Ao82 t569.length co82, .int .i64 1] rfl lx ?_; (with_reducible refine (gradineref02_Shl.calls k _ _ t569 1 t572 _ ?side1 ?side2 A32.out).mono ?_); (case side1 => exact cs (Kd.R_reads' HO571.out).2.2); (case side2 => exact (Kd.R_reads' HO571.out).2.1); rintro e w83 ⟨v573, rfl, ho0, hb⟩; refine ⟨_, rfl, ?_⟩; refine sw7 ⟨Kd.R_elder' (st HO554.out) (Kd.R_base ho0) hb⟩ ⟨Kd.R_elder' (st HO562.out) (Kd.R_base ho0) hb⟩ ⟨Kd.R_elder' (st HO565.out) (Kd.R_base ho0) hb⟩ ⟨Kd.R_elder' (st HO568.out) (Kd.R_base ho0) hb⟩ ⟨Kd.R_elder' (st HO571.out) (Kd.R_base ho0) hb⟩ ⟨Kd.R_lower (Kd.R_new' (Kd.R_new' (Kd.R_new' (Kd.R_new' (Kd.R_new' ho0 (Kd.R_lt (st HO554.out))) (Kd.R_lt (st HO562.out))) (Kd.R_lt (st HO565.out))) (Kd.R_lt (st HO568.out))) (Kd.R_lt (st HO571.out))) (below_size (bb HB.out))⟩ ⟨below_step (bb HB.out) hb⟩ ?_; clear HO554 HO562 HO565 HO568 HO571 HB; intro HO554 HO562 HO565 HO568 HO571 HO574 HB) | ((with_reducible refine gate_dst (N := 65) rfl ?_); refine Kd.R_lit (Kd.int .u64) _ 22 ?hg (N := 65) ?hd (xs := ([1] : List Int)) (inner := [.int .u64 1]) (ok := fun _ => True) (okp := fun _ => True) ?hr ?hp (fun _ hk => hk) trivial (Below.refl _ _) (Nat.le_refl _) (by simp) ?_; (case hd => rfl); (case hg => rfl); (case hr => first | (go_simp; done) | (go_simp; rfl)); (case hp => exact (Reps.one (show Kd.M (Kd.int .u64) _ _ _ 1 [.int .u64 1] from rfl) (Reps.none _ _))); intro v576 w84 ho85 hb hg_ hnew_; clear hg_ hnew_; (first | rw [← Ny575.out] at ho85 | (simp only [Int.reduceToNat] at ho85; rw [← Ny575.out] at ho85)); refine sw8 ⟨Kd.R_elder' (st HO554.out) (Kd.R_base ho85) hb⟩ ⟨Kd.R_elder' (st HO562.out) (Kd.R_base ho85) hb⟩ ⟨Kd.R_elder' (st HO565.out) (Kd.R_base ho85) hb⟩ ⟨Kd.R_elder' (st HO568.out) (Kd.R_base ho85) hb⟩ ⟨Kd.R_elder' (st HO571.out) (Kd.R_base ho85) hb⟩ ⟨Kd.R_elder' (st HO574.out) (Kd.R_base ho85) hb⟩ ⟨Kd.R_lower (Kd.R_new' (Kd.R_new' (Kd.R_new' (Kd.R_new' (Kd.R_new' (Kd.R_new' ho85 (Kd.R_lt (st HO554.out))) (Kd.R_lt (st HO562.out))) (Kd.R_lt (st HO565.out))) (Kd.R_lt (st HO568.out))) (Kd.R_lt (st HO571.out))) (Kd.R_lt (st HO574.out))) (below_size (bb HB.out))⟩ ⟨below_step (bb HB.out) hb⟩ ?_; clear HO554 HO562 HO565 HO568 HO571 HO574 HB; intro HO554 HO562 HO565 HO568 HO571 HO574 HO577 HB; clear hb ho85; obtain ⟨Ao86, co86, eo86⟩ := Kd.R_slice HO577.out; subst eo86) | ((with_reducible refine gate_callee (f := 90) rfl ?_); refine goesL_ (some 69) rfl rfl Try.func90 (by kernel_rfl) rfl #[.slice Ao86 y575.length co86, .int .i64 (wrap64 ((ji18) - a2))] rfl (by (try simp only [List.map_toArray, List.map_cons, List.map_nil]); first | done | (simp only [hji18]; rfl) | rfl | (simp only [List.length_drop, List.length_take]; rfl) | (simp only [*]; done)) ?_; (with_reducible refine (gradineref02_Shl.calls k _ _ y575 (wrap64 ((ji18) - a2)) t578 _ ?side1 ?side2 A33.out).mono ?_); (case side1 => exact cs (Kd.R_reads' HO577.out).2.2); (case side2 => exact (Kd.R_reads' HO577.out).2.1); rintro e w87 ⟨v579, rfl, ho0, hb⟩; refine ⟨_, rfl, ?_⟩; refine sw9 ⟨Kd.R_elder' (st HO554.out) (Kd.R_base ho0) hb⟩ ⟨Kd.R_elder' (st HO562.out) (Kd.R_base ho0) hb⟩ ⟨Kd.R_elder' (st HO565.out) (Kd.R_base ho0) hb⟩ ⟨Kd.R_elder' (st HO568.out) (Kd.R_base ho0) hb⟩ ⟨Kd.R_elder' (st HO571.out) (Kd.R_base ho0) hb⟩ ⟨Kd.R_elder' (st HO574.out) (Kd.R_base ho0) hb⟩ ⟨Kd.R_elder' (st HO577.out) (Kd.R_base ho0) hb⟩ ⟨Kd.R_lower (Kd.R_new' (Kd.R_new' (Kd.R_new' (Kd.R_new' (Kd.R_new' (Kd.R_new' (Kd.R_new' ho0 (Kd.R_lt (st HO554.out))) (Kd.R_lt (st HO562.out))) (Kd.R_lt (st HO565.out))) (Kd.R_lt (st HO568.out))) (Kd.R_lt (st HO571.out))) (Kd.R_lt (st HO574.out))) (Kd.R_lt (st HO577.out))) (below_size (bb HB.out))⟩ ⟨below_step (bb HB.out) hb⟩ ?_; clear HO554 HO562 HO565 HO568 HO571 HO574 HO577 HB; intro HO554 HO562 HO565 HO568 HO571 HO574 HO577 HO580 HB; obtain ⟨Ao88, co88, eo88⟩ := Kd.R_slice HO574.out; subst eo88; obtain ⟨Ao89, co89, eo89⟩ := Kd.R_slice HO580.out; subst eo89) | ((with_reducible refine gate_callee (f := 103) rfl ?_); refine goesL_ (some 70) rfl rfl Try.func103 (by kernel_rfl) rfl #[.slice Ao88 t572.length co88, .slice Ao89 t578.length co89] rfl lx ?_; (with_reducible refine (gradineref02_Cmp.calls k _ _ t572 _ _ t578 t581 _ ?side1 ?side2 ?side3 ?side4 A34.out).mono ?_); (case side1 => exact cs (Kd.R_reads' HO574.out).2.2); (case side2 => exact (Kd.R_reads' HO574.out).2.1); (case side3 => exact cs (Kd.R_reads' HO580.out).2.2); (case side4 => exact (Kd.R_reads' HO580.out).2.1); rintro e w90 ⟨rfl, hb⟩; refine ⟨_, rfl, ?_⟩; refine sw9 ⟨Kd.R_below (st HO554.out) hb⟩ ⟨Kd.R_below (st HO562.out) hb⟩ ⟨Kd.R_below (st HO565.out) hb⟩ ⟨Kd.R_below (st HO568.out) hb⟩ ⟨Kd.R_below (st HO571.out) hb⟩ ⟨Kd.R_below (st HO574.out) hb⟩ ⟨Kd.R_below (st HO577.out) hb⟩ ⟨Kd.R_below (st HO580.out) hb⟩ ⟨below_step (bb HB.out) hb⟩ ?_; clear HO554 HO562 HO565 HO568 HO571 HO574 HO577 HO580 HB; intro HO554 HO562 HO565 HO568 HO571 HO574 HO577 HO580 HB) | (go_at_call 141; (with_reducible refine (gradineref02_Bit.calls _ _ t563 0 false _ ?side1 ?side2 A56.out).mono ?_); (case side1 => exact cs (Kd.R_reads' HO565.out).2.2); (case side2 => exact (Kd.R_reads' HO565.out).2.1); rintro e w' ⟨rfl, ⟨nd, rfl⟩⟩))
          go_meet
          case rel => exact ⟨_, (t563), H', ⟨by first | omega | exact Nat.le_refl _⟩, ⟨by (with_reducible repeat (first | apply Kd.R_alloc | apply Kd.R_drewN | apply Kd.R_drew)); exact Kd.R_mono HO565.out (fun _ hk => trivial)⟩, ⟨bb HB.out⟩⟩
        ·rw [if_neg c55] at H
         have c55b0 : (t581 == 0) = false := beq_eq_false_iff_ne.mpr c55
         have c55b1 : (t581 != 0) = true := bne_iff_ne.mpr c55
         have H' := Aside0.mk H
         clear H
         go_wp2_with (first | ((with_reducible refine gate_callee (f := 100) rfl ?_); refine goesL_ (some 55) rfl rfl Try.func100 (by kernel_rfl) rfl #[.slice Ao26 t552.length co26, .int .i64 (wrap64 ((ji18) - a2))] rfl (by (try simp only [List.map_toArray, List.map_cons, List.map_nil]); first | done | (simp only [hji18]; rfl) | rfl | (simp only [List.length_drop, List.length_take]; rfl) | (simp only [*]; done)) ?_; (with_reducible refine (gradineref02_Shr.calls k _ _ t552 (wrap64 ((ji18) - a2)) t563 _ ?side1 ?side2 A29.out).mono ?_); (case side1 => exact cs (Kd.R_reads' HO554.out).2.2); (case side2 => exact (Kd.R_reads' HO554.out).2.1); rintro e w91 ⟨v564, rfl, ho0, hb⟩; refine ⟨_, rfl, ?_⟩; refine sw4 ⟨Kd.R_elder' (st HO554.out) (Kd.R_base ho0) hb⟩ ⟨Kd.R_elder' (st HO562.out) (Kd.R_base ho0) hb⟩ ⟨Kd.R_lower (Kd.R_new' (Kd.R_new' ho0 (Kd.R_lt (st HO554.out))) (Kd.R_lt (st HO562.out))) (below_size (bb HB.out))⟩ ⟨below_step (bb HB.out) hb⟩ ?_; clear HO554 HO562 HB; intro HO554 HO562 HO565 HB; obtain ⟨Ao92, co92, eo92⟩ := Kd.R_slice HO565.out; subst eo92) | ((with_reducible refine gate_callee (f := 90) rfl ?_); refine goesL_ (some 61) rfl rfl Try.func90 (by kernel_rfl) rfl #[.slice Ao92 t563.length co92, .int .i64 (wrap64 ((ji18) - a2))] rfl (by (try simp only [List.map_toArray, List.map_cons, List.map_nil]); first | done | (simp only [hji18]; rfl) | rfl | (simp only [List.length_drop, List.length_take]; rfl) | (simp only [*]; done)) ?_; (with_reducible refine (gradineref02_Shl.calls k _ _ t563 (wrap64 ((ji18) - a2)) t566 _ ?side1 ?side2 A30.out).mono ?_); (case side1 => exact cs (Kd.R_reads' HO565.out).2.2); (case side2 => exact (Kd.R_reads' HO565.out).2.1); rintro e w93 ⟨v567, rfl, ho0, hb⟩; refine ⟨_, rfl, ?_⟩; refine sw5 ⟨Kd.R_elder' (st HO554.out) (Kd.R_base ho0) hb⟩ ⟨Kd.R_elder' (st HO562.out) (Kd.R_base ho0) hb⟩ ⟨Kd.R_elder' (st HO565.out) (Kd.R_base ho0) hb⟩ ⟨Kd.R_lower (Kd.R_new' (Kd.R_new' (Kd.R_new' ho0 (Kd.R_lt (st HO554.out))) (Kd.R_lt (st HO562.out))) (Kd.R_lt (st HO565.out))) (below_size (bb HB.out))⟩ ⟨below_step (bb HB.out) hb⟩ ?_; clear HO554 HO562 HO565 HB; intro HO554 HO562 HO565 HO568 HB; obtain ⟨Ao94, co94, eo94⟩ := Kd.R_slice HO568.out; subst eo94) | ((with_reducible refine gate_callee (f := 102) rfl ?_); refine goesL_ (some 62) rfl rfl Try.func102 (by kernel_rfl) rfl #[.slice Ao26 t552.length co26, .slice Ao94 t566.length co94] rfl lx ?_; (with_reducible refine (gradineref02_Sub.calls k _ _ t552 _ _ t566 t569 _ ?side1 ?side2 ?side3 ?side4 A31.out).mono ?_); (case side1 => exact cs (Kd.R_reads' HO554.out).2.2); (case side2 => exact (Kd.R_reads' HO554.out).2.1); (case side3 => exact cs (Kd.R_reads' HO568.out).2.2); (case side4 => exact (Kd.R_reads' HO568.out).2.1); rintro e w95 ⟨v570, rfl, ho0, hb⟩; refine ⟨_, rfl, ?_⟩; refine sw6 ⟨Kd.R_elder' (st HO554.out) (Kd.R_base ho0) hb⟩ ⟨Kd.R_elder' (st HO562.out) (Kd.R_base ho0) hb⟩ ⟨Kd.R_elder' (st HO565.out) (Kd.R_base ho0) hb⟩ ⟨Kd.R_elder' (st HO568.out) (Kd.R_base ho0) hb⟩ ⟨Kd.R_lower (Kd.R_new' (Kd.R_new' (Kd.R_new' (Kd.R_new' ho0 (Kd.R_lt (st HO554.out))) (Kd.R_lt (st HO562.out))) (Kd.R_lt (st HO565.out))) (Kd.R_lt (st HO568.out))) (below_size (bb HB.out))⟩ ⟨below_step (bb HB.out) hb⟩ ?_; clear HO554 HO562 HO565 HO568 HB; intro HO554 HO562 HO565 HO568 HO571 HB; obtain ⟨Ao96, co96, eo96⟩ := Kd.R_slice HO571.out; subst eo96) | ((with_reducible refine gate_callee (f := 90) rfl ?_); refine goesL_ (some 64) rfl rfl Try.func90 (by kernel_rfl) rfl #[.slice Ao96 t569.length co96, .int .i64 1] rfl lx ?_; (with_reducible refine (gradineref02_Shl.calls k _ _ t569 1 t572 _ ?side1 ?side2 A32.out).mono ?_); (case side1 => exact cs (Kd.R_reads' HO571.out).2.2); (case side2 => exact (Kd.R_reads' HO571.out).2.1); rintro e w97 ⟨v573, rfl, ho0, hb⟩; refine ⟨_, rfl, ?_⟩; refine sw7 ⟨Kd.R_elder' (st HO554.out) (Kd.R_base ho0) hb⟩ ⟨Kd.R_elder' (st HO562.out) (Kd.R_base ho0) hb⟩ ⟨Kd.R_elder' (st HO565.out) (Kd.R_base ho0) hb⟩ ⟨Kd.R_elder' (st HO568.out) (Kd.R_base ho0) hb⟩ ⟨Kd.R_elder' (st HO571.out) (Kd.R_base ho0) hb⟩ ⟨Kd.R_lower (Kd.R_new' (Kd.R_new' (Kd.R_new' (Kd.R_new' (Kd.R_new' ho0 (Kd.R_lt (st HO554.out))) (Kd.R_lt (st HO562.out))) (Kd.R_lt (st HO565.out))) (Kd.R_lt (st HO568.out))) (Kd.R_lt (st HO571.out))) (below_size (bb HB.out))⟩ ⟨below_step (bb HB.out) hb⟩ ?_; clear HO554 HO562 HO565 HO568 HO571 HB; intro HO554 HO562 HO565 HO568 HO571 HO574 HB) | ((with_reducible refine gate_dst (N := 65) rfl ?_); refine Kd.R_lit (Kd.int .u64) _ 22 ?hg (N := 65) ?hd (xs := ([1] : List Int)) (inner := [.int .u64 1]) (ok := fun _ => True) (okp := fun _ => True) ?hr ?hp (fun _ hk => hk) trivial (Below.refl _ _) (Nat.le_refl _) (by simp) ?_; (case hd => rfl); (case hg => rfl); (case hr => first | (go_simp; done) | (go_simp; rfl)); (case hp => exact (Reps.one (show Kd.M (Kd.int .u64) _ _ _ 1 [.int .u64 1] from rfl) (Reps.none _ _))); intro v576 w98 ho99 hb hg_ hnew_; clear hg_ hnew_; (first | rw [← Ny575.out] at ho99 | (simp only [Int.reduceToNat] at ho99; rw [← Ny575.out] at ho99)); refine sw8 ⟨Kd.R_elder' (st HO554.out) (Kd.R_base ho99) hb⟩ ⟨Kd.R_elder' (st HO562.out) (Kd.R_base ho99) hb⟩ ⟨Kd.R_elder' (st HO565.out) (Kd.R_base ho99) hb⟩ ⟨Kd.R_elder' (st HO568.out) (Kd.R_base ho99) hb⟩ ⟨Kd.R_elder' (st HO571.out) (Kd.R_base ho99) hb⟩ ⟨Kd.R_elder' (st HO574.out) (Kd.R_base ho99) hb⟩ ⟨Kd.R_lower (Kd.R_new' (Kd.R_new' (Kd.R_new' (Kd.R_new' (Kd.R_new' (Kd.R_new' ho99 (Kd.R_lt (st HO554.out))) (Kd.R_lt (st HO562.out))) (Kd.R_lt (st HO565.out))) (Kd.R_lt (st HO568.out))) (Kd.R_lt (st HO571.out))) (Kd.R_lt (st HO574.out))) (below_size (bb HB.out))⟩ ⟨below_step (bb HB.out) hb⟩ ?_; clear HO554 HO562 HO565 HO568 HO571 HO574 HB; intro HO554 HO562 HO565 HO568 HO571 HO574 HO577 HB; clear hb ho99; obtain ⟨Ao100, co100, eo100⟩ := Kd.R_slice HO577.out; subst eo100) | ((with_reducible refine gate_callee (f := 90) rfl ?_); refine goesL_ (some 69) rfl rfl Try.func90 (by kernel_rfl) rfl #[.slice Ao100 y575.length co100, .int .i64 (wrap64 ((ji18) - a2))] rfl (by (try simp only [List.map_toArray, List.map_cons, List.map_nil]); first | done | (simp only [hji18]; rfl) | rfl | (simp only [List.length_drop, List.length_take]; rfl) | (simp only [*]; done)) ?_; (with_reducible refine (gradineref02_Shl.calls k _ _ y575 (wrap64 ((ji18) - a2)) t578 _ ?side1 ?side2 A33.out).mono ?_); (case side1 => exact cs (Kd.R_reads' HO577.out).2.2); (case side2 => exact (Kd.R_reads' HO577.out).2.1); rintro e w101 ⟨v579, rfl, ho0, hb⟩; refine ⟨_, rfl, ?_⟩; refine sw9 ⟨Kd.R_elder' (st HO554.out) (Kd.R_base ho0) hb⟩ ⟨Kd.R_elder' (st HO562.out) (Kd.R_base ho0) hb⟩ ⟨Kd.R_elder' (st HO565.out) (Kd.R_base ho0) hb⟩ ⟨Kd.R_elder' (st HO568.out) (Kd.R_base ho0) hb⟩ ⟨Kd.R_elder' (st HO571.out) (Kd.R_base ho0) hb⟩ ⟨Kd.R_elder' (st HO574.out) (Kd.R_base ho0) hb⟩ ⟨Kd.R_elder' (st HO577.out) (Kd.R_base ho0) hb⟩ ⟨Kd.R_lower (Kd.R_new' (Kd.R_new' (Kd.R_new' (Kd.R_new' (Kd.R_new' (Kd.R_new' (Kd.R_new' ho0 (Kd.R_lt (st HO554.out))) (Kd.R_lt (st HO562.out))) (Kd.R_lt (st HO565.out))) (Kd.R_lt (st HO568.out))) (Kd.R_lt (st HO571.out))) (Kd.R_lt (st HO574.out))) (Kd.R_lt (st HO577.out))) (below_size (bb HB.out))⟩ ⟨below_step (bb HB.out) hb⟩ ?_; clear HO554 HO562 HO565 HO568 HO571 HO574 HO577 HB; intro HO554 HO562 HO565 HO568 HO571 HO574 HO577 HO580 HB; obtain ⟨Ao102, co102, eo102⟩ := Kd.R_slice HO574.out; subst eo102; obtain ⟨Ao103, co103, eo103⟩ := Kd.R_slice HO580.out; subst eo103) | ((with_reducible refine gate_callee (f := 103) rfl ?_); refine goesL_ (some 70) rfl rfl Try.func103 (by kernel_rfl) rfl #[.slice Ao102 t572.length co102, .slice Ao103 t578.length co103] rfl lx ?_; (with_reducible refine (gradineref02_Cmp.calls k _ _ t572 _ _ t578 t581 _ ?side1 ?side2 ?side3 ?side4 A34.out).mono ?_); (case side1 => exact cs (Kd.R_reads' HO574.out).2.2); (case side2 => exact (Kd.R_reads' HO574.out).2.1); (case side3 => exact cs (Kd.R_reads' HO580.out).2.2); (case side4 => exact (Kd.R_reads' HO580.out).2.1); rintro e w104 ⟨rfl, hb⟩; refine ⟨_, rfl, ?_⟩; refine sw9 ⟨Kd.R_below (st HO554.out) hb⟩ ⟨Kd.R_below (st HO562.out) hb⟩ ⟨Kd.R_below (st HO565.out) hb⟩ ⟨Kd.R_below (st HO568.out) hb⟩ ⟨Kd.R_below (st HO571.out) hb⟩ ⟨Kd.R_below (st HO574.out) hb⟩ ⟨Kd.R_below (st HO577.out) hb⟩ ⟨Kd.R_below (st HO580.out) hb⟩ ⟨below_step (bb HB.out) hb⟩ ?_; clear HO554 HO562 HO565 HO568 HO571 HO574 HO577 HO580 HB; intro HO554 HO562 HO565 HO568 HO571 HO574 HO577 HO580 HB))
         go_meet
         case rel => exact ⟨_, (t563), H', ⟨by first | omega | exact Nat.le_refl _⟩, ⟨by (with_reducible repeat (first | apply Kd.R_alloc | apply Kd.R_drewN | apply Kd.R_drew)); exact Kd.R_mono HO565.out (fun _ hk => trivial)⟩, ⟨bb HB.out⟩⟩
      ·rw [if_neg c28] at H
       have c28b0 : decide (a2 < (ji18)) = false := decide_eq_false c28
       clear c28
       (first | rw [c28b0] | (simp only [i64_w, i32_w]; rw [c28b0]) | skip)
       have H' := Aside0.mk H
       clear H
       go_wp2
       go_meet
       case rel => exact ⟨_, (t560), H', ⟨by first | omega | exact Nat.le_refl _⟩, ⟨by (with_reducible repeat (first | apply Kd.R_alloc | apply Kd.R_drewN | apply Kd.R_drew)); exact Kd.R_mono HO562.out (fun _ hk => trivial)⟩, ⟨bb HB.out⟩⟩
     case rest =>
      clear HC24
      obtain ⟨kq, x9_23, HA, HJ23, HO_9, HB⟩ := hcut
      cases kq with
      | zero => exact absurd HA.out (by simp [gradineref10_Of.j0])
      | succ kj23 =>
       have H := HA.out
       clear HA
       simp only [gradineref10_Of.j0] at H
       have HC105 := Aside0.mk H
       clear H
       obtain ⟨Ao106, co106, eo106⟩ := Kd.R_slice HO_9.out
       subst eo106
       go_upto_if 86 with (fail)
       go_cut [12] (fun v12 wc => ∃ (kq : Nat) (x12_104 : Int), v12 = .int .u64 x12_104 ∧ Aside0 (gradineref10_Of.j1 kq a0 ji18 x12_104 = some r) ∧ Aside0 (kq ≤ kj23) ∧ Aside0 (Below w.heap.size w wc))
       case first =>
        have H := HC105.out
        clear HC105
        by_cases c107 : (x9_23.length : Int) > 0
        ·rw [if_pos c107] at H
         have c107b0 : decide (0 < (x9_23.length : Int)) = true := decide_eq_true c107
         have c107b1 : decide (0 < x9_23.length) = true := decide_eq_true (by omega)
         clear c107
         (first | rw [c107b0] | (simp only [i64_w, i32_w]; rw [c107b0]) | rw [c107b1] | skip)
         by_cases c108 : 0 < (x9_23.length : Int)
         ·rw [if_pos c108] at H
          have c108b0 : decide (0 < (x9_23.length : Int)) = true := decide_eq_true c108
          have c108b1 : decide (0 < x9_23.length) = true := decide_eq_true (by omega)
          clear c108
          have H' := Aside0.mk H
          clear H
          have p595 : 0 ≤ (0 : Int) := (by omega)
          have q595 : 0 < (x9_23.length : Int) := of_decide_eq_true (by first | (with_reducible assumption) | assumption)
          obtain ⟨ad595, e595, hx595_0⟩ := Kd.at_int (Kd.R_reads' HO_9.out).2.2 0 p595 q595
          cases e595
          have qi595 : (0 < x9_23.length) = True := eq_true (by omega)
          (try rw [show ((0 : Int)).toNat = 0 from rfl] at hx595_0)
          (try rw [Addr.add_zero'] at hx595_0)
          replace p595 := eq_true p595
          replace q595 := eq_true q595
          go_wp2
          go_meet
          case rel => exact ⟨_, (rd x9_23 0), (by first | rfl | (simp; done) | (simp [*]; done)), H', ⟨by have := HJ23.out; first | omega | exact Nat.le_refl _⟩, ⟨bb HB.out⟩⟩
         ·rw [if_neg c108] at H
          exact absurd H (by simp)
        ·rw [if_neg c107] at H
         have c107b0 : decide (0 < (x9_23.length : Int)) = false := decide_eq_false c107
         have c107b1 : decide (0 < x9_23.length) = false := decide_eq_false (by omega)
         clear c107
         (first | rw [c107b0] | (simp only [i64_w, i32_w]; rw [c107b0]) | rw [c107b1] | skip)
         have H' := Aside0.mk H
         clear H
         go_wp2
         go_meet
         case rel => exact ⟨_, (0), (by first | rfl | (simp; done) | (simp [*]; done)), H', ⟨by have := HJ23.out; first | omega | exact Nat.le_refl _⟩, ⟨bb HB.out⟩⟩
       case rest =>
        clear HC105
        obtain ⟨kq, x12_104, rfl, HA, HJ104, HB⟩ := hcut
        cases kq with
        | zero => exact absurd HA.out (by simp [gradineref10_Of.j1])
        | succ kj104 =>
         have H := HA.out
         clear HA
         simp only [gradineref10_Of.j1] at H
         obtain ⟨⟨t596, t597⟩, A109, H⟩ := bnd H
         dsimp only at H
         by_cases c110 : t597 = true
         ·subst c110
          replace H := ift H
          obtain rfl := Option.some.inj H
          go_wp2_with (first | ((with_reducible refine gate_callee (f := 31) rfl ?_); refine goesL_ (some 94) rfl rfl Try.func31 (by kernel_rfl) rfl #[.bool a0, .int .u64 x12_104, .int .i64 ji18] rfl (by (try simp only [List.map_toArray, List.map_cons, List.map_nil]); first | done | (simp only [hji18]; rfl) | rfl | (simp only [List.length_drop, List.length_take]; rfl) | (simp only [*]; done)) ?_; (with_reducible refine (gradineref09_Make.calls kj104 a0 x12_104 ji18 t596 true _ A109.out).mono ?_); rintro e w' ⟨rfl, ⟨nd, rfl⟩⟩; refine ⟨_, rfl, ?_⟩))
          go_ret
          exact ⟨by first | rfl | (simp [errW_none, errW_some] <;> rfl) | (simp only [← hji18]; first | rfl | (simp [errW_none, errW_some] <;> rfl)) | (simp [*, errW_none, errW_some] <;> rfl), hbb⟩
         ·replace c110 := Bool.eq_false_iff.mpr c110
          subst c110
          replace H := iff_ H
          obtain ⟨t598, A111, H⟩ := bnd H
          obtain rfl := Option.some.inj H
          go_wp2_with (first | ((with_reducible refine gate_callee (f := 31) rfl ?_); refine goesL_ (some 94) rfl rfl Try.func31 (by kernel_rfl) rfl #[.bool a0, .int .u64 x12_104, .int .i64 ji18] rfl (by (try simp only [List.map_toArray, List.map_cons, List.map_nil]); first | done | (simp only [hji18]; rfl) | rfl | (simp only [List.length_drop, List.length_take]; rfl) | (simp only [*]; done)) ?_; (with_reducible refine (gradineref09_Make.calls kj104 a0 x12_104 ji18 t596 false _ A109.out).mono ?_); rintro e w' ⟨rfl, ⟨nd, rfl⟩⟩; refine ⟨_, rfl, ?_⟩) | ((with_reducible refine gate_callee (f := 35) rfl ?_); refine goesL_ (some 100) rfl rfl Try.func35 (by kernel_rfl) rfl #[.bool a0] rfl lx ?_; (with_reducible refine (gradineref09_Inf.calls a0 t598 _ A111.out).mono ?_); rintro e w' ⟨rfl, ⟨nd, rfl⟩⟩; refine ⟨_, rfl, ?_⟩))
          go_ret
          exact ⟨by first | rfl | (simp [errW_none, errW_some] <;> rfl) | (simp only [← hji18]; first | rfl | (simp [errW_none, errW_some] <;> rfl)) | (simp [*, errW_none, errW_some] <;> rfl), hbb⟩
 case p18_ | p19_ | p20_ | n20_ =>
  go_enter Try.func94, Try.ntmps94
  go_wp2_with (first | ((with_reducible refine gate_callee (f := 140) rfl ?_); refine goesL_ (some 16) rfl rfl Try.func140 (by kernel_rfl) rfl #[.slice A1 l1.length c1] rfl lx ?_; (with_reducible refine (gradineref02_Trim.calls k _ _ l1 t552 _ ?side1 ?side2 A4.out).mono ?_); (case side1 => exact cs HR1.out); (case side2 => exact HC1.out); rintro e w21 ⟨v553, rfl, ho0, hb⟩; refine ⟨_, rfl, ?_⟩; refine sw2 ⟨Kd.R_lower ho0 (below_size (bb HB.out))⟩ ⟨below_step (bb HB.out) hb⟩ ?_; clear HB; intro HO554 HB; obtain ⟨Ao22, co22, eo22⟩ := Kd.R_slice HO554.out; subst eo22) | ((with_reducible refine gate_callee (f := 101) rfl ?_); refine goesL_ (some 23) rfl rfl Try.func101 (by kernel_rfl) rfl #[.slice Ao22 t552.length co22] rfl lx ?_; (with_reducible refine (gradineref02_Bits.calls k _ _ t552 t556 _ ?side1 ?side2 A9.out).mono ?_); (case side1 => exact cs (Kd.R_reads' HO554.out).2.2); (case side2 => exact (Kd.R_reads' HO554.out).2.1); rintro e w' ⟨rfl, ⟨nd, rfl⟩⟩; refine ⟨_, rfl, ?_⟩) | ((with_reducible refine gate_callee (f := 35) rfl ?_); refine goesL_ (some 42) rfl rfl Try.func35 (by kernel_rfl) rfl #[.bool a0] rfl lx ?_; (with_reducible refine (gradineref09_Inf.calls a0 t559 _ A20.out).mono ?_); rintro e w' ⟨rfl, ⟨nd, rfl⟩⟩; refine ⟨_, rfl, ?_⟩) | ((with_reducible refine gate_callee (f := 91) rfl ?_); refine goesL_ (some 33) rfl rfl Try.func91 (by kernel_rfl) rfl #[.bool a0, .int .u64 0] rfl lx ?_; (with_reducible refine (gradineref09_Signed.calls a0 0 t558 _ A15.out).mono ?_); rintro e w' ⟨rfl, ⟨nd, rfl⟩⟩; refine ⟨_, rfl, ?_⟩) | ((with_reducible refine gate_callee (f := 35) rfl ?_); refine goesL_ (some 27) rfl rfl Try.func35 (by kernel_rfl) rfl #[.bool a0] rfl lx ?_; (with_reducible refine (gradineref09_Inf.calls a0 t557 _ A11.out).mono ?_); rintro e w' ⟨rfl, ⟨nd, rfl⟩⟩; refine ⟨_, rfl, ?_⟩) | ((with_reducible refine gate_callee (f := 91) rfl ?_); refine goesL_ (some 21) rfl rfl Try.func91 (by kernel_rfl) rfl #[.bool a0, .int .u64 0] rfl lx ?_; (with_reducible refine (gradineref09_Signed.calls a0 0 t555 _ A6.out).mono ?_); rintro e w' ⟨rfl, ⟨nd, rfl⟩⟩; refine ⟨_, rfl, ?_⟩))
  go_ret
  first | (exact ⟨by first | rfl | (simp [errW_none, errW_some] <;> rfl) | (simp only [← hji18]; first | rfl | (simp [errW_none, errW_some] <;> rfl)) | (simp [*, errW_none, errW_some] <;> rfl), hbb⟩) | (exact ⟨er, hbb⟩)

def gradineref10_Half.f (k : Nat) (l0 : List Int) : Option (List Int) := (gradineref02_Shl.f k l0 1).bind fun t599 => ((gradineref02_Add.f k t599 (([1] : List Int))).bind fun t605 => (some t605))
set_option maxHeartbeats 8000000 in
set_option maxRecDepth 100000 in
theorem gradineref10_Half.calls (k : Nat) (A0 : Option Addr) (c0 : Nat) (l0 : List Int) (r : List Int) (w : World) (hr0 : Kd.C (Kd.int .u64) w A0 l0.length l0) (hc0 : l0.length ≤ c0) (h : gradineref10_Half.f k l0 = some r) :
  Calls Try.prog 95 #[.slice A0 l0.length c0] w fun e w' => ∃ v0_ : Value, e = .returned (v0_) ∧ Kd.R (Kd.int .u64) 22 w' w.heap.size (fun _ => True) v0_ r ∧ Below w.heap.size w w' := by
 have HR0 := Aside0.mk hr0
 have HC0 := Aside0.mk hc0
 clear hr0 hc0
 have HB := Aside0.mk (Below.refl w.heap.size w)
 have H := h
 clear h
 unfold gradineref10_Half.f at H
 obtain ⟨t599, A2, H⟩ := bnd H
 obtain ⟨y602, hy602⟩ : ∃ y_ : List Int, y_ = (([1] : List Int)) := ⟨_, rfl⟩
 rw [← hy602] at H
 have Ny602 := Aside0.mk hy602
 clear hy602
 obtain ⟨t605, A3, H⟩ := bnd H
 obtain rfl := Option.some.inj H
 go_enter Try.func95, Try.ntmps95
 go_wp2_with (first | ((with_reducible refine gate_callee (f := 90) rfl ?_); refine goesL_ (some 4) rfl rfl Try.func90 (by kernel_rfl) rfl #[.slice A0 l0.length c0, .int .i64 1] rfl lx ?_; (with_reducible refine (gradineref02_Shl.calls k _ _ l0 1 t599 _ ?side1 ?side2 A2.out).mono ?_); (case side1 => exact cs HR0.out); (case side2 => exact HC0.out); rintro e w4 ⟨v600, rfl, ho0, hb⟩; refine ⟨_, rfl, ?_⟩; refine sw2 ⟨Kd.R_lower ho0 (below_size hbb)⟩ ⟨below_step hbb hb⟩ ?_; clear HB; intro HO601 HB) | ((with_reducible refine gate_dst (N := 5) rfl ?_); refine Kd.R_lit (Kd.int .u64) _ 22 ?hg (N := 5) ?hd (xs := ([1] : List Int)) (inner := [.int .u64 1]) (ok := fun _ => True) (okp := fun _ => True) ?hr ?hp (fun _ hk => hk) trivial (Below.refl _ _) (Nat.le_refl _) (by simp) ?_; (case hd => rfl); (case hg => rfl); (case hr => first | (go_simp; done) | (go_simp; rfl)); (case hp => exact (Reps.one (show Kd.M (Kd.int .u64) _ _ _ 1 [.int .u64 1] from rfl) (Reps.none _ _))); intro v603 w5 ho6 hb hg_ hnew_; clear hg_ hnew_; (first | rw [← Ny602.out] at ho6 | (simp only [Int.reduceToNat] at ho6; rw [← Ny602.out] at ho6)); refine sw3 ⟨Kd.R_elder' (st HO601.out) (Kd.R_base ho6) hb⟩ ⟨Kd.R_lower (Kd.R_new' ho6 (Kd.R_lt (st HO601.out))) (below_size hbb)⟩ ⟨below_step hbb hb⟩ ?_; clear HO601 HB; intro HO601 HO604 HB; clear hb ho6; obtain ⟨Ao7, co7, eo7⟩ := Kd.R_slice HO601.out; subst eo7; obtain ⟨Ao8, co8, eo8⟩ := Kd.R_slice HO604.out; subst eo8) | ((with_reducible refine gate_callee (f := 108) rfl ?_); refine goesL_ (some 6) rfl rfl Try.func108 (by kernel_rfl) rfl #[.slice Ao7 t599.length co7, .slice Ao8 y602.length co8] rfl lx ?_; (with_reducible refine (gradineref02_Add.calls k _ _ t599 _ _ y602 t605 _ ?side1 ?side2 ?side3 ?side4 A3.out).mono ?_); (case side1 => exact cs (Kd.R_reads' HO601.out).2.2); (case side2 => exact (Kd.R_reads' HO601.out).2.1); (case side3 => exact cs (Kd.R_reads' HO604.out).2.2); (case side4 => exact (Kd.R_reads' HO604.out).2.1); rintro e w9 ⟨v606, rfl, ho0, hb⟩; refine ⟨_, rfl, ?_⟩; refine sw4 ⟨Kd.R_elder' (st HO601.out) (Kd.R_base ho0) hb⟩ ⟨Kd.R_elder' (st HO604.out) (Kd.R_base ho0) hb⟩ ⟨Kd.R_lower (Kd.R_new' (Kd.R_new' ho0 (Kd.R_lt (st HO601.out))) (Kd.R_lt (st HO604.out))) (below_size hbb)⟩ ⟨below_step hbb hb⟩ ?_; clear HO601 HO604 HB; intro HO601 HO604 HO607 HB))
 go_ret
 exact ⟨_, by first | rfl | (simp [errW_none, errW_some] <;> rfl) | (simp [*, errW_none, errW_some] <;> rfl), by (with_reducible repeat (first | apply Kd.R_alloc | apply Kd.R_drewN | apply Kd.R_drew)); exact Kd.R_mono HO607.out (fun _ hk => trivial), hbb⟩

def gradineref10_More.f (k : Nat) (a0 : Bool) (l1 : List Int) (a2 : Int) (a3 : Bool) : Option (Int) := if a3 = true then ((gradineref10_Half.f k l1).bind fun t608 => ((gradineref10_Of.f k a0 t608 ((mn (mx a2 (-1099511627776)) 1099511627776) - 1)).bind fun t611 => (some t611))) else ((gradineref10_Of.f k a0 l1 (mn (mx a2 (-1099511627776)) 1099511627776)).bind fun t612 => (some t612))
set_option maxHeartbeats 8000000 in
set_option maxRecDepth 100000 in
theorem gradineref10_More.calls (k : Nat) (a0 : Bool) (A1 : Option Addr) (c1 : Nat) (l1 : List Int) (a2 : Int) (a3 : Bool) (r : Int) (w : World) (hr1 : Kd.C (Kd.int .u64) w A1 l1.length l1) (hc1 : l1.length ≤ c1) (h : gradineref10_More.f k a0 l1 a2 a3 = some r) :
  Calls Try.prog 37 #[.bool a0, .slice A1 l1.length c1, .int .i64 a2, .bool a3] w fun e w' => e = .returned (.int .u64 r) ∧ Below w.heap.size w w' := by
 have HR1 := Aside0.mk hr1
 have HC1 := Aside0.mk hc1
 clear hr1 hc1
 have HB := Aside0.mk (Below.refl w.heap.size w)
 have H := h
 clear h
 unfold gradineref10_More.f at H
 obtain ⟨ji5, hji5⟩ : ∃ j_ : Int, (mx a2 (-1099511627776)) = j_ := ⟨_, rfl⟩
 rw [hji5] at H
 have hji5_ : (if a2 < (-1099511627776) then (-1099511627776) else a2) = ji5 := hji5
 obtain ⟨ji6, hji6⟩ : ∃ j_ : Int, (mn (ji5) 1099511627776) = j_ := ⟨_, rfl⟩
 rw [hji6] at H
 have hji6_ : (if 1099511627776 < (ji5) then 1099511627776 else (ji5)) = ji6 := hji6
 refine if c7 : a3 = true then ?p101_ else ?n101_
 case' p101_ =>
  subst c7
  replace H := ift H
  obtain ⟨t608, A8, H⟩ := bnd H
  obtain ⟨t611, A9, H⟩ := bnd H
  obtain rfl := Option.some.inj H
 case' n101_ =>
  replace c7 := Bool.eq_false_iff.mpr c7
  subst c7
  replace H := iff_ H
  obtain ⟨t612, A13, H⟩ := bnd H
  obtain rfl := Option.some.inj H
 case p101_ | n101_ =>
  go_enter Try.func37, Try.ntmps37
  go_wp2_with (first | ((with_reducible refine gate_callee (f := 95) rfl ?_); refine goesL_ (some 15) rfl rfl Try.func95 (by kernel_rfl) rfl #[.slice A1 l1.length c1] rfl lx ?_; (with_reducible refine (gradineref10_Half.calls k _ _ l1 t608 _ ?side1 ?side2 A8.out).mono ?_); (case side1 => exact cs HR1.out); (case side2 => exact HC1.out); rintro e w10 ⟨v609, rfl, ho0, hb⟩; refine ⟨_, rfl, ?_⟩; refine sw2 ⟨Kd.R_lower ho0 (below_size (bb HB.out))⟩ ⟨below_step (bb HB.out) hb⟩ ?_; clear HB; intro HO610 HB; obtain ⟨Ao11, co11, eo11⟩ := Kd.R_slice HO610.out; subst eo11) | ((with_reducible refine gate_callee (f := 94) rfl ?_); refine goesL_ (some 18) rfl rfl Try.func94 (by kernel_rfl) rfl #[.bool a0, .slice Ao11 t608.length co11, .int .i64 ((ji6) - 1)] rfl (by (try simp only [List.map_toArray, List.map_cons, List.map_nil]); first | done | (simp only [hji6]; rfl) | rfl | (simp only [List.length_drop, List.length_take]; rfl) | (simp only [*]; done)) ?_; (with_reducible refine (gradineref10_Of.calls k a0 _ _ t608 ((ji6) - 1) t611 _ ?side1 ?side2 A9.out).mono ?_); (case side1 => exact cs (Kd.R_reads' HO610.out).2.2); (case side2 => exact (Kd.R_reads' HO610.out).2.1); rintro e w12 ⟨rfl, hb⟩; refine ⟨_, rfl, ?_⟩; refine sw2 ⟨Kd.R_below (st HO610.out) hb⟩ ⟨below_step (bb HB.out) hb⟩ ?_; clear HO610 HB; intro HO610 HB) | ((with_reducible refine gate_callee (f := 94) rfl ?_); refine goesL_ (some 22) rfl rfl Try.func94 (by kernel_rfl) rfl #[.bool a0, .slice A1 l1.length c1, .int .i64 ji6] rfl (by (try simp only [List.map_toArray, List.map_cons, List.map_nil]); first | done | (simp only [hji6]; rfl) | rfl | (simp only [List.length_drop, List.length_take]; rfl) | (simp only [*]; done)) ?_; (with_reducible refine (gradineref10_Of.calls k a0 _ _ l1 ji6 t612 _ ?side1 ?side2 A13.out).mono ?_); (case side1 => exact cs HR1.out); (case side2 => exact HC1.out); rintro e w14 ⟨rfl, hb⟩; refine ⟨_, rfl, ?_⟩; refine sw1 ⟨below_step (bb HB.out) hb⟩ ?_; clear HB; intro HB))
  go_ret
  exact ⟨by first | rfl | (simp [errW_none, errW_some] <;> rfl) | (simp only [← hji5, ← hji6]; first | rfl | (simp [errW_none, errW_some] <;> rfl)) | (simp [*, errW_none, errW_some] <;> rfl), hbb⟩

def gradineref10_FromRat.f (k : Nat) (a0_0 : Bool) (l0_1 : List Int) (l0_2 : List Int) : Option (Int) := (gradineref07_Zero.f a0_0 l0_1 l0_2).bind fun t1637 => (if t1637 = true then (some 0) else ((gradineref02_Bits.f k l0_1).bind fun t1638 => ((gradineref02_Bits.f k l0_2).bind fun t1639 => (if (wrap64 (t1638 - t1639)) > 1100 then ((gradineref09_Inf.f a0_0).bind fun t1640 => (some t1640)) else (if (wrap64 (t1638 - t1639)) < (-1200) then ((gradineref09_Signed.f a0_0 0).bind fun t1641 => (some t1641)) else ((gradineref02_Shl.f k l0_1 (mx 0 (wrap64 (64 - (wrap64 (t1638 - t1639)))))).bind fun t1642 => ((gradineref04_Div.f k t1642 l0_2).bind fun bt1645 => ((gradineref10_More.f k a0_0 bt1645.1 (wrap64 (-(mx 0 (wrap64 (64 - (wrap64 (t1638 - t1639))))))) (decide ((bt1645.2.length : Int) > 0))).bind fun t1651 => (some t1651)))))))))
def gradineref10_FromRat.T3 : Bool × List (List Nat × List Nat) := (true, [([], []), ([0], [0]), ([1], [1]), ([], []), ([3], [3]), ([4, 2], [4]), ([2, 5], [2, 5]), ([6, 5, 0, 1, 2, 3, 4, 5, 6], [6])])
def gradineref10_FromRat.B3 : List Nat := [0, 1, 3, 0, 8, 31, 63, 127]
theorem gradineref10_FromRat.tab3 : rtab .any (opsOf Try.f84 3) = gradineref10_FromRat.T3 := by kernel_rfl
theorem gradineref10_FromRat.bits3 : waitsOk gradineref10_FromRat.T3.2 gradineref10_FromRat.B3 = true := by kernel_rfl
def gradineref10_FromRat.T9 : Bool × List (List Nat × List Nat) := (true, [([], []), ([0], [0]), ([], []), ([1, 2], [1, 2]), ([], []), ([4], [4]), ([3, 5, 3], [3, 5]), ([6], [6]), ([7], [7]), ([7], [7]), ([8, 6, 0, 1, 2, 3, 4, 5, 6, 7, 8], [8]), ([9, 10, 0, 1, 2, 3, 4, 5, 6, 7, 8, 9, 10], [9])])
def gradineref10_FromRat.B9 : List Nat := [0, 1, 0, 7, 0, 16, 63, 127, 255, 255, 511, 2047]
theorem gradineref10_FromRat.tab9 : rtab .any (opsOf Try.f84 9) = gradineref10_FromRat.T9 := by kernel_rfl
theorem gradineref10_FromRat.bits9 : waitsOk gradineref10_FromRat.T9.2 gradineref10_FromRat.B9 = true := by kernel_rfl
set_option maxHeartbeats 8000000 in
set_option maxRecDepth 100000 in
theorem gradineref10_FromRat.calls (k : Nat) (a0_0 : Bool) (A0_1 : Option Addr) (c0_1 : Nat) (l0_1 : List Int) (A0_2 : Option Addr) (c0_2 : Nat) (l0_2 : List Int) (r : Int) (w : World) (hr0_1 : Kd.C (Kd.int .u64) w A0_1 l0_1.length l0_1) (hc0_1 : l0_1.length ≤ c0_1) (hr0_2 : Kd.C (Kd.int .u64) w A0_2 l0_2.length l0_2) (hc0_2 : l0_2.length ≤ c0_2) (h : gradineref10_FromRat.f k a0_0 l0_1 l0_2 = some r) :
  Calls Try.prog 84 #[.agg #[.bool a0_0, .slice A0_1 l0_1.length c0_1, .slice A0_2 l0_2.length c0_2]] w fun e w' => e = .returned (.int .u64 r) ∧ Below w.heap.size w w' := by
 have hu32 := Try.underlying32
 have HR0_1 := Aside0.mk hr0_1
 have HC0_1 := Aside0.mk hc0_1
 clear hr0_1 hc0_1
 have HR0_2 := Aside0.mk hr0_2
 have HC0_2 := Aside0.mk hc0_2
 clear hr0_2 hc0_2
 have HB := Aside0.mk (Below.refl w.heap.size w)
 have H : ((gradineref07_Zero.f a0_0 l0_1 l0_2).bind fun t1637 => (if t1637 = true then (some 0) else ((gradineref02_Bits.f k l0_1).bind fun t1638 => ((gradineref02_Bits.f k l0_2).bind fun t1639 => (if (wrap64 (t1638 - t1639)) > 1100 then ((gradineref09_Inf.f a0_0).bind fun t1640 => (some t1640)) else (if (wrap64 (t1638 - t1639)) < (-1200) then ((gradineref09_Signed.f a0_0 0).bind fun t1641 => (some t1641)) else ((gradineref02_Shl.f k l0_1 (mx 0 (wrap64 (64 - (wrap64 (t1638 - t1639)))))).bind fun t1642 => ((gradineref04_Div.f k t1642 l0_2).bind fun bt1645 => ((gradineref10_More.f k a0_0 bt1645.1 (wrap64 (-(mx 0 (wrap64 (64 - (wrap64 (t1638 - t1639))))))) (decide ((bt1645.2.length : Int) > 0))).bind fun t1651 => (some t1651)))))))))) = some r := h
 clear h
 replace H := Option.bind_eq_some_iff.mp H
 obtain ⟨t1637, A20, H⟩ := H
 replace H : (if t1637 = true then (some 0) else ((gradineref02_Bits.f k l0_1).bind fun t1638 => ((gradineref02_Bits.f k l0_2).bind fun t1639 => (if (wrap64 (t1638 - t1639)) > 1100 then ((gradineref09_Inf.f a0_0).bind fun t1640 => (some t1640)) else (if (wrap64 (t1638 - t1639)) < (-1200) then ((gradineref09_Signed.f a0_0 0).bind fun t1641 => (some t1641)) else ((gradineref02_Shl.f k l0_1 (mx 0 (wrap64 (64 - (wrap64 (t1638 - t1639)))))).bind fun t1642 => ((gradineref04_Div.f k t1642 l0_2).bind fun bt1645 => ((gradineref10_More.f k a0_0 bt1645.1 (wrap64 (-(mx 0 (wrap64 (64 - (wrap64 (t1638 - t1639))))))) (decide ((bt1645.2.length : Int) > 0))).bind fun t1651 => (some t1651))))))))) = some r := H
 try rw [show decide ((t1646.length : Int) > 0) = decide (0 < t1646.length) from by simp] at A20
 have A2 := Aside0.mk A20
 clear A20
 by_cases c3 : t1637 = true
 ·subst c3
  have H1 : (some 0) = some r := by rw [if_pos rfl] at H; exact H
  clear H
  have H := H1
  clear H1
  obtain rfl := Option.some.inj H
  go_enter Try.func84, Try.ntmps84
  go_wp2_with (first | ((with_reducible refine gate_dst (N := 1) rfl ?_); refine box_event ?hg (N := 1) ?hd (cs := #[.bool a0_0, .slice A0_1 l0_1.length c0_1, .slice A0_2 l0_2.length c0_2]) (t := 32) ?hr ?_; (case hd => rfl); (case hg => rfl); (case hr => first | (go_simp; done) | (go_simp; rfl)); intro gb1636 hg w4 hbox hb; refine sw4 ⟨below_step hbb hb⟩ ⟨hbox⟩ ⟨gsz hg hbb⟩ ⟨gsz hg hbb⟩ ?_; clear HB; intro HB BK1636 GW1636 GE1636; clear hb hbox hg; obtain ⟨hcz5_0, hcz5_1, hcz5_2, hfz5_0, hfz5_1, hfz5_2⟩ := cz3 BK1636) | ((with_reducible refine gate_callee (f := 138) rfl ?_); refine goesL_ (some 8) rfl rfl Try.func138 (by kernel_rfl) rfl #[.agg #[.bool a0_0, .slice A0_1 l0_1.length c0_1, .slice A0_2 l0_2.length c0_2]] rfl lx ?_; (with_reducible refine (gradineref07_Zero.calls a0_0 _ _ l0_1 _ _ l0_2 true _ ?side1 ?side2 ?side3 ?side4 A2.out).mono ?_); (case side1 => exact cs (Kd.C_below HR0_1.out HB.out)); (case side2 => exact HC0_1.out); (case side3 => exact cs (Kd.C_below HR0_2.out HB.out)); (case side4 => exact HC0_2.out); rintro e w6 ⟨rfl, hb⟩; refine ⟨_, rfl, ?_⟩; refine sw2 ⟨blk_below (bk BK1636.out) hb⟩ ⟨below_step hbb hb⟩ ?_; clear BK1636 HB; intro BK1636 HB))
  go_ret
  exact ⟨er, hbb⟩
 ·replace c3 := Bool.eq_false_iff.mpr c3
  subst c3
  have H1 : ((gradineref02_Bits.f k l0_1).bind fun t1638 => ((gradineref02_Bits.f k l0_2).bind fun t1639 => (if (wrap64 (t1638 - t1639)) > 1100 then ((gradineref09_Inf.f a0_0).bind fun t1640 => (some t1640)) else (if (wrap64 (t1638 - t1639)) < (-1200) then ((gradineref09_Signed.f a0_0 0).bind fun t1641 => (some t1641)) else ((gradineref02_Shl.f k l0_1 (mx 0 (wrap64 (64 - (wrap64 (t1638 - t1639)))))).bind fun t1642 => ((gradineref04_Div.f k t1642 l0_2).bind fun bt1645 => ((gradineref10_More.f k a0_0 bt1645.1 (wrap64 (-(mx 0 (wrap64 (64 - (wrap64 (t1638 - t1639))))))) (decide ((bt1645.2.length : Int) > 0))).bind fun t1651 => (some t1651)))))))) = some r := by rw [if_neg (show ¬ (false = true) by decide)] at H; exact H
  clear H
  have H := H1
  clear H1
  replace H := Option.bind_eq_some_iff.mp H
  obtain ⟨t1638, A70, H⟩ := H
  replace H : ((gradineref02_Bits.f k l0_2).bind fun t1639 => (if (wrap64 (t1638 - t1639)) > 1100 then ((gradineref09_Inf.f a0_0).bind fun t1640 => (some t1640)) else (if (wrap64 (t1638 - t1639)) < (-1200) then ((gradineref09_Signed.f a0_0 0).bind fun t1641 => (some t1641)) else ((gradineref02_Shl.f k l0_1 (mx 0 (wrap64 (64 - (wrap64 (t1638 - t1639)))))).bind fun t1642 => ((gradineref04_Div.f k t1642 l0_2).bind fun bt1645 => ((gradineref10_More.f k a0_0 bt1645.1 (wrap64 (-(mx 0 (wrap64 (64 - (wrap64 (t1638 - t1639))))))) (decide ((bt1645.2.length : Int) > 0))).bind fun t1651 => (some t1651))))))) = some r := H
  try rw [show decide ((t1646.length : Int) > 0) = decide (0 < t1646.length) from by simp] at A70
  have A7 := Aside0.mk A70
  clear A70
  replace H := Option.bind_eq_some_iff.mp H
  obtain ⟨t1639, A80, H⟩ := H
  replace H : (if (wrap64 (t1638 - t1639)) > 1100 then ((gradineref09_Inf.f a0_0).bind fun t1640 => (some t1640)) else (if (wrap64 (t1638 - t1639)) < (-1200) then ((gradineref09_Signed.f a0_0 0).bind fun t1641 => (some t1641)) else ((gradineref02_Shl.f k l0_1 (mx 0 (wrap64 (64 - (wrap64 (t1638 - t1639)))))).bind fun t1642 => ((gradineref04_Div.f k t1642 l0_2).bind fun bt1645 => ((gradineref10_More.f k a0_0 bt1645.1 (wrap64 (-(mx 0 (wrap64 (64 - (wrap64 (t1638 - t1639))))))) (decide ((bt1645.2.length : Int) > 0))).bind fun t1651 => (some t1651)))))) = some r := H
  try rw [show decide ((t1646.length : Int) > 0) = decide (0 < t1646.length) from by simp] at A80
  have A8 := Aside0.mk A80
  clear A80
  by_cases c9 : (wrap64 (t1638 - t1639)) > 1100
  ·rw [if_pos c9] at H
   have c9b0 : decide (1100 < (wrap64 (t1638 - t1639))) = true := decide_eq_true c9
   clear c9
   replace H := Option.bind_eq_some_iff.mp H
   obtain ⟨t1640, A100, H⟩ := H
   replace H : (some t1640) = some r := H
   try rw [show decide ((t1646.length : Int) > 0) = decide (0 < t1646.length) from by simp] at A100
   have A10 := Aside0.mk A100
   clear A100
   obtain rfl := Option.some.inj H
   go_enter Try.func84, Try.ntmps84
   try go_wp2_with (first | ((with_reducible refine gate_dst (N := 1) rfl ?_); refine box_event ?hg (N := 1) ?hd (cs := #[.bool a0_0, .slice A0_1 l0_1.length c0_1, .slice A0_2 l0_2.length c0_2]) (t := 32) ?hr ?_; (case hd => rfl); (case hg => rfl); (case hr => first | (go_simp; done) | (go_simp; rfl)); intro gb1636 hg w11 hbox hb; refine sw4 ⟨below_step hbb hb⟩ ⟨hbox⟩ ⟨gsz hg hbb⟩ ⟨gsz hg hbb⟩ ?_; clear HB; intro HB BK1636 GW1636 GE1636; clear hb hbox hg; obtain ⟨hcz12_0, hcz12_1, hcz12_2, hfz12_0, hfz12_1, hfz12_2⟩ := cz3 BK1636) | ((with_reducible refine gate_callee (f := 138) rfl ?_); refine goesL_ (some 8) rfl rfl Try.func138 (by kernel_rfl) rfl #[.agg #[.bool a0_0, .slice A0_1 l0_1.length c0_1, .slice A0_2 l0_2.length c0_2]] rfl lx ?_; (with_reducible refine (gradineref07_Zero.calls a0_0 _ _ l0_1 _ _ l0_2 false _ ?side1 ?side2 ?side3 ?side4 A2.out).mono ?_); (case side1 => exact cs (Kd.C_below HR0_1.out HB.out)); (case side2 => exact HC0_1.out); (case side3 => exact cs (Kd.C_below HR0_2.out HB.out)); (case side4 => exact HC0_2.out); rintro e w13 ⟨rfl, hb⟩; refine ⟨_, rfl, ?_⟩; refine sw2 ⟨blk_below (bk BK1636.out) hb⟩ ⟨below_step hbb hb⟩ ?_; clear BK1636 HB; intro BK1636 HB))
   refine sw2 ⟨blk_drew BK1636.out⟩ ⟨below_drew1 HB.out⟩ ?_
   clear BK1636 HB
   intro BK1636 HB
   refine start_ (n := 8) (S := fun w' => w'.cell? ⟨gb1636, 0, none⟩ = some (.bool a0_0) ∧ w'.cell? ⟨gb1636, 1, none⟩ = some (.slice A0_1 l0_1.length c0_1) ∧ w'.cell? ⟨gb1636, 2, none⟩ = some (.slice A0_2 l0_2.length c0_2)) (ds := []) #[false, false, false, false, false, false, false, false] (by kernel_rfl) rfl rfl ⟨(blk_cell BK1636.out 0).trans rfl, (blk_cell BK1636.out 1).trans rfl, (blk_cell BK1636.out 2).trans rfl⟩ (fun hHeld => ?_); refine with_tabW gradineref10_FromRat.tab3 gradineref10_FromRat.bits3 (fun HT_ HW_ => ?_)
   generalize w13.drew = w14 at BK1636 HB hHeld ⊢
   refine pu 0 (some 9) HT_ ?_
   refine pu 3 (some 12) HT_ ?_
   refine ta 1 (some 10) HT_ HW_ hHeld ?_
   refine ta 4 (some 13) HT_ HW_ hHeld ?_
   refine on 2 (some 11) HT_ (fun K hK => ?_)
   refine goes_ Try.func101 (by kernel_rfl) rfl #[.slice A0_1 l0_1.length c0_1] (by rfl) rfl rfl lx ?_
   with_reducible refine (gradineref02_Bits.calls k _ _ l0_1 t1638 _ ?side1 ?side2 A7.out).mono ?_
   (case side1 => exact cs (Kd.C_below HR0_1.out HB.out))
   (case side2 => exact HC0_1.out)
   rintro e w' ⟨rfl, ⟨nd, rfl⟩⟩
   refine ⟨_, rfl, ?_⟩
   refine hK.out _ _ ⟨(blk_cell BK1636.out 0).trans rfl, (blk_cell BK1636.out 1).trans rfl, (blk_cell BK1636.out 2).trans rfl⟩ (fun hHeld => ?_)
   clear hK K
   refine nm ?_
   refine on 5 (some 14) HT_ (fun K hK => ?_)
   refine goes_ Try.func101 (by kernel_rfl) rfl #[.slice A0_2 l0_2.length c0_2] (by rfl) rfl rfl lx ?_
   with_reducible refine (gradineref02_Bits.calls k _ _ l0_2 t1639 _ ?side1 ?side2 A8.out).mono ?_
   (case side1 => exact cs (Kd.C_below HR0_2.out hbb))
   (case side2 => exact HC0_2.out)
   rintro e w' ⟨rfl, ⟨nd, rfl⟩⟩
   refine ⟨_, rfl, ?_⟩
   refine hK.out _ _ ⟨(blk_cell BK1636.out 0).trans rfl, (blk_cell BK1636.out 1).trans rfl, (blk_cell BK1636.out 2).trans rfl⟩ (fun hHeld => ?_)
   clear hK K
   refine nm ?_
   refine pu 6 (some 15) HT_ ?_
   refine pu 7 (some 3) HT_ ?_
   refine done_ (done_of HT_.out (by kernel_rfl)) ?_
   obtain ⟨hcz15_0, hcz15_1, hcz15_2, hfz15_0, hfz15_1, hfz15_2⟩ := cz3 BK1636
   try go_wp2_with (first | ((with_reducible refine gate_callee (f := 35) rfl ?_); refine goesL_ (some 20) rfl rfl Try.func35 (by kernel_rfl) rfl #[.bool a0_0] rfl lx ?_; (with_reducible refine (gradineref09_Inf.calls a0_0 t1640 _ A10.out).mono ?_); rintro e w' ⟨rfl, ⟨nd, rfl⟩⟩; refine ⟨_, rfl, ?_⟩))
   go_ret
   exact ⟨er, hbb⟩
  ·rw [if_neg c9] at H
   have c9b0 : decide (1100 < (wrap64 (t1638 - t1639))) = false := decide_eq_false c9
   clear c9
   by_cases c16 : (wrap64 (t1638 - t1639)) < (-1200)
   ·rw [if_pos c16] at H
    have c16b0 : decide ((wrap64 (t1638 - t1639)) < (-1200)) = true := decide_eq_true c16
    clear c16
    replace H := Option.bind_eq_some_iff.mp H
    obtain ⟨t1641, A170, H⟩ := H
    replace H : (some t1641) = some r := H
    try rw [show decide ((t1646.length : Int) > 0) = decide (0 < t1646.length) from by simp] at A170
    have A17 := Aside0.mk A170
    clear A170
    obtain rfl := Option.some.inj H
    go_enter Try.func84, Try.ntmps84
    try go_wp2_with (first | ((with_reducible refine gate_dst (N := 1) rfl ?_); refine box_event ?hg (N := 1) ?hd (cs := #[.bool a0_0, .slice A0_1 l0_1.length c0_1, .slice A0_2 l0_2.length c0_2]) (t := 32) ?hr ?_; (case hd => rfl); (case hg => rfl); (case hr => first | (go_simp; done) | (go_simp; rfl)); intro gb1636 hg w18 hbox hb; refine sw4 ⟨below_step hbb hb⟩ ⟨hbox⟩ ⟨gsz hg hbb⟩ ⟨gsz hg hbb⟩ ?_; clear HB; intro HB BK1636 GW1636 GE1636; clear hb hbox hg; obtain ⟨hcz19_0, hcz19_1, hcz19_2, hfz19_0, hfz19_1, hfz19_2⟩ := cz3 BK1636) | ((with_reducible refine gate_callee (f := 138) rfl ?_); refine goesL_ (some 8) rfl rfl Try.func138 (by kernel_rfl) rfl #[.agg #[.bool a0_0, .slice A0_1 l0_1.length c0_1, .slice A0_2 l0_2.length c0_2]] rfl lx ?_; (with_reducible refine (gradineref07_Zero.calls a0_0 _ _ l0_1 _ _ l0_2 false _ ?side1 ?side2 ?side3 ?side4 A2.out).mono ?_); (case side1 => exact cs (Kd.C_below HR0_1.out HB.out)); (case side2 => exact HC0_1.out); (case side3 => exact cs (Kd.C_below HR0_2.out HB.out)); (case side4 => exact HC0_2.out); rintro e w20 ⟨rfl, hb⟩; refine ⟨_, rfl, ?_⟩; refine sw2 ⟨blk_below (bk BK1636.out) hb⟩ ⟨below_step hbb hb⟩ ?_; clear BK1636 HB; intro BK1636 HB))
    refine sw2 ⟨blk_drew BK1636.out⟩ ⟨below_drew1 HB.out⟩ ?_
    clear BK1636 HB
    intro BK1636 HB
    refine start_ (n := 8) (S := fun w' => w'.cell? ⟨gb1636, 0, none⟩ = some (.bool a0_0) ∧ w'.cell? ⟨gb1636, 1, none⟩ = some (.slice A0_1 l0_1.length c0_1) ∧ w'.cell? ⟨gb1636, 2, none⟩ = some (.slice A0_2 l0_2.length c0_2)) (ds := []) #[false, false, false, false, false, false, false, false] (by kernel_rfl) rfl rfl ⟨(blk_cell BK1636.out 0).trans rfl, (blk_cell BK1636.out 1).trans rfl, (blk_cell BK1636.out 2).trans rfl⟩ (fun hHeld => ?_); refine with_tabW gradineref10_FromRat.tab3 gradineref10_FromRat.bits3 (fun HT_ HW_ => ?_)
    generalize w20.drew = w21 at BK1636 HB hHeld ⊢
    refine pu 0 (some 9) HT_ ?_
    refine pu 3 (some 12) HT_ ?_
    refine ta 1 (some 10) HT_ HW_ hHeld ?_
    refine ta 4 (some 13) HT_ HW_ hHeld ?_
    refine on 2 (some 11) HT_ (fun K hK => ?_)
    refine goes_ Try.func101 (by kernel_rfl) rfl #[.slice A0_1 l0_1.length c0_1] (by rfl) rfl rfl lx ?_
    with_reducible refine (gradineref02_Bits.calls k _ _ l0_1 t1638 _ ?side1 ?side2 A7.out).mono ?_
    (case side1 => exact cs (Kd.C_below HR0_1.out HB.out))
    (case side2 => exact HC0_1.out)
    rintro e w' ⟨rfl, ⟨nd, rfl⟩⟩
    refine ⟨_, rfl, ?_⟩
    refine hK.out _ _ ⟨(blk_cell BK1636.out 0).trans rfl, (blk_cell BK1636.out 1).trans rfl, (blk_cell BK1636.out 2).trans rfl⟩ (fun hHeld => ?_)
    clear hK K
    refine nm ?_
    refine on 5 (some 14) HT_ (fun K hK => ?_)
    refine goes_ Try.func101 (by kernel_rfl) rfl #[.slice A0_2 l0_2.length c0_2] (by rfl) rfl rfl lx ?_
    with_reducible refine (gradineref02_Bits.calls k _ _ l0_2 t1639 _ ?side1 ?side2 A8.out).mono ?_
    (case side1 => exact cs (Kd.C_below HR0_2.out hbb))
    (case side2 => exact HC0_2.out)
    rintro e w' ⟨rfl, ⟨nd, rfl⟩⟩
    refine ⟨_, rfl, ?_⟩
    refine hK.out _ _ ⟨(blk_cell BK1636.out 0).trans rfl, (blk_cell BK1636.out 1).trans rfl, (blk_cell BK1636.out 2).trans rfl⟩ (fun hHeld => ?_)
    clear hK K
    refine nm ?_
    refine pu 6 (some 15) HT_ ?_
    refine pu 7 (some 3) HT_ ?_
    refine done_ (done_of HT_.out (by kernel_rfl)) ?_
    obtain ⟨hcz22_0, hcz22_1, hcz22_2, hfz22_0, hfz22_1, hfz22_2⟩ := cz3 BK1636
    try go_wp2_with (first | ((with_reducible refine gate_callee (f := 91) rfl ?_); refine goesL_ (some 25) rfl rfl Try.func91 (by kernel_rfl) rfl #[.bool a0_0, .int .u64 0] rfl lx ?_; (with_reducible refine (gradineref09_Signed.calls a0_0 0 t1641 _ A17.out).mono ?_); rintro e w' ⟨rfl, ⟨nd, rfl⟩⟩; refine ⟨_, rfl, ?_⟩))
    go_ret
    exact ⟨er, hbb⟩
   ·rw [if_neg c16] at H
    have c16b0 : decide ((wrap64 (t1638 - t1639)) < (-1200)) = false := decide_eq_false c16
    clear c16
    obtain ⟨ji23, hji23⟩ : ∃ j_ : Int, (mx 0 (wrap64 (64 - (wrap64 (t1638 - t1639))))) = j_ := ⟨_, rfl⟩
    replace H : ((gradineref02_Shl.f k l0_1 (ji23)).bind fun t1642 => ((gradineref04_Div.f k t1642 l0_2).bind fun bt1645 => ((gradineref10_More.f k a0_0 bt1645.1 (wrap64 (-(ji23))) (decide ((bt1645.2.length : Int) > 0))).bind fun t1651 => (some t1651)))) = some r := by first | (rw [hji23] at H; exact H) | (simp only [hji23] at H ⊢; exact H)
    (try rw [hji23] at A2)
    (try rw [hji23] at A7)
    (try rw [hji23] at A8)
    (try (have hji23l : 0 ≤ ji23 := by (rw [← hji23]; unfold mx; (repeat' split) <;> omega)))
    (try (have hji23m : 0 ≤ ji23 := by omega))
    (try (have hji23t : ∀ m_ : Int, Int.tdiv ji23 m_ = ji23 / m_ := fun m_ => Int.tdiv_eq_ediv_of_nonneg (by omega)))
    have hji23_ : (if 0 < (wrap64 (64 - (wrap64 (t1638 - t1639)))) then (wrap64 (64 - (wrap64 (t1638 - t1639)))) else 0) = ji23 := hji23
    replace H := Option.bind_eq_some_iff.mp H
    obtain ⟨t1642, A240, H⟩ := H
    replace H : ((gradineref04_Div.f k t1642 l0_2).bind fun bt1645 => ((gradineref10_More.f k a0_0 bt1645.1 (wrap64 (-(ji23))) (decide ((bt1645.2.length : Int) > 0))).bind fun t1651 => (some t1651))) = some r := H
    try rw [show decide ((t1646.length : Int) > 0) = decide (0 < t1646.length) from by simp] at A240
    have A24 := Aside0.mk A240
    clear A240
    replace H := Option.bind_eq_some_iff.mp H
    obtain ⟨⟨t1645, t1646⟩, A250, H⟩ := H
    replace H : ((gradineref10_More.f k a0_0 t1645 (wrap64 (-(ji23))) (decide ((t1646.length : Int) > 0))).bind fun t1651 => (some t1651)) = some r := H
    try rw [show decide ((t1646.length : Int) > 0) = decide (0 < t1646.length) from by simp] at A250
    have A25 := Aside0.mk A250
    clear A250
    replace H := Option.bind_eq_some_iff.mp H
    obtain ⟨t1651, A260, H⟩ := H
    replace H : (some t1651) = some r := H
    try rw [show decide ((t1646.length : Int) > 0) = decide (0 < t1646.length) from by simp] at A260
    have A26 := Aside0.mk A260
    clear A260
    obtain rfl := Option.some.inj H
    go_enter Try.func84, Try.ntmps84
    try go_wp2_with (first | ((with_reducible refine gate_dst (N := 1) rfl ?_); refine box_event ?hg (N := 1) ?hd (cs := #[.bool a0_0, .slice A0_1 l0_1.length c0_1, .slice A0_2 l0_2.length c0_2]) (t := 32) ?hr ?_; (case hd => rfl); (case hg => rfl); (case hr => first | (go_simp; done) | (go_simp; rfl)); intro gb1636 hg w27 hbox hb; refine sw4 ⟨below_step hbb hb⟩ ⟨hbox⟩ ⟨gsz hg hbb⟩ ⟨gsz hg hbb⟩ ?_; clear HB; intro HB BK1636 GW1636 GE1636; clear hb hbox hg; obtain ⟨hcz28_0, hcz28_1, hcz28_2, hfz28_0, hfz28_1, hfz28_2⟩ := cz3 BK1636) | ((with_reducible refine gate_callee (f := 138) rfl ?_); refine goesL_ (some 8) rfl rfl Try.func138 (by kernel_rfl) rfl #[.agg #[.bool a0_0, .slice A0_1 l0_1.length c0_1, .slice A0_2 l0_2.length c0_2]] rfl lx ?_; (with_reducible refine (gradineref07_Zero.calls a0_0 _ _ l0_1 _ _ l0_2 false _ ?side1 ?side2 ?side3 ?side4 A2.out).mono ?_); (case side1 => exact cs (Kd.C_below HR0_1.out HB.out)); (case side2 => exact HC0_1.out); (case side3 => exact cs (Kd.C_below HR0_2.out HB.out)); (case side4 => exact HC0_2.out); rintro e w29 ⟨rfl, hb⟩; refine ⟨_, rfl, ?_⟩; refine sw2 ⟨blk_below (bk BK1636.out) hb⟩ ⟨below_step hbb hb⟩ ?_; clear BK1636 HB; intro BK1636 HB))
    refine sw2 ⟨blk_drew BK1636.out⟩ ⟨below_drew1 HB.out⟩ ?_
    clear BK1636 HB
    intro BK1636 HB
    refine start_ (n := 8) (S := fun w' => w'.cell? ⟨gb1636, 0, none⟩ = some (.bool a0_0) ∧ w'.cell? ⟨gb1636, 1, none⟩ = some (.slice A0_1 l0_1.length c0_1) ∧ w'.cell? ⟨gb1636, 2, none⟩ = some (.slice A0_2 l0_2.length c0_2)) (ds := []) #[false, false, false, false, false, false, false, false] (by kernel_rfl) rfl rfl ⟨(blk_cell BK1636.out 0).trans rfl, (blk_cell BK1636.out 1).trans rfl, (blk_cell BK1636.out 2).trans rfl⟩ (fun hHeld => ?_); refine with_tabW gradineref10_FromRat.tab3 gradineref10_FromRat.bits3 (fun HT_ HW_ => ?_)
    generalize w29.drew = w30 at BK1636 HB hHeld ⊢
    refine pu 0 (some 9) HT_ ?_
    refine pu 3 (some 12) HT_ ?_
    refine ta 1 (some 10) HT_ HW_ hHeld ?_
    refine ta 4 (some 13) HT_ HW_ hHeld ?_
    refine on 2 (some 11) HT_ (fun K hK => ?_)
    refine goes_ Try.func101 (by kernel_rfl) rfl #[.slice A0_1 l0_1.length c0_1] (by rfl) rfl rfl lx ?_
    with_reducible refine (gradineref02_Bits.calls k _ _ l0_1 t1638 _ ?side1 ?side2 A7.out).mono ?_
    (case side1 => exact cs (Kd.C_below HR0_1.out HB.out))
    (case side2 => exact HC0_1.out)
    rintro e w' ⟨rfl, ⟨nd, rfl⟩⟩
    refine ⟨_, rfl, ?_⟩
    refine hK.out _ _ ⟨(blk_cell BK1636.out 0).trans rfl, (blk_cell BK1636.out 1).trans rfl, (blk_cell BK1636.out 2).trans rfl⟩ (fun hHeld => ?_)
    clear hK K
    refine nm ?_
    refine on 5 (some 14) HT_ (fun K hK => ?_)
    refine goes_ Try.func101 (by kernel_rfl) rfl #[.slice A0_2 l0_2.length c0_2] (by rfl) rfl rfl lx ?_
    with_reducible refine (gradineref02_Bits.calls k _ _ l0_2 t1639 _ ?side1 ?side2 A8.out).mono ?_
    (case side1 => exact cs (Kd.C_below HR0_2.out hbb))
    (case side2 => exact HC0_2.out)
    rintro e w' ⟨rfl, ⟨nd, rfl⟩⟩
    refine ⟨_, rfl, ?_⟩
    refine hK.out _ _ ⟨(blk_cell BK1636.out 0).trans rfl, (blk_cell BK1636.out 1).trans rfl, (blk_cell BK1636.out 2).trans rfl⟩ (fun hHeld => ?_)
    clear hK K
    refine nm ?_
    refine pu 6 (some 15) HT_ ?_
    refine pu 7 (some 3) HT_ ?_
    refine done_ (done_of HT_.out (by kernel_rfl)) ?_
    try go_wp2
    (try (rw [drewN_self w30]; generalize hq_ : World.drewN w30 _ = w30; have n0_ : Aside0 (w30.heap[gb1636]? = some (.cells #[.bool a0_0, .slice A0_1 l0_1.length c0_1, .slice A0_2 l0_2.length c0_2] 32 (0, 0))) := ⟨by rw [← hq_]; exact (bk BK1636.out)⟩; have n1_ : Aside0 (Below w.heap.size w w30) := ⟨by rw [← hq_]; exact hbb⟩; clear BK1636 HB hq_; have BK1636 := n0_; have HB := n1_; clear n0_ n1_))
    refine sw2 ⟨blk_drew BK1636.out⟩ ⟨below_drew1 HB.out⟩ ?_
    clear BK1636 HB
    intro BK1636 HB
    refine start_ (n := 12) (S := fun w' => w'.cell? ⟨gb1636, 0, none⟩ = some (.bool a0_0) ∧ w'.cell? ⟨gb1636, 1, none⟩ = some (.slice A0_1 l0_1.length c0_1) ∧ w'.cell? ⟨gb1636, 2, none⟩ = some (.slice A0_2 l0_2.length c0_2)) (ds := []) #[false, false, false, false, false, false, false, false, false, false, false, false] (by kernel_rfl) rfl rfl ⟨(blk_cell BK1636.out 0).trans rfl, (blk_cell BK1636.out 1).trans rfl, (blk_cell BK1636.out 2).trans rfl⟩ (fun hHeld => ?_); refine with_tabW gradineref10_FromRat.tab9 gradineref10_FromRat.bits9 (fun HT_ HW_ => ?_)
    generalize w30.drew = w31 at BK1636 HB hHeld ⊢
    refine pu 0 (some 30) HT_ ?_
    refine pu 2 (some 32) HT_ ?_
    refine pu 4 (some 34) HT_ ?_
    refine ta 1 (some 31) HT_ HW_ hHeld ?_
    refine ta 5 (some 35) HT_ HW_ hHeld ?_
    refine on 3 (some 33) HT_ (fun K hK => ?_)
    refine goes_ Try.func90 (by kernel_rfl) rfl #[.slice A0_1 l0_1.length c0_1, .int .i64 ji23] (by rfl) rfl rfl (by (try simp only [List.map_toArray, List.map_cons, List.map_nil]); first | done | (simp only [hji23]; rfl) | rfl | (simp only [List.length_drop, List.length_take]; rfl) | (simp only [*]; done)) ?_
    with_reducible refine (gradineref02_Shl.calls k _ _ l0_1 ji23 t1642 _ ?side1 ?side2 A24.out).mono ?_
    (case side1 => exact cs (Kd.C_below HR0_1.out HB.out))
    (case side2 => exact HC0_1.out)
    rintro e w32 ⟨v1643, rfl, ho0, hb⟩
    refine ⟨_, rfl, ?_⟩
    refine sw3 ⟨Kd.R_lower ho0 (below_size hbb)⟩ ⟨blk_below (bk BK1636.out) hb⟩ ⟨below_step hbb hb⟩ ?_
    clear BK1636 HB
    intro HO1644 BK1636 HB
    obtain ⟨Ao33, co33, eo33⟩ := Kd.R_slice HO1644.out
    (first | subst eo33 | (injection eo33 with f1_ f2_ f3_; have f4_ := f1_.symm; have f5_ := f3_.symm; clear f1_ f2_ f3_; subst f4_; subst f5_))
    refine hK.out _ _ ⟨(blk_cell BK1636.out 0).trans rfl, (blk_cell BK1636.out 1).trans rfl, (blk_cell BK1636.out 2).trans rfl⟩ (fun hHeld => ?_)
    clear hK K
    refine nm ?_
    refine on 6 (some 36) HT_ (fun K hK => ?_)
    refine goes_ Try.func139 (by kernel_rfl) rfl #[.slice Ao33 t1642.length co33, .slice A0_2 l0_2.length c0_2] (by rfl) rfl rfl lx ?_
    with_reducible refine (gradineref04_Div.calls k _ _ t1642 _ _ l0_2 t1645 t1646 _ ?side1 ?side2 ?side3 ?side4 A25.out).mono ?_
    (case side1 => exact cs (Kd.R_reads' HO1644.out).2.2)
    (case side2 => exact (Kd.R_reads' HO1644.out).2.1)
    (case side3 => exact cs (Kd.C_below HR0_2.out HB.out))
    (case side4 => exact HC0_2.out)
    rintro e w34 ⟨v1647, v1649, rfl, ho0, ho1, hb⟩
    refine ⟨_, rfl, ?_⟩
    refine sw5 ⟨Kd.R_mono (Kd.R_told (Kd.R_told (Kd.R_old (st HO1644.out) hb) (Kd.R_base ho0)) (Kd.R_base ho1)) (fun _ h_ => h_.1)⟩ ⟨Kd.R_lower (Kd.R_new' ho0 (Kd.R_lt (st HO1644.out))) (below_size hbb)⟩ ⟨Kd.R_lower (Kd.R_new' ho1 (Kd.R_lt (st HO1644.out))) (below_size hbb)⟩ ⟨blk_below (bk BK1636.out) hb⟩ ⟨below_step hbb hb⟩ ?_
    clear HO1644 BK1636 HB
    intro HO1644 HO1648 HO1650 BK1636 HB
    refine hK.out _ _ ⟨(blk_cell BK1636.out 0).trans rfl, (blk_cell BK1636.out 1).trans rfl, (blk_cell BK1636.out 2).trans rfl⟩ (fun hHeld => ?_)
    clear hK K
    refine nm ?_
    refine pu 7 (some 29) HT_ ?_
    refine pu 8 (some 37) HT_ ?_
    refine pu 9 (some 38) HT_ ?_
    refine pu 10 (some 5) HT_ ?_
    refine pu 11 (some 6) HT_ ?_
    refine done_ (done_of HT_.out (by kernel_rfl)) ?_
    obtain ⟨hcz35_0, hcz35_1, hcz35_2, hfz35_0, hfz35_1, hfz35_2⟩ := cz3 BK1636
    obtain ⟨Ao36, co36, eo36⟩ := Kd.R_slice HO1650.out
    subst eo36
    obtain ⟨Ao37, co37, eo37⟩ := Kd.R_slice HO1648.out
    subst eo37
    try go_wp2_with (first | ((with_reducible refine gate_callee (f := 37) rfl ?_); refine goesL_ (some 47) rfl rfl Try.func37 (by kernel_rfl) rfl #[.bool a0_0, .slice Ao37 t1645.length co37, .int .i64 (wrap64 (-(ji23))), .bool (decide (0 < t1646.length))] rfl (by (try simp only [List.map_toArray, List.map_cons, List.map_nil]); first | done | (simp only [hji23]; rfl) | rfl | (simp only [List.length_drop, List.length_take]; rfl) | (simp only [*]; done)) ?_; (with_reducible refine (gradineref10_More.calls k a0_0 _ _ t1645 (wrap64 (-(ji23))) (decide (0 < t1646.length)) t1651 _ ?side1 ?side2 A26.out).mono ?_); (case side1 => exact cs (Kd.R_reads' HO1648.out).2.2); (case side2 => exact (Kd.R_reads' HO1648.out).2.1); rintro e w38 ⟨rfl, hb⟩; refine ⟨_, rfl, ?_⟩; refine sw5 ⟨Kd.R_below (st HO1644.out) hb⟩ ⟨Kd.R_below (st HO1648.out) hb⟩ ⟨Kd.R_below (st HO1650.out) hb⟩ ⟨blk_below (bk BK1636.out) hb⟩ ⟨below_step hbb hb⟩ ?_; clear HO1644 HO1648 HO1650 BK1636 HB; intro HO1644 HO1648 HO1650 BK1636 HB))
    go_ret
    exact ⟨by first | rfl | (simp [errW_none, errW_some] <;> rfl) | (simp only [← hji23]; first | rfl | (simp [errW_none, errW_some] <;> rfl)) | (simp [*, errW_none, errW_some] <;> rfl), hbb⟩

end Go.Proofs.Ytbpggonjcnakgaa.P
