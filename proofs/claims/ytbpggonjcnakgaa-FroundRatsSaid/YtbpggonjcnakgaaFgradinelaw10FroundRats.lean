/- Functions of the seat as Lean functions, and walks: written by a program for this claim. -/
import Derived.Test.YtbpggonjcnakgaaFbase
import Derived.Test.YtbpggonjcnakgaaBgradineref09
import Derived.Test.YtbpggonjcnakgaaBgradineref10
import Derived.Test.YtbpggonjcnakgaaFgradinelaw10same
import Derived.Test.YtbpggonjcnakgaaBgradineref07
import Derived.Test.YtbpggonjcnakgaaFgradinelaw10right
import Derived.Test.YtbpggonjcnakgaaBfround
namespace Go.Proofs.Ytbpggonjcnakgaa.P
open Go.RowKit Go.Proofs.YtbpggonjcnakgaaW.PrintWords Go.Proofs.YtbpggonjcnakgaaW.PrintLast Go.Proofs.YtbpggonjcnakgaaW.PrintMore
attribute [local go_sem] max2_int min2_int max_two min_two max_three min_three max_four min_four   -- for this text's walks alone
set_option linter.unusedVariables false
set_option linter.unusedSimpArgs false

mutual
def gradinelaw10_FroundRats.j0 : Nat → Bool → Bool → List Int → List Int → Option (Bool)
 | 0, _, _, _, _ => none
 | k + 1, x35, x1653000, x1653001, x1653002 => if x35 = true then (some false) else ((fround_FromRat.f k x1653000 x1653001 x1653002).bind fun t1673 => ((gradineref10_FromRat.f k x1653000 x1653001 x1653002).bind fun t1674 => (if t1673 = t1674 then ((gradinelaw10_same.f k).bind fun t1675 => (some t1675)) else (some false))))
def gradinelaw10_FroundRats.j1 : Nat → Bool → Bool → List Int → List Int → Option (Bool)
 | 0, _, _, _, _ => none
 | k + 1, x26, x1653000, x1653001, x1653002 => if x26 = true then (some false) else ((fround_FromRat.f k x1653000 x1653001 x1653002).bind fun t1677 => ((gradineref10_FromRat.f k x1653000 x1653001 x1653002).bind fun t1678 => (if t1677 = t1678 then ((gradinelaw10_same.f k).bind fun t1679 => (some t1679)) else (some false))))
end
def gradinelaw10_FroundRats.f (k : Nat) (a0_0 : Bool) (l0_1 : List Int) (l0_2 : List Int) (a1 : Int) : Option (Bool) := (gradinelaw10_right.f k a0_0 l0_1 l0_2).bind fun t1653 => (if t1653 = true then ((fround_ToRat.f k a1).bind fun bt1655 => ((gradineref09_Finite.f a1).bind fun t1664 => (if t1664 = true then (if bt1655.2.2.2 = 0 then ((gradineref10_ToRat.f k a1).bind fun bt1665 => ((gradineref07_Same.f k bt1655.1 bt1655.2.1 bt1655.2.2.1 bt1665.1 bt1665.2.1 bt1665.2.2).bind fun t1672 => (gradinelaw10_FroundRats.j0 k (!t1672) a0_0 l0_1 l0_2))) else (gradinelaw10_FroundRats.j0 k true a0_0 l0_1 l0_2)) else (if bt1655.2.2.2 = 1 then ((gradineref07_Same.f k bt1655.1 bt1655.2.1 bt1655.2.2.1 false ([] : List Int) ([] : List Int)).bind fun t1676 => (gradinelaw10_FroundRats.j1 k (!t1676) a0_0 l0_1 l0_2)) else (gradinelaw10_FroundRats.j1 k true a0_0 l0_1 l0_2))))) else ((gradinelaw10_same.f k).bind fun t1654 => (some t1654)))
def gradinelaw10_FroundRats.T7 : Bool × List (List Nat × List Nat) := (true, [([], []), ([0], [0]), ([1], [1]), ([2], [2]), ([2], [2]), ([4, 2, 2], [2, 4]), ([3, 5, 5, 2], [2, 3, 5]), ([6, 2], [2, 6]), ([2, 7], [2, 7])])
def gradinelaw10_FroundRats.B7 : List Nat := [0, 1, 3, 7, 7, 23, 63, 127, 255]
theorem gradinelaw10_FroundRats.tab7 : rtab .any (opsOf Try.f22 7) = gradinelaw10_FroundRats.T7 := by kernel_rfl
theorem gradinelaw10_FroundRats.bits7 : waitsOk gradinelaw10_FroundRats.T7.2 gradinelaw10_FroundRats.B7 = true := by kernel_rfl
def gradinelaw10_FroundRats.T9 : Bool × List (List Nat × List Nat) := (true, [([], []), ([0], [0]), ([], []), ([2, 1], [2]), ([1, 3], [1, 3]), ([4, 3], [4]), ([5, 5], [5]), ([5, 6], [5, 6]), ([7, 6, 0, 1, 2, 3, 4, 5, 6, 7], [7])])
def gradinelaw10_FroundRats.B9 : List Nat := [0, 1, 0, 7, 15, 31, 63, 127, 255]
theorem gradinelaw10_FroundRats.tab9 : rtab .any (opsOf Try.f22 9) = gradinelaw10_FroundRats.T9 := by kernel_rfl
theorem gradinelaw10_FroundRats.bits9 : waitsOk gradinelaw10_FroundRats.T9.2 gradinelaw10_FroundRats.B9 = true := by kernel_rfl
set_option maxHeartbeats 8000000 in
set_option maxRecDepth 100000 in
theorem gradinelaw10_FroundRats.calls (k : Nat) (a0_0 : Bool) (A0_1 : Option Addr) (c0_1 : Nat) (l0_1 : List Int) (A0_2 : Option Addr) (c0_2 : Nat) (l0_2 : List Int) (a1 : Int) (r : Bool) (w : World) (hr0_1 : Kd.C (Kd.int .u64) w A0_1 l0_1.length l0_1) (hc0_1 : l0_1.length ≤ c0_1) (hr0_2 : Kd.C (Kd.int .u64) w A0_2 l0_2.length l0_2) (hc0_2 : l0_2.length ≤ c0_2) (h : gradinelaw10_FroundRats.f k a0_0 l0_1 l0_2 a1 = some r) :
  Calls Try.prog 22 #[.agg #[.bool a0_0, .slice A0_1 l0_1.length c0_1, .slice A0_2 l0_2.length c0_2], .int .u64 a1] w fun e w' => e = .returned (.bool r) ∧ Below w.heap.size w w' := by
 have hu32 := Try.underlying32
 have HR0_1 := Aside0.mk hr0_1
 have HC0_1 := Aside0.mk hc0_1
 clear hr0_1 hc0_1
 have HR0_2 := Aside0.mk hr0_2
 have HC0_2 := Aside0.mk hc0_2
 clear hr0_2 hc0_2
 have HB := Aside0.mk (Below.refl w.heap.size w)
 have H := h
 clear h
 unfold gradinelaw10_FroundRats.f at H
 obtain ⟨t1653, A3, H⟩ := bnd H
 by_cases c4 : t1653 = true
 ·subst c4
  replace H := ift H
  obtain ⟨⟨t1655, t1656, t1659, t1662⟩, A5, H⟩ := bnd H
  dsimp only at H
  obtain ⟨t1664, A6, H⟩ := bnd H
  by_cases c7 : t1664 = true
  ·subst c7
   replace H := ift H
   have HC8 := Aside0.mk H
   clear H
   go_enter Try.func22, Try.ntmps22
   go_upto_region 7 with (first | ((with_reducible refine gate_dst (N := 2) rfl ?_); refine box_event ?hg (N := 2) ?hd (cs := #[.bool a0_0, .slice A0_1 l0_1.length c0_1, .slice A0_2 l0_2.length c0_2]) (t := 32) ?hr ?_; (case hd => rfl); (case hg => rfl); (case hr => first | (go_simp; done) | (go_simp; rfl)); intro gb1652 hg w9 hbox hb; refine sw4 ⟨below_step hbb hb⟩ ⟨hbox⟩ ⟨gsz hg hbb⟩ ⟨gsz hg hbb⟩ ?_; clear HB; intro HB BK1652 GW1652 GE1652; clear hb hbox hg; obtain ⟨hcz10_0, hcz10_1, hcz10_2, hfz10_0, hfz10_1, hfz10_2⟩ := cz3 BK1652) | ((with_reducible refine gate_callee (f := 79) rfl ?_); refine goesL_ (some 8) rfl rfl Try.func79 (by kernel_rfl) rfl #[.agg #[.bool a0_0, .slice A0_1 l0_1.length c0_1, .slice A0_2 l0_2.length c0_2]] rfl lx ?_; (with_reducible refine (gradinelaw10_right.calls k a0_0 _ _ l0_1 _ _ l0_2 true _ ?side1 ?side2 ?side3 ?side4 A3.out).mono ?_); (case side1 => exact cs (Kd.C_below HR0_1.out HB.out)); (case side2 => exact HC0_1.out); (case side3 => exact cs (Kd.C_below HR0_2.out HB.out)); (case side4 => exact HC0_2.out); rintro e w11 ⟨rfl, hb⟩; refine ⟨_, rfl, ?_⟩; refine sw2 ⟨blk_below (bk BK1652.out) hb⟩ ⟨below_step hbb hb⟩ ?_; clear BK1652 HB; intro BK1652 HB) | ((with_reducible refine gate_callee (f := 83) rfl ?_); refine goesL_ (some 13) rfl rfl Try.func83 (by kernel_rfl) rfl #[.int .u64 a1] rfl lx ?_; (with_reducible refine (fround_ToRat.calls k a1 t1655 t1656 t1659 t1662 _ A5.out).mono ?_); rintro e w12 ⟨v1657, v1660, rfl, ho0, ho1, hb⟩; refine ⟨_, rfl, ?_⟩; refine sw4 ⟨Kd.R_lower ho0 (below_size hbb)⟩ ⟨Kd.R_lower ho1 (below_size hbb)⟩ ⟨blk_below (bk BK1652.out) hb⟩ ⟨below_step hbb hb⟩ ?_; clear BK1652 HB; intro HO1658 HO1661 BK1652 HB) | ((with_reducible refine gate_dst (N := 5) rfl ?_); refine box_event ?hg (N := 5) ?hd (cs := #[.bool false, .slice none 0 0, .slice none 0 0]) (t := 32) ?hr ?_; (case hd => rfl); (case hg => rfl); (case hr => first | (go_simp; done) | (go_simp; rfl)); intro gb1663 hg w13 hbox hb; refine sw9 ⟨Kd.R_below (st HO1658.out) hb⟩ ⟨Kd.R_below (st HO1661.out) hb⟩ ⟨blk_below (bk BK1652.out) hb⟩ ⟨below_step hbb hb⟩ ⟨hbox⟩ ⟨gsz hg hbb⟩ ⟨gsz hg hbb⟩ ⟨(by rw [hg]; exact Nat.ne_of_lt (blk_lt (bk BK1652.out)) : gb1652 ≠ gb1663)⟩ ⟨(by rw [hg]; exact Nat.ne_of_gt (blk_lt (bk BK1652.out)) : gb1663 ≠ gb1652)⟩ ?_; clear HO1658 HO1661 BK1652 HB; intro HO1658 HO1661 BK1652 HB BK1663 GW1663 GE1663 NB1652_1663 NB1663_1652; clear hb hbox hg; have hnb14 := NB1663_1652.out; have hnc14 := NB1652_1663.out; obtain ⟨hcz15_0, hcz15_1, hcz15_2, hfz15_0, hfz15_1, hfz15_2⟩ := cz3 BK1663; obtain ⟨Ao16, co16, eo16⟩ := Kd.R_slice HO1658.out; subst eo16; obtain ⟨Ao17, co17, eo17⟩ := Kd.R_slice HO1661.out; subst eo17) | ((with_reducible refine gate_callee (f := 26) rfl ?_); refine goesL_ (some 17) rfl rfl Try.func26 (by kernel_rfl) rfl #[.int .u64 a1] rfl lx ?_; (with_reducible refine (gradineref09_Finite.calls a1 true _ A6.out).mono ?_); rintro e w' ⟨rfl, ⟨nd, rfl⟩⟩; refine ⟨_, rfl, ?_⟩))
   (try simp only [Act.put, List.setIfInBounds_toArray, List.set_cons_zero, List.set_cons_succ])
   go_cut [35] (fun v35 wc => ∃ (kq : Nat) (x35_7 : Bool), v35 = .bool x35_7 ∧ Aside0 (gradinelaw10_FroundRats.j0 kq x35_7 a0_0 l0_1 l0_2 = some r) ∧ Aside0 (kq ≤ k) ∧ Aside0 (Kd.R (Kd.int .u64) 22 wc w.heap.size (fun k_ => some k_ ≠ ((.slice Ao17 t1659.length co17) : Value).ownBlock) (.slice Ao16 t1656.length co16) t1656) ∧ Aside0 (Kd.R (Kd.int .u64) 22 wc w.heap.size (fun k_ => some k_ ≠ ((.slice Ao16 t1656.length co16) : Value).ownBlock) (.slice Ao17 t1659.length co17) t1659) ∧ Aside0 (wc.heap[gb1652]? = some (.cells #[.bool a0_0, (.slice A0_1 l0_1.length c0_1), (.slice A0_2 l0_2.length c0_2)] 32 (0, 0))) ∧ Aside0 (wc.heap[gb1663]? = some (.cells #[.bool t1655, (.slice Ao16 t1656.length co16), (.slice Ao17 t1659.length co17)] 32 (0, 0))) ∧ Aside0 (Below w.heap.size w wc))
   case first =>
    have H := HC8.out
    clear HC8
    by_cases c18 : t1662 = 0
    ·rw [if_pos c18] at H
     have c18b0 : (t1662 == 0) = true := beq_iff_eq.mpr c18
     have c18b1 : (t1662 != 0) = false := bne_eq_false_iff_eq.mpr c18
     clear c18
     (first | rw [c18b0] | (simp only [i64_w, i32_w]; rw [c18b0]) | rw [c18b1] | skip)
     obtain ⟨⟨t1665, t1666, t1669⟩, A19, H⟩ := bnd H
     dsimp only at H
     obtain ⟨t1672, A20, H⟩ := bnd H
     have H' := Aside0.mk H
     clear H
     try go_wp2
     have n0_ : Aside0 (Kd.R (Kd.int .u64) 22 (((w13.setCell ⟨gb1663, 0, none⟩ (.bool t1655)).setCell ⟨gb1663, 1, none⟩ (.slice Ao16 t1656.length co16)).setCell ⟨gb1663, 2, none⟩ (.slice Ao17 t1659.length co17)) w.heap.size (fun k_ => some k_ ≠ (.slice Ao17 t1659.length co17 : Value).ownBlock) (.slice Ao16 t1656.length co16) t1656) := ⟨by (with_reducible repeat (first | apply Kd.R_alloc | apply Kd.R_drewN | apply Kd.R_drew)); exact Kd.R_mono (Kd.R_far (p := ⟨gb1663, 2, none⟩) (Kd.R_far (p := ⟨gb1663, 1, none⟩) (Kd.R_far (p := ⟨gb1663, 0, none⟩) (Kd.R_types HO1658.out BK1663.out (by decide)) (fun _ hk => hk.2) (.bool t1655)) (fun _ hk => hk.2) (.slice Ao16 t1656.length co16)) (fun _ hk => hk.2) (.slice Ao17 t1659.length co17)) (fun _ hk => hk.1)⟩
     have n1_ : Aside0 (Kd.R (Kd.int .u64) 22 (((w13.setCell ⟨gb1663, 0, none⟩ (.bool t1655)).setCell ⟨gb1663, 1, none⟩ (.slice Ao16 t1656.length co16)).setCell ⟨gb1663, 2, none⟩ (.slice Ao17 t1659.length co17)) w.heap.size (fun k_ => some k_ ≠ (.slice Ao16 t1656.length co16 : Value).ownBlock) (.slice Ao17 t1659.length co17) t1659) := ⟨by (with_reducible repeat (first | apply Kd.R_alloc | apply Kd.R_drewN | apply Kd.R_drew)); exact Kd.R_mono (Kd.R_far (p := ⟨gb1663, 2, none⟩) (Kd.R_far (p := ⟨gb1663, 1, none⟩) (Kd.R_far (p := ⟨gb1663, 0, none⟩) (Kd.R_types HO1661.out BK1663.out (by decide)) (fun _ hk => hk.2) (.bool t1655)) (fun _ hk => hk.2) (.slice Ao16 t1656.length co16)) (fun _ hk => hk.2) (.slice Ao17 t1659.length co17)) (fun _ hk => hk.1)⟩
     have n2_ : Aside0 ((((w13.setCell ⟨gb1663, 0, none⟩ (.bool t1655)).setCell ⟨gb1663, 1, none⟩ (.slice Ao16 t1656.length co16)).setCell ⟨gb1663, 2, none⟩ (.slice Ao17 t1659.length co17)).heap[gb1652]? = some (.cells #[.bool a0_0, .slice A0_1 l0_1.length c0_1, .slice A0_2 l0_2.length c0_2] 32 (0, 0))) := ⟨by (with_reducible repeat (first | refine blk_drewN ?_ _ | refine blk_drew ?_ | refine blk_alloc ?_ _)); refine blk_far ?_ NB1652_1663.out _; (with_reducible repeat (first | refine blk_drewN ?_ _ | refine blk_drew ?_ | refine blk_alloc ?_ _)); refine blk_far ?_ NB1652_1663.out _; (with_reducible repeat (first | refine blk_drewN ?_ _ | refine blk_drew ?_ | refine blk_alloc ?_ _)); refine blk_far ?_ NB1652_1663.out _; (with_reducible repeat (first | refine blk_drewN ?_ _ | refine blk_drew ?_ | refine blk_alloc ?_ _)); exact BK1652.out⟩
     have n3_ : Aside0 ((((w13.setCell ⟨gb1663, 0, none⟩ (.bool t1655)).setCell ⟨gb1663, 1, none⟩ (.slice Ao16 t1656.length co16)).setCell ⟨gb1663, 2, none⟩ (.slice Ao17 t1659.length co17)).heap[gb1663]? = some (.cells #[.bool t1655, .slice Ao16 t1656.length co16, .slice Ao17 t1659.length co17] 32 (0, 0))) := ⟨by (with_reducible repeat (first | refine blk_drewN ?_ _ | refine blk_drew ?_ | refine blk_alloc ?_ _)); refine blk_put (cs := #[.bool t1655, .slice Ao16 t1656.length co16, .slice none 0 0]) ?_ 2 _ rfl; (with_reducible repeat (first | refine blk_drewN ?_ _ | refine blk_drew ?_ | refine blk_alloc ?_ _)); refine blk_put (cs := #[.bool t1655, .slice none 0 0, .slice none 0 0]) ?_ 1 _ rfl; (with_reducible repeat (first | refine blk_drewN ?_ _ | refine blk_drew ?_ | refine blk_alloc ?_ _)); refine blk_put (cs := #[.bool false, .slice none 0 0, .slice none 0 0]) ?_ 0 _ rfl; (with_reducible repeat (first | refine blk_drewN ?_ _ | refine blk_drew ?_ | refine blk_alloc ?_ _)); exact BK1663.out⟩
     have n4_ : Aside0 (Below w.heap.size w (((w13.setCell ⟨gb1663, 0, none⟩ (.bool t1655)).setCell ⟨gb1663, 1, none⟩ (.slice Ao16 t1656.length co16)).setCell ⟨gb1663, 2, none⟩ (.slice Ao17 t1659.length co17))) := ⟨hbb⟩
     generalize (((w13.setCell ⟨gb1663, 0, none⟩ (.bool t1655)).setCell ⟨gb1663, 1, none⟩ (.slice Ao16 t1656.length co16)).setCell ⟨gb1663, 2, none⟩ (.slice Ao17 t1659.length co17)) = w21 at n0_ n1_ n2_ n3_ n4_ ⊢
     have HO1658 := n0_
     have HO1661 := n1_
     have BK1652 := n2_
     have BK1663 := n3_
     have HB := n4_
     clear n0_ n1_ n2_ n3_ n4_
     refine sw5 ⟨Kd.R_drew (Kd.R_drewN HO1658.out nd)⟩ ⟨Kd.R_drew (Kd.R_drewN HO1661.out nd)⟩ ⟨blk_drew (blk_drewN BK1652.out nd)⟩ ⟨blk_drew (blk_drewN BK1663.out nd)⟩ ⟨below_drew1 (pw_below_drewN HB.out nd)⟩ ?_
     clear HO1658 HO1661 BK1652 BK1663 HB
     intro HO1658 HO1661 BK1652 BK1663 HB
     refine start_ (n := 9) (S := fun w' => w'.cell? ⟨gb1663, 0, none⟩ = some (.bool t1655) ∧ w'.cell? ⟨gb1663, 1, none⟩ = some (.slice Ao16 t1656.length co16) ∧ w'.cell? ⟨gb1663, 2, none⟩ = some (.slice Ao17 t1659.length co17)) (ds := []) #[false, false, false, false, false, false, false, false, false] (by kernel_rfl) rfl rfl ⟨(blk_cell BK1663.out 0).trans rfl, (blk_cell BK1663.out 1).trans rfl, (blk_cell BK1663.out 2).trans rfl⟩ (fun hHeld => ?_); refine with_tabW gradinelaw10_FroundRats.tab7 gradinelaw10_FroundRats.bits7 (fun HT_ HW_ => ?_)
     generalize (w21.drewN nd).drew = w22 at HO1658 HO1661 BK1652 BK1663 HB hHeld ⊢
     refine pu 0 (some 27) HT_ ?_
     refine pu 1 (some 28) HT_ ?_
     refine pu 2 (some 29) HT_ ?_
     refine pu 4 (some 31) HT_ ?_
     refine ta 3 (some 30) HT_ HW_ hHeld ?_
     refine on 5 (some 32) HT_ (fun K hK => ?_)
     refine goes_ Try.func30 (by kernel_rfl) rfl #[.int .u64 a1] (by rfl) rfl rfl lx ?_
     with_reducible refine (gradineref10_ToRat.calls k a1 t1665 t1666 t1669 _ A19.out).mono ?_
     rintro e w23 ⟨v1667, v1670, rfl, ho0, ho1, hb⟩
     refine ⟨_, rfl, ?_⟩
     refine sw7 ⟨Kd.R_mono (Kd.R_told (Kd.R_told (Kd.R_old (st HO1658.out) hb) (Kd.R_base ho0)) (Kd.R_base ho1)) (fun _ h_ => h_.1)⟩ ⟨Kd.R_mono (Kd.R_told (Kd.R_told (Kd.R_old (st HO1661.out) hb) (Kd.R_base ho0)) (Kd.R_base ho1)) (fun _ h_ => h_.1)⟩ ⟨Kd.R_lower (Kd.R_new' (Kd.R_new' ho0 (Kd.R_lt (st HO1658.out))) (Kd.R_lt (st HO1661.out))) (below_size hbb)⟩ ⟨Kd.R_lower (Kd.R_new' (Kd.R_new' ho1 (Kd.R_lt (st HO1658.out))) (Kd.R_lt (st HO1661.out))) (below_size hbb)⟩ ⟨blk_below (bk BK1652.out) hb⟩ ⟨blk_below (bk BK1663.out) hb⟩ ⟨below_step hbb hb⟩ ?_
     clear HO1658 HO1661 BK1652 BK1663 HB
     intro HO1658 HO1661 HO1668 HO1671 BK1652 BK1663 HB
     obtain ⟨Ao24, co24, eo24⟩ := Kd.R_slice HO1668.out
     (first | subst eo24 | (injection eo24 with f1_ f2_ f3_; have f4_ := f1_.symm; have f5_ := f3_.symm; clear f1_ f2_ f3_; subst f4_; subst f5_))
     obtain ⟨Ao25, co25, eo25⟩ := Kd.R_slice HO1671.out
     (first | subst eo25 | (injection eo25 with f1_ f2_ f3_; have f4_ := f1_.symm; have f5_ := f3_.symm; clear f1_ f2_ f3_; subst f4_; subst f5_))
     refine hK.out _ _ ⟨(blk_cell BK1663.out 0).trans rfl, (blk_cell BK1663.out 1).trans rfl, (blk_cell BK1663.out 2).trans rfl⟩ (fun hHeld => ?_)
     clear hK K
     refine nm ?_
     refine on 6 (some 33) HT_ (fun K hK => ?_)
     refine goes_ Try.func61 (by kernel_rfl) rfl #[.agg #[.bool t1655, .slice Ao16 t1656.length co16, .slice Ao17 t1659.length co17], .agg #[.bool t1665, .slice Ao24 t1666.length co24, .slice Ao25 t1669.length co25]] (by rfl) rfl rfl lx ?_
     with_reducible refine (gradineref07_Same.calls k t1655 _ _ t1656 _ _ t1659 t1665 _ _ t1666 _ _ t1669 t1672 _ ?side1 ?side2 ?side3 ?side4 ?side5 ?side6 ?side7 ?side8 A20.out).mono ?_
     (case side1 => exact cs (Kd.R_reads' HO1658.out).2.2)
     (case side2 => exact (Kd.R_reads' HO1658.out).2.1)
     (case side3 => exact cs (Kd.R_reads' HO1661.out).2.2)
     (case side4 => exact (Kd.R_reads' HO1661.out).2.1)
     (case side5 => exact cs (Kd.R_reads' HO1668.out).2.2)
     (case side6 => exact (Kd.R_reads' HO1668.out).2.1)
     (case side7 => exact cs (Kd.R_reads' HO1671.out).2.2)
     (case side8 => exact (Kd.R_reads' HO1671.out).2.1)
     rintro e w26 ⟨rfl, hb⟩
     refine ⟨_, rfl, ?_⟩
     refine sw7 ⟨Kd.R_below (st HO1658.out) hb⟩ ⟨Kd.R_below (st HO1661.out) hb⟩ ⟨Kd.R_below (st HO1668.out) hb⟩ ⟨Kd.R_below (st HO1671.out) hb⟩ ⟨blk_below (bk BK1652.out) hb⟩ ⟨blk_below (bk BK1663.out) hb⟩ ⟨below_step hbb hb⟩ ?_
     clear HO1658 HO1661 HO1668 HO1671 BK1652 BK1663 HB
     intro HO1658 HO1661 HO1668 HO1671 BK1652 BK1663 HB
     refine hK.out _ _ ⟨(blk_cell BK1663.out 0).trans rfl, (blk_cell BK1663.out 1).trans rfl, (blk_cell BK1663.out 2).trans rfl⟩ (fun hHeld => ?_)
     clear hK K
     refine nm ?_
     refine pu 7 (some 34) HT_ ?_
     refine pu 8 (some 35) HT_ ?_
     refine done_ (done_of HT_.out (by kernel_rfl)) ?_
     try go_wp2
     go_meet
     case rel => exact ⟨_, (!t1672), (by first | rfl | (simp; done) | (simp [*]; done)), H', ⟨by first | omega | exact Nat.le_refl _⟩, ⟨by (with_reducible repeat (first | apply Kd.R_alloc | apply Kd.R_drewN | apply Kd.R_drew)); exact Kd.R_mono HO1658.out (fun _ hk => hk.1.1)⟩, ⟨by (with_reducible repeat (first | apply Kd.R_alloc | apply Kd.R_drewN | apply Kd.R_drew)); exact Kd.R_mono HO1661.out (fun _ hk => hk.1.1)⟩, ⟨by (with_reducible repeat (first | refine blk_drewN ?_ _ | refine blk_drew ?_ | refine blk_alloc ?_ _)); exact BK1652.out⟩, ⟨by (with_reducible repeat (first | refine blk_drewN ?_ _ | refine blk_drew ?_ | refine blk_alloc ?_ _)); exact BK1663.out⟩, ⟨hbb⟩⟩
    ·rw [if_neg c18] at H
     have c18b0 : (t1662 == 0) = false := beq_eq_false_iff_ne.mpr c18
     have c18b1 : (t1662 != 0) = true := bne_iff_ne.mpr c18
     (first | rw [c18b0] | (simp only [i64_w, i32_w]; rw [c18b0]) | rw [c18b1] | skip)
     have H' := Aside0.mk H
     clear H
     try go_wp2
     have n0_ : Aside0 (Kd.R (Kd.int .u64) 22 (((w13.setCell ⟨gb1663, 0, none⟩ (.bool t1655)).setCell ⟨gb1663, 1, none⟩ (.slice Ao16 t1656.length co16)).setCell ⟨gb1663, 2, none⟩ (.slice Ao17 t1659.length co17)) w.heap.size (fun k_ => some k_ ≠ (.slice Ao17 t1659.length co17 : Value).ownBlock) (.slice Ao16 t1656.length co16) t1656) := ⟨by (with_reducible repeat (first | apply Kd.R_alloc | apply Kd.R_drewN | apply Kd.R_drew)); exact Kd.R_mono (Kd.R_far (p := ⟨gb1663, 2, none⟩) (Kd.R_far (p := ⟨gb1663, 1, none⟩) (Kd.R_far (p := ⟨gb1663, 0, none⟩) (Kd.R_types HO1658.out BK1663.out (by decide)) (fun _ hk => hk.2) (.bool t1655)) (fun _ hk => hk.2) (.slice Ao16 t1656.length co16)) (fun _ hk => hk.2) (.slice Ao17 t1659.length co17)) (fun _ hk => hk.1)⟩
     have n1_ : Aside0 (Kd.R (Kd.int .u64) 22 (((w13.setCell ⟨gb1663, 0, none⟩ (.bool t1655)).setCell ⟨gb1663, 1, none⟩ (.slice Ao16 t1656.length co16)).setCell ⟨gb1663, 2, none⟩ (.slice Ao17 t1659.length co17)) w.heap.size (fun k_ => some k_ ≠ (.slice Ao16 t1656.length co16 : Value).ownBlock) (.slice Ao17 t1659.length co17) t1659) := ⟨by (with_reducible repeat (first | apply Kd.R_alloc | apply Kd.R_drewN | apply Kd.R_drew)); exact Kd.R_mono (Kd.R_far (p := ⟨gb1663, 2, none⟩) (Kd.R_far (p := ⟨gb1663, 1, none⟩) (Kd.R_far (p := ⟨gb1663, 0, none⟩) (Kd.R_types HO1661.out BK1663.out (by decide)) (fun _ hk => hk.2) (.bool t1655)) (fun _ hk => hk.2) (.slice Ao16 t1656.length co16)) (fun _ hk => hk.2) (.slice Ao17 t1659.length co17)) (fun _ hk => hk.1)⟩
     have n2_ : Aside0 ((((w13.setCell ⟨gb1663, 0, none⟩ (.bool t1655)).setCell ⟨gb1663, 1, none⟩ (.slice Ao16 t1656.length co16)).setCell ⟨gb1663, 2, none⟩ (.slice Ao17 t1659.length co17)).heap[gb1652]? = some (.cells #[.bool a0_0, .slice A0_1 l0_1.length c0_1, .slice A0_2 l0_2.length c0_2] 32 (0, 0))) := ⟨by (with_reducible repeat (first | refine blk_drewN ?_ _ | refine blk_drew ?_ | refine blk_alloc ?_ _)); refine blk_far ?_ NB1652_1663.out _; (with_reducible repeat (first | refine blk_drewN ?_ _ | refine blk_drew ?_ | refine blk_alloc ?_ _)); refine blk_far ?_ NB1652_1663.out _; (with_reducible repeat (first | refine blk_drewN ?_ _ | refine blk_drew ?_ | refine blk_alloc ?_ _)); refine blk_far ?_ NB1652_1663.out _; (with_reducible repeat (first | refine blk_drewN ?_ _ | refine blk_drew ?_ | refine blk_alloc ?_ _)); exact BK1652.out⟩
     have n3_ : Aside0 ((((w13.setCell ⟨gb1663, 0, none⟩ (.bool t1655)).setCell ⟨gb1663, 1, none⟩ (.slice Ao16 t1656.length co16)).setCell ⟨gb1663, 2, none⟩ (.slice Ao17 t1659.length co17)).heap[gb1663]? = some (.cells #[.bool t1655, .slice Ao16 t1656.length co16, .slice Ao17 t1659.length co17] 32 (0, 0))) := ⟨by (with_reducible repeat (first | refine blk_drewN ?_ _ | refine blk_drew ?_ | refine blk_alloc ?_ _)); refine blk_put (cs := #[.bool t1655, .slice Ao16 t1656.length co16, .slice none 0 0]) ?_ 2 _ rfl; (with_reducible repeat (first | refine blk_drewN ?_ _ | refine blk_drew ?_ | refine blk_alloc ?_ _)); refine blk_put (cs := #[.bool t1655, .slice none 0 0, .slice none 0 0]) ?_ 1 _ rfl; (with_reducible repeat (first | refine blk_drewN ?_ _ | refine blk_drew ?_ | refine blk_alloc ?_ _)); refine blk_put (cs := #[.bool false, .slice none 0 0, .slice none 0 0]) ?_ 0 _ rfl; (with_reducible repeat (first | refine blk_drewN ?_ _ | refine blk_drew ?_ | refine blk_alloc ?_ _)); exact BK1663.out⟩
     have n4_ : Aside0 (Below w.heap.size w (((w13.setCell ⟨gb1663, 0, none⟩ (.bool t1655)).setCell ⟨gb1663, 1, none⟩ (.slice Ao16 t1656.length co16)).setCell ⟨gb1663, 2, none⟩ (.slice Ao17 t1659.length co17))) := ⟨hbb⟩
     generalize (((w13.setCell ⟨gb1663, 0, none⟩ (.bool t1655)).setCell ⟨gb1663, 1, none⟩ (.slice Ao16 t1656.length co16)).setCell ⟨gb1663, 2, none⟩ (.slice Ao17 t1659.length co17)) = w27 at n0_ n1_ n2_ n3_ n4_ ⊢
     have HO1658 := n0_
     have HO1661 := n1_
     have BK1652 := n2_
     have BK1663 := n3_
     have HB := n4_
     clear n0_ n1_ n2_ n3_ n4_
     refine sw5 ⟨Kd.R_drew (Kd.R_drewN HO1658.out nd)⟩ ⟨Kd.R_drew (Kd.R_drewN HO1661.out nd)⟩ ⟨blk_drew (blk_drewN BK1652.out nd)⟩ ⟨blk_drew (blk_drewN BK1663.out nd)⟩ ⟨below_drew1 (pw_below_drewN HB.out nd)⟩ ?_
     clear HO1658 HO1661 BK1652 BK1663 HB
     intro HO1658 HO1661 BK1652 BK1663 HB
     refine start_ (n := 9) (S := fun w' => True) (ds := []) #[false, false, false, false, false, false, false, false, false] (by kernel_rfl) rfl rfl trivial (fun hHeld => ?_); refine with_tabW gradinelaw10_FroundRats.tab7 gradinelaw10_FroundRats.bits7 (fun HT_ HW_ => ?_)
     generalize (w27.drewN nd).drew = w28 at HO1658 HO1661 BK1652 BK1663 HB hHeld ⊢
     refine pu 0 (some 27) HT_ ?_
     refine pu 1 (some 28) HT_ ?_
     refine pu 2 (some 29) HT_ ?_
     refine pv 3 (some 30) HT_ ?_
     refine pv 4 (some 31) HT_ ?_
     refine pv 5 (some 32) HT_ ?_
     refine pv 6 (some 33) HT_ ?_
     refine pv 7 (some 34) HT_ ?_
     refine pu 8 (some 35) HT_ ?_
     refine done_ (done_of HT_.out (by kernel_rfl)) ?_
     try go_wp2
     go_meet
     case rel => exact ⟨_, (true), (by first | rfl | (simp; done) | (simp [*]; done)), H', ⟨by first | omega | exact Nat.le_refl _⟩, ⟨by (with_reducible repeat (first | apply Kd.R_alloc | apply Kd.R_drewN | apply Kd.R_drew)); exact HO1658.out⟩, ⟨by (with_reducible repeat (first | apply Kd.R_alloc | apply Kd.R_drewN | apply Kd.R_drew)); exact HO1661.out⟩, ⟨by (with_reducible repeat (first | refine blk_drewN ?_ _ | refine blk_drew ?_ | refine blk_alloc ?_ _)); exact BK1652.out⟩, ⟨by (with_reducible repeat (first | refine blk_drewN ?_ _ | refine blk_drew ?_ | refine blk_alloc ?_ _)); exact BK1663.out⟩, ⟨hbb⟩⟩
   case rest =>
    clear HC8
    obtain ⟨kq, x35_7, rfl, HA, HJ7, HO_1664001, HO_1664002, BK1652, BK1663, HB⟩ := hcut
    cases kq with
    | zero => exact absurd HA.out (by simp [gradinelaw10_FroundRats.j0])
    | succ kj7 =>
     have H := HA.out
     clear HA
     simp only [gradinelaw10_FroundRats.j0] at H
     by_cases c29 : x35_7 = true
     ·subst c29
      replace H := ift H
      obtain rfl := Option.some.inj H
      go_wp2
      go_ret
      exact ⟨er, hbb⟩
     ·replace c29 := Bool.eq_false_iff.mpr c29
      subst c29
      replace H := iff_ H
      obtain ⟨t1673, A30, H⟩ := bnd H
      obtain ⟨t1674, A31, H⟩ := bnd H
      by_cases c32 : t1673 = t1674
      ·rw [if_pos c32] at H
       have c32b0 : (t1673 == t1674) = true := beq_iff_eq.mpr c32
       have c32b1 : (t1673 != t1674) = false := bne_eq_false_iff_eq.mpr c32
       clear c32
       obtain ⟨t1675, A33, H⟩ := bnd H
       obtain rfl := Option.some.inj H
       try go_wp2
       refine sw5 ⟨Kd.R_drew HO_1664001.out⟩ ⟨Kd.R_drew HO_1664002.out⟩ ⟨blk_drew BK1652.out⟩ ⟨blk_drew BK1663.out⟩ ⟨below_drew1 HB.out⟩ ?_
       clear HO_1664001 HO_1664002 BK1652 BK1663 HB
       intro HO_1664001 HO_1664002 BK1652 BK1663 HB
       refine start_ (n := 9) (S := fun w' => w'.cell? ⟨gb1652, 0, none⟩ = some (.bool a0_0) ∧ w'.cell? ⟨gb1652, 1, none⟩ = some (.slice A0_1 l0_1.length c0_1) ∧ w'.cell? ⟨gb1652, 2, none⟩ = some (.slice A0_2 l0_2.length c0_2)) (ds := []) #[false, false, false, false, false, false, false, false, false] (by kernel_rfl) rfl rfl ⟨(blk_cell BK1652.out 0).trans rfl, (blk_cell BK1652.out 1).trans rfl, (blk_cell BK1652.out 2).trans rfl⟩ (fun hHeld => ?_); refine with_tabW gradinelaw10_FroundRats.tab9 gradinelaw10_FroundRats.bits9 (fun HT_ HW_ => ?_)
       generalize wc.drew = w34 at HO_1664001 HO_1664002 BK1652 BK1663 HB hHeld ⊢
       refine ta 0 (some 36) HT_ HW_ hHeld ?_
       refine ta 2 (some 38) HT_ HW_ hHeld ?_
       refine on 1 (some 37) HT_ (fun K hK => ?_)
       refine goes_ Try.func80 (by kernel_rfl) rfl #[.agg #[.bool a0_0, .slice A0_1 l0_1.length c0_1, .slice A0_2 l0_2.length c0_2]] (by rfl) rfl rfl lx ?_
       with_reducible refine (fround_FromRat.calls kj7 a0_0 _ _ l0_1 _ _ l0_2 t1673 _ ?side1 ?side2 ?side3 ?side4 A30.out).mono ?_
       (case side1 => exact cs (Kd.C_below HR0_1.out HB.out))
       (case side2 => exact HC0_1.out)
       (case side3 => exact cs (Kd.C_below HR0_2.out HB.out))
       (case side4 => exact HC0_2.out)
       rintro e w35 ⟨rfl, hb⟩
       refine ⟨_, rfl, ?_⟩
       refine sw5 ⟨Kd.R_below (st HO_1664001.out) hb⟩ ⟨Kd.R_below (st HO_1664002.out) hb⟩ ⟨blk_below (bk BK1652.out) hb⟩ ⟨blk_below (bk BK1663.out) hb⟩ ⟨below_step hbb hb⟩ ?_
       clear HO_1664001 HO_1664002 BK1652 BK1663 HB
       intro HO_1664001 HO_1664002 BK1652 BK1663 HB
       refine hK.out _ _ ⟨(blk_cell BK1652.out 0).trans rfl, (blk_cell BK1652.out 1).trans rfl, (blk_cell BK1652.out 2).trans rfl⟩ (fun hHeld => ?_)
       clear hK K
       refine nm ?_
       refine on 3 (some 39) HT_ (fun K hK => ?_)
       refine goes_ Try.func84 (by kernel_rfl) rfl #[.agg #[.bool a0_0, .slice A0_1 l0_1.length c0_1, .slice A0_2 l0_2.length c0_2]] (by rfl) rfl rfl lx ?_
       with_reducible refine (gradineref10_FromRat.calls kj7 a0_0 _ _ l0_1 _ _ l0_2 t1674 _ ?side1 ?side2 ?side3 ?side4 A31.out).mono ?_
       (case side1 => exact cs (Kd.C_below HR0_1.out HB.out))
       (case side2 => exact HC0_1.out)
       (case side3 => exact cs (Kd.C_below HR0_2.out HB.out))
       (case side4 => exact HC0_2.out)
       rintro e w36 ⟨rfl, hb⟩
       refine ⟨_, rfl, ?_⟩
       refine sw5 ⟨Kd.R_below (st HO_1664001.out) hb⟩ ⟨Kd.R_below (st HO_1664002.out) hb⟩ ⟨blk_below (bk BK1652.out) hb⟩ ⟨blk_below (bk BK1663.out) hb⟩ ⟨below_step hbb hb⟩ ?_
       clear HO_1664001 HO_1664002 BK1652 BK1663 HB
       intro HO_1664001 HO_1664002 BK1652 BK1663 HB
       refine hK.out _ _ ⟨(blk_cell BK1652.out 0).trans rfl, (blk_cell BK1652.out 1).trans rfl, (blk_cell BK1652.out 2).trans rfl⟩ (fun hHeld => ?_)
       clear hK K
       refine nm ?_
       refine pu 4 (some 40) HT_ ?_
       refine pu 5 (some 41) HT_ ?_
       refine on 6 (some 42) HT_ (fun K hK => ?_)
       refine goes_ Try.func38 (by kernel_rfl) rfl #[] (by rfl) rfl rfl lx ?_
       with_reducible refine (gradinelaw10_same.calls kj7  t1675 _ A33.out).mono ?_
       rintro e w37 ⟨rfl, hb⟩
       refine ⟨_, rfl, ?_⟩
       refine sw5 ⟨Kd.R_below (st HO_1664001.out) hb⟩ ⟨Kd.R_below (st HO_1664002.out) hb⟩ ⟨blk_below (bk BK1652.out) hb⟩ ⟨blk_below (bk BK1663.out) hb⟩ ⟨below_step hbb hb⟩ ?_
       clear HO_1664001 HO_1664002 BK1652 BK1663 HB
       intro HO_1664001 HO_1664002 BK1652 BK1663 HB
       refine hK.out _ _ ⟨(blk_cell BK1652.out 0).trans rfl, (blk_cell BK1652.out 1).trans rfl, (blk_cell BK1652.out 2).trans rfl⟩ (fun hHeld => ?_)
       clear hK K
       refine nm ?_
       refine pu 7 (some 43) HT_ ?_
       refine pu 8 (some 4) HT_ ?_
       refine done_ (done_of HT_.out (by kernel_rfl)) ?_
       try go_wp2
       go_ret
       exact ⟨er, hbb⟩
      ·rw [if_neg c32] at H
       have c32b0 : (t1673 == t1674) = false := beq_eq_false_iff_ne.mpr c32
       have c32b1 : (t1673 != t1674) = true := bne_iff_ne.mpr c32
       obtain rfl := Option.some.inj H
       try go_wp2
       refine sw5 ⟨Kd.R_drew HO_1664001.out⟩ ⟨Kd.R_drew HO_1664002.out⟩ ⟨blk_drew BK1652.out⟩ ⟨blk_drew BK1663.out⟩ ⟨below_drew1 HB.out⟩ ?_
       clear HO_1664001 HO_1664002 BK1652 BK1663 HB
       intro HO_1664001 HO_1664002 BK1652 BK1663 HB
       refine start_ (n := 9) (S := fun w' => w'.cell? ⟨gb1652, 0, none⟩ = some (.bool a0_0) ∧ w'.cell? ⟨gb1652, 1, none⟩ = some (.slice A0_1 l0_1.length c0_1) ∧ w'.cell? ⟨gb1652, 2, none⟩ = some (.slice A0_2 l0_2.length c0_2)) (ds := []) #[false, false, false, false, false, false, false, false, false] (by kernel_rfl) rfl rfl ⟨(blk_cell BK1652.out 0).trans rfl, (blk_cell BK1652.out 1).trans rfl, (blk_cell BK1652.out 2).trans rfl⟩ (fun hHeld => ?_); refine with_tabW gradinelaw10_FroundRats.tab9 gradinelaw10_FroundRats.bits9 (fun HT_ HW_ => ?_)
       generalize wc.drew = w38 at HO_1664001 HO_1664002 BK1652 BK1663 HB hHeld ⊢
       refine ta 0 (some 36) HT_ HW_ hHeld ?_
       refine ta 2 (some 38) HT_ HW_ hHeld ?_
       refine on 1 (some 37) HT_ (fun K hK => ?_)
       refine goes_ Try.func80 (by kernel_rfl) rfl #[.agg #[.bool a0_0, .slice A0_1 l0_1.length c0_1, .slice A0_2 l0_2.length c0_2]] (by rfl) rfl rfl lx ?_
       with_reducible refine (fround_FromRat.calls kj7 a0_0 _ _ l0_1 _ _ l0_2 t1673 _ ?side1 ?side2 ?side3 ?side4 A30.out).mono ?_
       (case side1 => exact cs (Kd.C_below HR0_1.out HB.out))
       (case side2 => exact HC0_1.out)
       (case side3 => exact cs (Kd.C_below HR0_2.out HB.out))
       (case side4 => exact HC0_2.out)
       rintro e w39 ⟨rfl, hb⟩
       refine ⟨_, rfl, ?_⟩
       refine sw5 ⟨Kd.R_below (st HO_1664001.out) hb⟩ ⟨Kd.R_below (st HO_1664002.out) hb⟩ ⟨blk_below (bk BK1652.out) hb⟩ ⟨blk_below (bk BK1663.out) hb⟩ ⟨below_step hbb hb⟩ ?_
       clear HO_1664001 HO_1664002 BK1652 BK1663 HB
       intro HO_1664001 HO_1664002 BK1652 BK1663 HB
       refine hK.out _ _ ⟨(blk_cell BK1652.out 0).trans rfl, (blk_cell BK1652.out 1).trans rfl, (blk_cell BK1652.out 2).trans rfl⟩ (fun hHeld => ?_)
       clear hK K
       refine nm ?_
       refine on 3 (some 39) HT_ (fun K hK => ?_)
       refine goes_ Try.func84 (by kernel_rfl) rfl #[.agg #[.bool a0_0, .slice A0_1 l0_1.length c0_1, .slice A0_2 l0_2.length c0_2]] (by rfl) rfl rfl lx ?_
       with_reducible refine (gradineref10_FromRat.calls kj7 a0_0 _ _ l0_1 _ _ l0_2 t1674 _ ?side1 ?side2 ?side3 ?side4 A31.out).mono ?_
       (case side1 => exact cs (Kd.C_below HR0_1.out HB.out))
       (case side2 => exact HC0_1.out)
       (case side3 => exact cs (Kd.C_below HR0_2.out HB.out))
       (case side4 => exact HC0_2.out)
       rintro e w40 ⟨rfl, hb⟩
       refine ⟨_, rfl, ?_⟩
       refine sw5 ⟨Kd.R_below (st HO_1664001.out) hb⟩ ⟨Kd.R_below (st HO_1664002.out) hb⟩ ⟨blk_below (bk BK1652.out) hb⟩ ⟨blk_below (bk BK1663.out) hb⟩ ⟨below_step hbb hb⟩ ?_
       clear HO_1664001 HO_1664002 BK1652 BK1663 HB
       intro HO_1664001 HO_1664002 BK1652 BK1663 HB
       refine hK.out _ _ ⟨(blk_cell BK1652.out 0).trans rfl, (blk_cell BK1652.out 1).trans rfl, (blk_cell BK1652.out 2).trans rfl⟩ (fun hHeld => ?_)
       clear hK K
       refine nm ?_
       refine pu 4 (some 40) HT_ ?_
       refine pu 5 (some 41) HT_ ?_
       refine pv 6 (some 42) HT_ ?_
       refine pu 7 (some 43) HT_ ?_
       refine pu 8 (some 4) HT_ ?_
       refine done_ (done_of HT_.out (by kernel_rfl)) ?_
       try go_wp2
       go_ret
       exact ⟨er, hbb⟩
  ·replace c7 := Bool.eq_false_iff.mpr c7
   subst c7
   replace H := iff_ H
   have HC41 := Aside0.mk H
   clear H
   go_enter Try.func22, Try.ntmps22
   go_upto_region 5 with (first | ((with_reducible refine gate_dst (N := 2) rfl ?_); refine box_event ?hg (N := 2) ?hd (cs := #[.bool a0_0, .slice A0_1 l0_1.length c0_1, .slice A0_2 l0_2.length c0_2]) (t := 32) ?hr ?_; (case hd => rfl); (case hg => rfl); (case hr => first | (go_simp; done) | (go_simp; rfl)); intro gb1652 hg w42 hbox hb; refine sw4 ⟨below_step hbb hb⟩ ⟨hbox⟩ ⟨gsz hg hbb⟩ ⟨gsz hg hbb⟩ ?_; clear HB; intro HB BK1652 GW1652 GE1652; clear hb hbox hg; obtain ⟨hcz43_0, hcz43_1, hcz43_2, hfz43_0, hfz43_1, hfz43_2⟩ := cz3 BK1652) | ((with_reducible refine gate_callee (f := 79) rfl ?_); refine goesL_ (some 8) rfl rfl Try.func79 (by kernel_rfl) rfl #[.agg #[.bool a0_0, .slice A0_1 l0_1.length c0_1, .slice A0_2 l0_2.length c0_2]] rfl lx ?_; (with_reducible refine (gradinelaw10_right.calls k a0_0 _ _ l0_1 _ _ l0_2 true _ ?side1 ?side2 ?side3 ?side4 A3.out).mono ?_); (case side1 => exact cs (Kd.C_below HR0_1.out HB.out)); (case side2 => exact HC0_1.out); (case side3 => exact cs (Kd.C_below HR0_2.out HB.out)); (case side4 => exact HC0_2.out); rintro e w44 ⟨rfl, hb⟩; refine ⟨_, rfl, ?_⟩; refine sw2 ⟨blk_below (bk BK1652.out) hb⟩ ⟨below_step hbb hb⟩ ?_; clear BK1652 HB; intro BK1652 HB) | ((with_reducible refine gate_callee (f := 83) rfl ?_); refine goesL_ (some 13) rfl rfl Try.func83 (by kernel_rfl) rfl #[.int .u64 a1] rfl lx ?_; (with_reducible refine (fround_ToRat.calls k a1 t1655 t1656 t1659 t1662 _ A5.out).mono ?_); rintro e w45 ⟨v1657, v1660, rfl, ho0, ho1, hb⟩; refine ⟨_, rfl, ?_⟩; refine sw4 ⟨Kd.R_lower ho0 (below_size hbb)⟩ ⟨Kd.R_lower ho1 (below_size hbb)⟩ ⟨blk_below (bk BK1652.out) hb⟩ ⟨below_step hbb hb⟩ ?_; clear BK1652 HB; intro HO1658 HO1661 BK1652 HB) | ((with_reducible refine gate_dst (N := 5) rfl ?_); refine box_event ?hg (N := 5) ?hd (cs := #[.bool false, .slice none 0 0, .slice none 0 0]) (t := 32) ?hr ?_; (case hd => rfl); (case hg => rfl); (case hr => first | (go_simp; done) | (go_simp; rfl)); intro gb1663 hg w46 hbox hb; refine sw9 ⟨Kd.R_below (st HO1658.out) hb⟩ ⟨Kd.R_below (st HO1661.out) hb⟩ ⟨blk_below (bk BK1652.out) hb⟩ ⟨below_step hbb hb⟩ ⟨hbox⟩ ⟨gsz hg hbb⟩ ⟨gsz hg hbb⟩ ⟨(by rw [hg]; exact Nat.ne_of_lt (blk_lt (bk BK1652.out)) : gb1652 ≠ gb1663)⟩ ⟨(by rw [hg]; exact Nat.ne_of_gt (blk_lt (bk BK1652.out)) : gb1663 ≠ gb1652)⟩ ?_; clear HO1658 HO1661 BK1652 HB; intro HO1658 HO1661 BK1652 HB BK1663 GW1663 GE1663 NB1652_1663 NB1663_1652; clear hb hbox hg; have hnb47 := NB1663_1652.out; have hnc47 := NB1652_1663.out; obtain ⟨hcz48_0, hcz48_1, hcz48_2, hfz48_0, hfz48_1, hfz48_2⟩ := cz3 BK1663; obtain ⟨Ao49, co49, eo49⟩ := Kd.R_slice HO1658.out; subst eo49; obtain ⟨Ao50, co50, eo50⟩ := Kd.R_slice HO1661.out; subst eo50) | ((with_reducible refine gate_callee (f := 26) rfl ?_); refine goesL_ (some 17) rfl rfl Try.func26 (by kernel_rfl) rfl #[.int .u64 a1] rfl lx ?_; (with_reducible refine (gradineref09_Finite.calls a1 false _ A6.out).mono ?_); rintro e w' ⟨rfl, ⟨nd, rfl⟩⟩; refine ⟨_, rfl, ?_⟩))
   (try simp only [Act.put, List.setIfInBounds_toArray, List.set_cons_zero, List.set_cons_succ])
   go_cut [26] (fun v26 wc => ∃ (kq : Nat) (x26_40 : Bool), v26 = .bool x26_40 ∧ Aside0 (gradinelaw10_FroundRats.j1 kq x26_40 a0_0 l0_1 l0_2 = some r) ∧ Aside0 (kq ≤ k) ∧ Aside0 (Kd.R (Kd.int .u64) 22 wc w.heap.size (fun k_ => some k_ ≠ ((.slice Ao50 t1659.length co50) : Value).ownBlock) (.slice Ao49 t1656.length co49) t1656) ∧ Aside0 (Kd.R (Kd.int .u64) 22 wc w.heap.size (fun k_ => some k_ ≠ ((.slice Ao49 t1656.length co49) : Value).ownBlock) (.slice Ao50 t1659.length co50) t1659) ∧ Aside0 (wc.heap[gb1652]? = some (.cells #[.bool a0_0, (.slice A0_1 l0_1.length c0_1), (.slice A0_2 l0_2.length c0_2)] 32 (0, 0))) ∧ Aside0 (wc.heap[gb1663]? = some (.cells #[.bool t1655, (.slice Ao49 t1656.length co49), (.slice Ao50 t1659.length co50)] 32 (0, 0))) ∧ Aside0 (Below w.heap.size w wc))
   case first =>
    have H := HC41.out
    clear HC41
    by_cases c51 : t1662 = 1
    ·rw [if_pos c51] at H
     have c51b0 : (t1662 == 1) = true := beq_iff_eq.mpr c51
     have c51b1 : (t1662 != 1) = false := bne_eq_false_iff_eq.mpr c51
     clear c51
     (first | rw [c51b0] | (simp only [i64_w, i32_w]; rw [c51b0]) | rw [c51b1] | skip)
     obtain ⟨t1676, A52, H⟩ := bnd H
     have H' := Aside0.mk H
     clear H
     have hnb53 := NB1663_1652.out
     have hnc53 := NB1652_1663.out
     obtain ⟨hcz54_0, hcz54_1, hcz54_2, hfz54_0, hfz54_1, hfz54_2⟩ := cz3 BK1663
     go_wp2_with (first | (go_at_call 61; (refine (gradineref07_Same.calls k t1655 _ _ t1656 _ _ t1659 false _ _ ([] : List Int) _ _ ([] : List Int) t1676 _ ?side1 ?side2 ?side3 ?side4 ?side5 ?side6 ?side7 ?side8 A52.out).mono ?_); (case side1 => refine (Kd.R_reads' (e := 22) (base := w.heap.size) (ok := fun k_ => some k_ ≠ (.slice Ao50 t1659.length co50 : Value).ownBlock) (n := t1656.length) (c := co49) ?_).2.2; exact (st (Kd.R_mono (Kd.R_far (p := ⟨gb1663, 2, none⟩) (Kd.R_far (p := ⟨gb1663, 1, none⟩) (Kd.R_far (p := ⟨gb1663, 0, none⟩) (Kd.R_types HO1658.out BK1663.out (by decide)) (fun _ hk => hk.2) (.bool t1655)) (fun _ hk => hk.2) (.slice Ao49 t1656.length co49)) (fun _ hk => hk.2) (.slice Ao50 t1659.length co50)) (fun _ h_ => h_.1)))); (case side2 => exact (Kd.R_reads' HO1658.out).2.1); (case side3 => refine (Kd.R_reads' (e := 22) (base := w.heap.size) (ok := fun k_ => some k_ ≠ (.slice Ao49 t1656.length co49 : Value).ownBlock) (n := t1659.length) (c := co50) ?_).2.2; exact (st (Kd.R_mono (Kd.R_far (p := ⟨gb1663, 2, none⟩) (Kd.R_far (p := ⟨gb1663, 1, none⟩) (Kd.R_far (p := ⟨gb1663, 0, none⟩) (Kd.R_types HO1661.out BK1663.out (by decide)) (fun _ hk => hk.2) (.bool t1655)) (fun _ hk => hk.2) (.slice Ao49 t1656.length co49)) (fun _ hk => hk.2) (.slice Ao50 t1659.length co50)) (fun _ h_ => h_.1)))); (case side4 => exact (Kd.R_reads' HO1661.out).2.1); (case side5 => exact Kd.C_nil _ _); (case side6 => exact Nat.le_refl _); (case side7 => exact Kd.C_nil _ _); (case side8 => exact Nat.le_refl _); rintro e w55 ⟨rfl, hb⟩; refine sw5 ⟨Kd.R_below (st (Kd.R_mono (Kd.R_far (p := ⟨gb1663, 2, none⟩) (Kd.R_far (p := ⟨gb1663, 1, none⟩) (Kd.R_far (p := ⟨gb1663, 0, none⟩) (Kd.R_types HO1658.out BK1663.out (by decide)) (fun _ hk => hk.2) (.bool t1655)) (fun _ hk => hk.2) (.slice Ao49 t1656.length co49)) (fun _ hk => hk.2) (.slice Ao50 t1659.length co50)) (fun _ h_ => h_.1))) hb⟩ ⟨Kd.R_below (st (Kd.R_mono (Kd.R_far (p := ⟨gb1663, 2, none⟩) (Kd.R_far (p := ⟨gb1663, 1, none⟩) (Kd.R_far (p := ⟨gb1663, 0, none⟩) (Kd.R_types HO1661.out BK1663.out (by decide)) (fun _ hk => hk.2) (.bool t1655)) (fun _ hk => hk.2) (.slice Ao49 t1656.length co49)) (fun _ hk => hk.2) (.slice Ao50 t1659.length co50)) (fun _ h_ => h_.1))) hb⟩ ⟨blk_below (g := gb1652) (o := .cells #[.bool a0_0, .slice A0_1 l0_1.length c0_1, .slice A0_2 l0_2.length c0_2] 32 (0, 0)) (by (with_reducible repeat (first | refine blk_drewN ?_ _ | refine blk_drew ?_ | refine blk_alloc ?_ _)); refine blk_far ?_ NB1652_1663.out _; (with_reducible repeat (first | refine blk_drewN ?_ _ | refine blk_drew ?_ | refine blk_alloc ?_ _)); refine blk_far ?_ NB1652_1663.out _; (with_reducible repeat (first | refine blk_drewN ?_ _ | refine blk_drew ?_ | refine blk_alloc ?_ _)); refine blk_far ?_ NB1652_1663.out _; (with_reducible repeat (first | refine blk_drewN ?_ _ | refine blk_drew ?_ | refine blk_alloc ?_ _)); exact BK1652.out) hb⟩ ⟨blk_below (g := gb1663) (o := .cells #[.bool t1655, .slice Ao49 t1656.length co49, .slice Ao50 t1659.length co50] 32 (0, 0)) (by (with_reducible repeat (first | refine blk_drewN ?_ _ | refine blk_drew ?_ | refine blk_alloc ?_ _)); refine blk_put (cs := #[.bool t1655, .slice Ao49 t1656.length co49, .slice none 0 0]) ?_ 2 _ rfl; (with_reducible repeat (first | refine blk_drewN ?_ _ | refine blk_drew ?_ | refine blk_alloc ?_ _)); refine blk_put (cs := #[.bool t1655, .slice none 0 0, .slice none 0 0]) ?_ 1 _ rfl; (with_reducible repeat (first | refine blk_drewN ?_ _ | refine blk_drew ?_ | refine blk_alloc ?_ _)); refine blk_put (cs := #[.bool false, .slice none 0 0, .slice none 0 0]) ?_ 0 _ rfl; (with_reducible repeat (first | refine blk_drewN ?_ _ | refine blk_drew ?_ | refine blk_alloc ?_ _)); exact BK1663.out) hb⟩ ⟨below_step hbb hb⟩ ?_; clear HO1658 HO1661 BK1652 BK1663 HB; intro HO1658 HO1661 BK1652 BK1663 HB))
     go_meet
     case rel => exact ⟨_, (!t1676), (by first | rfl | (simp; done) | (simp [*]; done)), H', ⟨by first | omega | exact Nat.le_refl _⟩, ⟨by (with_reducible repeat (first | apply Kd.R_alloc | apply Kd.R_drewN | apply Kd.R_drew)); exact HO1658.out⟩, ⟨by (with_reducible repeat (first | apply Kd.R_alloc | apply Kd.R_drewN | apply Kd.R_drew)); exact HO1661.out⟩, ⟨by (with_reducible repeat (first | refine blk_drewN ?_ _ | refine blk_drew ?_ | refine blk_alloc ?_ _)); exact BK1652.out⟩, ⟨by (with_reducible repeat (first | refine blk_drewN ?_ _ | refine blk_drew ?_ | refine blk_alloc ?_ _)); exact BK1663.out⟩, ⟨hbb⟩⟩
    ·rw [if_neg c51] at H
     have c51b0 : (t1662 == 1) = false := beq_eq_false_iff_ne.mpr c51
     have c51b1 : (t1662 != 1) = true := bne_iff_ne.mpr c51
     (first | rw [c51b0] | (simp only [i64_w, i32_w]; rw [c51b0]) | rw [c51b1] | skip)
     have H' := Aside0.mk H
     clear H
     go_wp2
     go_meet
     case rel => exact ⟨_, (true), (by first | rfl | (simp; done) | (simp [*]; done)), H', ⟨by first | omega | exact Nat.le_refl _⟩, ⟨by (with_reducible repeat (first | apply Kd.R_alloc | apply Kd.R_drewN | apply Kd.R_drew)); exact Kd.R_mono (Kd.R_far (p := ⟨gb1663, 2, none⟩) (Kd.R_far (p := ⟨gb1663, 1, none⟩) (Kd.R_far (p := ⟨gb1663, 0, none⟩) (Kd.R_types HO1658.out BK1663.out (by decide)) (fun _ hk => hk.2) (.bool t1655)) (fun _ hk => hk.2) (.slice Ao49 t1656.length co49)) (fun _ hk => hk.2) (.slice Ao50 t1659.length co50)) (fun _ hk => hk.1)⟩, ⟨by (with_reducible repeat (first | apply Kd.R_alloc | apply Kd.R_drewN | apply Kd.R_drew)); exact Kd.R_mono (Kd.R_far (p := ⟨gb1663, 2, none⟩) (Kd.R_far (p := ⟨gb1663, 1, none⟩) (Kd.R_far (p := ⟨gb1663, 0, none⟩) (Kd.R_types HO1661.out BK1663.out (by decide)) (fun _ hk => hk.2) (.bool t1655)) (fun _ hk => hk.2) (.slice Ao49 t1656.length co49)) (fun _ hk => hk.2) (.slice Ao50 t1659.length co50)) (fun _ hk => hk.1)⟩, ⟨by (with_reducible repeat (first | refine blk_drewN ?_ _ | refine blk_drew ?_ | refine blk_alloc ?_ _)); refine blk_far ?_ NB1652_1663.out _; (with_reducible repeat (first | refine blk_drewN ?_ _ | refine blk_drew ?_ | refine blk_alloc ?_ _)); refine blk_far ?_ NB1652_1663.out _; (with_reducible repeat (first | refine blk_drewN ?_ _ | refine blk_drew ?_ | refine blk_alloc ?_ _)); refine blk_far ?_ NB1652_1663.out _; (with_reducible repeat (first | refine blk_drewN ?_ _ | refine blk_drew ?_ | refine blk_alloc ?_ _)); exact BK1652.out⟩, ⟨by (with_reducible repeat (first | refine blk_drewN ?_ _ | refine blk_drew ?_ | refine blk_alloc ?_ _)); refine blk_put (cs := #[.bool t1655, .slice Ao49 t1656.length co49, .slice none 0 0]) ?_ 2 _ rfl; (with_reducible repeat (first | refine blk_drewN ?_ _ | refine blk_drew ?_ | refine blk_alloc ?_ _)); refine blk_put (cs := #[.bool t1655, .slice none 0 0, .slice none 0 0]) ?_ 1 _ rfl; (with_reducible repeat (first | refine blk_drewN ?_ _ | refine blk_drew ?_ | refine blk_alloc ?_ _)); refine blk_put (cs := #[.bool false, .slice none 0 0, .slice none 0 0]) ?_ 0 _ rfl; (with_reducible repeat (first | refine blk_drewN ?_ _ | refine blk_drew ?_ | refine blk_alloc ?_ _)); exact BK1663.out⟩, ⟨hbb⟩⟩
   case rest =>
    clear HC41
    obtain ⟨kq, x26_40, rfl, HA, HJ40, HO_1664001, HO_1664002, BK1652, BK1663, HB⟩ := hcut
    cases kq with
    | zero => exact absurd HA.out (by simp [gradinelaw10_FroundRats.j1])
    | succ kj40 =>
     have H := HA.out
     clear HA
     simp only [gradinelaw10_FroundRats.j1] at H
     by_cases c56 : x26_40 = true
     ·subst c56
      replace H := ift H
      obtain rfl := Option.some.inj H
      go_wp2
      go_ret
      exact ⟨er, hbb⟩
     ·replace c56 := Bool.eq_false_iff.mpr c56
      subst c56
      replace H := iff_ H
      obtain ⟨t1677, A57, H⟩ := bnd H
      obtain ⟨t1678, A58, H⟩ := bnd H
      by_cases c59 : t1677 = t1678
      ·rw [if_pos c59] at H
       have c59b0 : (t1677 == t1678) = true := beq_iff_eq.mpr c59
       have c59b1 : (t1677 != t1678) = false := bne_eq_false_iff_eq.mpr c59
       clear c59
       obtain ⟨t1679, A60, H⟩ := bnd H
       obtain rfl := Option.some.inj H
       try go_wp2
       refine sw5 ⟨Kd.R_drew HO_1664001.out⟩ ⟨Kd.R_drew HO_1664002.out⟩ ⟨blk_drew BK1652.out⟩ ⟨blk_drew BK1663.out⟩ ⟨below_drew1 HB.out⟩ ?_
       clear HO_1664001 HO_1664002 BK1652 BK1663 HB
       intro HO_1664001 HO_1664002 BK1652 BK1663 HB
       refine start_ (n := 9) (S := fun w' => w'.cell? ⟨gb1652, 0, none⟩ = some (.bool a0_0) ∧ w'.cell? ⟨gb1652, 1, none⟩ = some (.slice A0_1 l0_1.length c0_1) ∧ w'.cell? ⟨gb1652, 2, none⟩ = some (.slice A0_2 l0_2.length c0_2)) (ds := []) #[false, false, false, false, false, false, false, false, false] (by kernel_rfl) rfl rfl ⟨(blk_cell BK1652.out 0).trans rfl, (blk_cell BK1652.out 1).trans rfl, (blk_cell BK1652.out 2).trans rfl⟩ (fun hHeld => ?_); refine with_tabW gradinelaw10_FroundRats.tab9 gradinelaw10_FroundRats.bits9 (fun HT_ HW_ => ?_)
       generalize wc.drew = w61 at HO_1664001 HO_1664002 BK1652 BK1663 HB hHeld ⊢
       refine ta 0 (some 36) HT_ HW_ hHeld ?_
       refine ta 2 (some 38) HT_ HW_ hHeld ?_
       refine on 1 (some 37) HT_ (fun K hK => ?_)
       refine goes_ Try.func80 (by kernel_rfl) rfl #[.agg #[.bool a0_0, .slice A0_1 l0_1.length c0_1, .slice A0_2 l0_2.length c0_2]] (by rfl) rfl rfl lx ?_
       with_reducible refine (fround_FromRat.calls kj40 a0_0 _ _ l0_1 _ _ l0_2 t1677 _ ?side1 ?side2 ?side3 ?side4 A57.out).mono ?_
       (case side1 => exact cs (Kd.C_below HR0_1.out HB.out))
       (case side2 => exact HC0_1.out)
       (case side3 => exact cs (Kd.C_below HR0_2.out HB.out))
       (case side4 => exact HC0_2.out)
       rintro e w62 ⟨rfl, hb⟩
       refine ⟨_, rfl, ?_⟩
       refine sw5 ⟨Kd.R_below (st HO_1664001.out) hb⟩ ⟨Kd.R_below (st HO_1664002.out) hb⟩ ⟨blk_below (bk BK1652.out) hb⟩ ⟨blk_below (bk BK1663.out) hb⟩ ⟨below_step hbb hb⟩ ?_
       clear HO_1664001 HO_1664002 BK1652 BK1663 HB
       intro HO_1664001 HO_1664002 BK1652 BK1663 HB
       refine hK.out _ _ ⟨(blk_cell BK1652.out 0).trans rfl, (blk_cell BK1652.out 1).trans rfl, (blk_cell BK1652.out 2).trans rfl⟩ (fun hHeld => ?_)
       clear hK K
       refine nm ?_
       refine on 3 (some 39) HT_ (fun K hK => ?_)
       refine goes_ Try.func84 (by kernel_rfl) rfl #[.agg #[.bool a0_0, .slice A0_1 l0_1.length c0_1, .slice A0_2 l0_2.length c0_2]] (by rfl) rfl rfl lx ?_
       with_reducible refine (gradineref10_FromRat.calls kj40 a0_0 _ _ l0_1 _ _ l0_2 t1678 _ ?side1 ?side2 ?side3 ?side4 A58.out).mono ?_
       (case side1 => exact cs (Kd.C_below HR0_1.out HB.out))
       (case side2 => exact HC0_1.out)
       (case side3 => exact cs (Kd.C_below HR0_2.out HB.out))
       (case side4 => exact HC0_2.out)
       rintro e w63 ⟨rfl, hb⟩
       refine ⟨_, rfl, ?_⟩
       refine sw5 ⟨Kd.R_below (st HO_1664001.out) hb⟩ ⟨Kd.R_below (st HO_1664002.out) hb⟩ ⟨blk_below (bk BK1652.out) hb⟩ ⟨blk_below (bk BK1663.out) hb⟩ ⟨below_step hbb hb⟩ ?_
       clear HO_1664001 HO_1664002 BK1652 BK1663 HB
       intro HO_1664001 HO_1664002 BK1652 BK1663 HB
       refine hK.out _ _ ⟨(blk_cell BK1652.out 0).trans rfl, (blk_cell BK1652.out 1).trans rfl, (blk_cell BK1652.out 2).trans rfl⟩ (fun hHeld => ?_)
       clear hK K
       refine nm ?_
       refine pu 4 (some 40) HT_ ?_
       refine pu 5 (some 41) HT_ ?_
       refine on 6 (some 42) HT_ (fun K hK => ?_)
       refine goes_ Try.func38 (by kernel_rfl) rfl #[] (by rfl) rfl rfl lx ?_
       with_reducible refine (gradinelaw10_same.calls kj40  t1679 _ A60.out).mono ?_
       rintro e w64 ⟨rfl, hb⟩
       refine ⟨_, rfl, ?_⟩
       refine sw5 ⟨Kd.R_below (st HO_1664001.out) hb⟩ ⟨Kd.R_below (st HO_1664002.out) hb⟩ ⟨blk_below (bk BK1652.out) hb⟩ ⟨blk_below (bk BK1663.out) hb⟩ ⟨below_step hbb hb⟩ ?_
       clear HO_1664001 HO_1664002 BK1652 BK1663 HB
       intro HO_1664001 HO_1664002 BK1652 BK1663 HB
       refine hK.out _ _ ⟨(blk_cell BK1652.out 0).trans rfl, (blk_cell BK1652.out 1).trans rfl, (blk_cell BK1652.out 2).trans rfl⟩ (fun hHeld => ?_)
       clear hK K
       refine nm ?_
       refine pu 7 (some 43) HT_ ?_
       refine pu 8 (some 4) HT_ ?_
       refine done_ (done_of HT_.out (by kernel_rfl)) ?_
       try go_wp2
       go_ret
       exact ⟨er, hbb⟩
      ·rw [if_neg c59] at H
       have c59b0 : (t1677 == t1678) = false := beq_eq_false_iff_ne.mpr c59
       have c59b1 : (t1677 != t1678) = true := bne_iff_ne.mpr c59
       obtain rfl := Option.some.inj H
       try go_wp2
       refine sw5 ⟨Kd.R_drew HO_1664001.out⟩ ⟨Kd.R_drew HO_1664002.out⟩ ⟨blk_drew BK1652.out⟩ ⟨blk_drew BK1663.out⟩ ⟨below_drew1 HB.out⟩ ?_
       clear HO_1664001 HO_1664002 BK1652 BK1663 HB
       intro HO_1664001 HO_1664002 BK1652 BK1663 HB
       refine start_ (n := 9) (S := fun w' => w'.cell? ⟨gb1652, 0, none⟩ = some (.bool a0_0) ∧ w'.cell? ⟨gb1652, 1, none⟩ = some (.slice A0_1 l0_1.length c0_1) ∧ w'.cell? ⟨gb1652, 2, none⟩ = some (.slice A0_2 l0_2.length c0_2)) (ds := []) #[false, false, false, false, false, false, false, false, false] (by kernel_rfl) rfl rfl ⟨(blk_cell BK1652.out 0).trans rfl, (blk_cell BK1652.out 1).trans rfl, (blk_cell BK1652.out 2).trans rfl⟩ (fun hHeld => ?_); refine with_tabW gradinelaw10_FroundRats.tab9 gradinelaw10_FroundRats.bits9 (fun HT_ HW_ => ?_)
       generalize wc.drew = w65 at HO_1664001 HO_1664002 BK1652 BK1663 HB hHeld ⊢
       refine ta 0 (some 36) HT_ HW_ hHeld ?_
       refine ta 2 (some 38) HT_ HW_ hHeld ?_
       refine on 1 (some 37) HT_ (fun K hK => ?_)
       refine goes_ Try.func80 (by kernel_rfl) rfl #[.agg #[.bool a0_0, .slice A0_1 l0_1.length c0_1, .slice A0_2 l0_2.length c0_2]] (by rfl) rfl rfl lx ?_
       with_reducible refine (fround_FromRat.calls kj40 a0_0 _ _ l0_1 _ _ l0_2 t1677 _ ?side1 ?side2 ?side3 ?side4 A57.out).mono ?_
       (case side1 => exact cs (Kd.C_below HR0_1.out HB.out))
       (case side2 => exact HC0_1.out)
       (case side3 => exact cs (Kd.C_below HR0_2.out HB.out))
       (case side4 => exact HC0_2.out)
       rintro e w66 ⟨rfl, hb⟩
       refine ⟨_, rfl, ?_⟩
       refine sw5 ⟨Kd.R_below (st HO_1664001.out) hb⟩ ⟨Kd.R_below (st HO_1664002.out) hb⟩ ⟨blk_below (bk BK1652.out) hb⟩ ⟨blk_below (bk BK1663.out) hb⟩ ⟨below_step hbb hb⟩ ?_
       clear HO_1664001 HO_1664002 BK1652 BK1663 HB
       intro HO_1664001 HO_1664002 BK1652 BK1663 HB
       refine hK.out _ _ ⟨(blk_cell BK1652.out 0).trans rfl, (blk_cell BK1652.out 1).trans rfl, (blk_cell BK1652.out 2).trans rfl⟩ (fun hHeld => ?_)
       clear hK K
       refine nm ?_
       refine on 3 (some 39) HT_ (fun K hK => ?_)
       refine goes_ Try.func84 (by kernel_rfl) rfl #[.agg #[.bool a0_0, .slice A0_1 l0_1.length c0_1, .slice A0_2 l0_2.length c0_2]] (by rfl) rfl rfl lx ?_
       with_reducible refine (gradineref10_FromRat.calls kj40 a0_0 _ _ l0_1 _ _ l0_2 t1678 _ ?side1 ?side2 ?side3 ?side4 A58.out).mono ?_
       (case side1 => exact cs (Kd.C_below HR0_1.out HB.out))
       (case side2 => exact HC0_1.out)
       (case side3 => exact cs (Kd.C_below HR0_2.out HB.out))
       (case side4 => exact HC0_2.out)
       rintro e w67 ⟨rfl, hb⟩
       refine ⟨_, rfl, ?_⟩
       refine sw5 ⟨Kd.R_below (st HO_1664001.out) hb⟩ ⟨Kd.R_below (st HO_1664002.out) hb⟩ ⟨blk_below (bk BK1652.out) hb⟩ ⟨blk_below (bk BK1663.out) hb⟩ ⟨below_step hbb hb⟩ ?_
       clear HO_1664001 HO_1664002 BK1652 BK1663 HB
       intro HO_1664001 HO_1664002 BK1652 BK1663 HB
       refine hK.out _ _ ⟨(blk_cell BK1652.out 0).trans rfl, (blk_cell BK1652.out 1).trans rfl, (blk_cell BK1652.out 2).trans rfl⟩ (fun hHeld => ?_)
       clear hK K
       refine nm ?_
       refine pu 4 (some 40) HT_ ?_
       refine pu 5 (some 41) HT_ ?_
       refine pv 6 (some 42) HT_ ?_
       refine pu 7 (some 43) HT_ ?_
       refine pu 8 (some 4) HT_ ?_
       refine done_ (done_of HT_.out (by kernel_rfl)) ?_
       try go_wp2
       go_ret
       exact ⟨er, hbb⟩
 ·replace c4 := Bool.eq_false_iff.mpr c4
  subst c4
  replace H := iff_ H
  obtain ⟨t1654, A68, H⟩ := bnd H
  obtain rfl := Option.some.inj H
  go_enter Try.func22, Try.ntmps22
  go_wp2_with (first | ((with_reducible refine gate_dst (N := 2) rfl ?_); refine box_event ?hg (N := 2) ?hd (cs := #[.bool a0_0, .slice A0_1 l0_1.length c0_1, .slice A0_2 l0_2.length c0_2]) (t := 32) ?hr ?_; (case hd => rfl); (case hg => rfl); (case hr => first | (go_simp; done) | (go_simp; rfl)); intro gb1652 hg w69 hbox hb; refine sw4 ⟨below_step hbb hb⟩ ⟨hbox⟩ ⟨gsz hg hbb⟩ ⟨gsz hg hbb⟩ ?_; clear HB; intro HB BK1652 GW1652 GE1652; clear hb hbox hg; obtain ⟨hcz70_0, hcz70_1, hcz70_2, hfz70_0, hfz70_1, hfz70_2⟩ := cz3 BK1652) | ((with_reducible refine gate_callee (f := 79) rfl ?_); refine goesL_ (some 8) rfl rfl Try.func79 (by kernel_rfl) rfl #[.agg #[.bool a0_0, .slice A0_1 l0_1.length c0_1, .slice A0_2 l0_2.length c0_2]] rfl lx ?_; (with_reducible refine (gradinelaw10_right.calls k a0_0 _ _ l0_1 _ _ l0_2 false _ ?side1 ?side2 ?side3 ?side4 A3.out).mono ?_); (case side1 => exact cs (Kd.C_below HR0_1.out HB.out)); (case side2 => exact HC0_1.out); (case side3 => exact cs (Kd.C_below HR0_2.out HB.out)); (case side4 => exact HC0_2.out); rintro e w71 ⟨rfl, hb⟩; refine ⟨_, rfl, ?_⟩; refine sw2 ⟨blk_below (bk BK1652.out) hb⟩ ⟨below_step hbb hb⟩ ?_; clear BK1652 HB; intro BK1652 HB) | ((with_reducible refine gate_callee (f := 38) rfl ?_); refine goesL_ (some 10) rfl rfl Try.func38 (by kernel_rfl) rfl #[] rfl lx ?_; (with_reducible refine (gradinelaw10_same.calls k  t1654 _ A68.out).mono ?_); rintro e w72 ⟨rfl, hb⟩; refine ⟨_, rfl, ?_⟩; refine sw2 ⟨blk_below (bk BK1652.out) hb⟩ ⟨below_step hbb hb⟩ ?_; clear BK1652 HB; intro BK1652 HB))
  go_ret
  exact ⟨er, hbb⟩

end Go.Proofs.Ytbpggonjcnakgaa.P
