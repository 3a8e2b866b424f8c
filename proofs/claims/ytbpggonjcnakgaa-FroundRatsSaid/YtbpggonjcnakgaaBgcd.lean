/- Functions of one package as Lean functions, and walks: written by a program for this claim. -/
import Derived.Test.YtbpggonjcnakgaaFbase
import Derived.Test.YtbpggonjcnakgaaBnat
import Derived.Test.YtbpggonjcnakgaaBquot
namespace Go.Proofs.Ytbpggonjcnakgaa.P
open Go.RowKit Go.Proofs.YtbpggonjcnakgaaW.PrintWords Go.Proofs.YtbpggonjcnakgaaW.PrintLast Go.Proofs.YtbpggonjcnakgaaW.PrintMore
attribute [local go_sem] max2_int min2_int max_two min_two max_three min_three max_four min_four   -- for this text's walks alone
set_option linter.unusedVariables false
set_option linter.unusedSimpArgs false

def gcd_words.l0 : Nat → Int → Int → Option (Int)
 | 0, _, _ => none
 | k + 1, x0, x1 => if x1 = 0 then (some x0) else (gcd_words.l0 k x1 (Int.tmod x0 x1))
def gcd_words.f (k : Nat) (a0 : Int) (a1 : Int) : Option (Int) := gcd_words.l0 k a0 a1
set_option maxHeartbeats 8000000 in
set_option maxRecDepth 100000 in
theorem gcd_words.calls (k : Nat) (a0 : Int) (a1 : Int) (r : Int) (w : World) (h : gcd_words.f k a0 a1 = some r) :
  Calls Try.prog 165 #[.int .u64 a0, .int .u64 a1] w fun e w' => e = .returned (.int .u64 r) ∧ Drawn0 w w' := by
 have H := h
 clear h
 unfold gcd_words.f at H
 have H' := Aside0.mk H
 clear H
 go_enter Try.func165, Try.ntmps165
 go_wp2
 repeat (go_quiet (fail); try go_wp2)
 go_loopg [0, 1] k (fun kq v0 v1 w' => ∃ (x0_1 : Int) (x1_1 : Int), v0 = .int .u64 x0_1 ∧ v1 = .int .u64 x1_1 ∧ Aside0 (gcd_words.l0 kq x0_1 x1_1 = some r) ∧ Aside0 (kq ≤ k) ∧ Drawn0 w w')
 case atStart => exact ⟨(a0), (a1), (by first | rfl | (simp; done) | (simp [*]; done)), (by first | rfl | (simp; done) | (simp [*]; done)), H', ⟨Nat.le_refl _⟩, by repeat (first | exact Drawn0.refl _ | apply Drawn0.step)⟩
 case round =>
  clear H'
  obtain ⟨x0_1, x1_1, rfl, rfl, HA, HK1, ⟨m1, rfl⟩⟩ := hrel
  cases gk with
  | zero => exact absurd HA.out (by simp [gcd_words.l0])
  | succ k1 =>
   have H := HA.out
   clear HA
   simp only [gcd_words.l0] at H
   by_cases c3 : x1_1 = 0
   ·rw [if_pos c3] at H
    have c3b0 : (x1_1 == 0) = true := beq_iff_eq.mpr c3
    have c3b1 : (x1_1 != 0) = false := bne_eq_false_iff_eq.mpr c3
    clear c3
    obtain rfl := Option.some.inj H
    go_wp2
    repeat (go_quiet (fail); try go_wp2)
    go_ret
    exact ⟨by first | rfl | (simp; done) | (simp [*]; done), by repeat (first | exact Drawn0.refl _ | apply Drawn0.step)⟩
   ·rw [if_neg c3] at H
    have c3b0 : (x1_1 == 0) = false := beq_eq_false_iff_ne.mpr c3
    have c3b1 : (x1_1 != 0) = true := bne_iff_ne.mpr c3
    have H' := Aside0.mk H
    clear H
    go_wp2
    repeat (go_quiet (fail); try go_wp2)
    go_roundg k1
    case measure => have := HK1.out; omega
    case rel => exact ⟨(x1_1), (Int.tmod x0_1 x1_1), (by first | rfl | (simp; done) | (simp [*]; done)), (by first | rfl | (simp; done) | (simp [*]; done)), H', ⟨by have := HK1.out; omega⟩, by repeat (first | exact Drawn0.refl _ | apply Drawn0.step)⟩

def gcd_Gcd.l0 : Nat → List Int → List Int → Option (List Int)
 | 0, _, _ => none
 | k + 1, x0, x1 => if (x1.length : Int) > 1 then ((quot_Div.f k x0 x1).bind fun bt1545 => (gcd_Gcd.l0 k x1 bt1545.2.1)) else ((nat_Word.f k x1).bind fun bt1552 => (if bt1552.1 = 0 then (some x0) else ((quot_Word.f k x0 bt1552.1).bind fun bt1554 => ((gcd_words.f k bt1552.1 bt1554.2.1).bind fun t1559 => ((nat_Of.f k t1559).bind fun t1560 => (some t1560))))))
def gcd_Gcd.f (k : Nat) (l0 : List Int) (l1 : List Int) : Option (List Int) := (nat_Trim.f k l0).bind fun t1539 => ((nat_Trim.f k l1).bind fun t1542 => (gcd_Gcd.l0 k t1539 t1542))
set_option maxHeartbeats 8000000 in
set_option maxRecDepth 100000 in
theorem gcd_Gcd.calls (k : Nat) (A0 : Option Addr) (c0 : Nat) (l0 : List Int) (A1 : Option Addr) (c1 : Nat) (l1 : List Int) (r : List Int) (w : World) (hr0 : Kd.C (Kd.int .u64) w A0 l0.length l0) (hc0 : l0.length ≤ c0) (hr1 : Kd.C (Kd.int .u64) w A1 l1.length l1) (hc1 : l1.length ≤ c1) (h : gcd_Gcd.f k l0 l1 = some r) :
  Calls Try.prog 164 #[.slice A0 l0.length c0, .slice A1 l1.length c1] w fun e w' => ∃ v0_ : Value, e = .returned (v0_) ∧ Kd.R (Kd.int .u64) 22 w' w.heap.size (fun _ => True) v0_ r ∧ Below w.heap.size w w' := by
 have HR0 := Aside0.mk hr0
 have HC0 := Aside0.mk hc0
 clear hr0 hc0
 have HR1 := Aside0.mk hr1
 have HC1 := Aside0.mk hc1
 clear hr1 hc1
 have HB := Aside0.mk (Below.refl w.heap.size w)
 have H := h
 clear h
 unfold gcd_Gcd.f at H
 obtain ⟨t1539, A3, H⟩ := bnd H
 obtain ⟨t1542, A4, H⟩ := bnd H
 have H' := Aside0.mk H
 clear H
 go_enter Try.func164, Try.ntmps164
 go_wp2_with (first | ((with_reducible refine gate_callee (f := 148) rfl ?_); refine goesL_ (some 14) rfl rfl Try.func148 (by kernel_rfl) rfl #[.slice A0 l0.length c0] rfl lx ?_; (with_reducible refine (nat_Trim.calls k _ _ l0 t1539 _ ?side1 ?side2 A3.out).mono ?_); (case side1 => exact cs HR0.out); (case side2 => exact HC0.out); rintro e w5 ⟨v1540, rfl, ho0, hb⟩; refine ⟨_, rfl, ?_⟩; refine sw2 ⟨Kd.R_lower ho0 (below_size (bb HB.out))⟩ ⟨below_step (bb HB.out) hb⟩ ?_; clear HB; intro HO1541 HB) | ((with_reducible refine gate_callee (f := 148) rfl ?_); refine goesL_ (some 16) rfl rfl Try.func148 (by kernel_rfl) rfl #[.slice A1 l1.length c1] rfl lx ?_; (with_reducible refine (nat_Trim.calls k _ _ l1 t1542 _ ?side1 ?side2 A4.out).mono ?_); (case side1 => exact cs (Kd.C_below HR1.out HB.out)); (case side2 => exact HC1.out); rintro e w6 ⟨v1543, rfl, ho0, hb⟩; refine ⟨_, rfl, ?_⟩; refine sw3 ⟨Kd.R_elder' (st HO1541.out) (Kd.R_base ho0) hb⟩ ⟨Kd.R_lower (Kd.R_new' ho0 (Kd.R_lt (st HO1541.out))) (below_size (bb HB.out))⟩ ⟨below_step (bb HB.out) hb⟩ ?_; clear HO1541 HB; intro HO1541 HO1544 HB))
 go_loopg [0, 1] k (fun kq v0 v1 w' => ∃ (x0_1 : List Int) (x1_1 : List Int), Aside0 (gcd_Gcd.l0 kq x0_1 x1_1 = some r) ∧ Aside0 (kq ≤ k) ∧ Aside0 (Kd.R (Kd.int .u64) 22 w' w.heap.size (fun k_ => some k_ ≠ (v1 : Value).ownBlock) v0 x0_1) ∧ Aside0 (Kd.R (Kd.int .u64) 22 w' w.heap.size (fun k_ => some k_ ≠ (v0 : Value).ownBlock) v1 x1_1) ∧ Aside0 (Below w.heap.size w w'))
 case atStart => exact ⟨(t1539), (t1542), H', ⟨Nat.le_refl _⟩, ⟨by (with_reducible repeat (first | apply Kd.R_alloc | apply Kd.R_drewN | apply Kd.R_drew)); exact Kd.R_mono HO1541.out (fun _ hk => hk.2)⟩, ⟨by (with_reducible repeat (first | apply Kd.R_alloc | apply Kd.R_drewN | apply Kd.R_drew)); exact Kd.R_mono HO1544.out (fun _ hk => hk.2)⟩, ⟨bb HB.out⟩⟩
 case round =>
  clear H'
  obtain ⟨x0_1, x1_1, HA, HK1, HO_0, HO_1, HB⟩ := hrel
  cases gk with
  | zero => exact absurd HA.out (by simp [gcd_Gcd.l0])
  | succ k1 =>
   have H := HA.out
   clear HA
   simp only [gcd_Gcd.l0] at H
   refine if c7 : (x1_1.length : Int) > 1 then ?p69_ else ?n69_
   case p69_ =>
    rw [if_pos c7] at H
    have c7b0 : decide (1 < (x1_1.length : Int)) = true := decide_eq_true c7
    have c7b1 : decide (1 < x1_1.length) = true := decide_eq_true (by omega)
    clear c7
    obtain ⟨⟨t1545, t1546, t1547⟩, A8, H⟩ := bnd H
    dsimp only at H
    have H' := Aside0.mk H
    clear H
    obtain ⟨Ao9, co9, eo9⟩ := Kd.R_slice HO_1.out
    subst eo9
    obtain ⟨Ao10, co10, eo10⟩ := Kd.R_slice HO_0.out
    subst eo10
    go_wp2_with (first | ((with_reducible refine gate_callee (f := 133) rfl ?_); refine goesL_ (some 23) rfl rfl Try.func133 (by kernel_rfl) rfl #[.slice Ao10 x0_1.length co10, .slice Ao9 x1_1.length co9] rfl lx ?_; (with_reducible refine (quot_Div.calls k1 _ _ x0_1 _ _ x1_1 t1545 t1546 t1547 _ ?side1 ?side2 ?side3 ?side4 A8.out).mono ?_); (case side1 => exact cs (Kd.R_reads' HO_0.out).2.2); (case side2 => exact (Kd.R_reads' HO_0.out).2.1); (case side3 => exact cs (Kd.R_reads' HO_1.out).2.2); (case side4 => exact (Kd.R_reads' HO_1.out).2.1); rintro e w11 ⟨v1548, v1550, rfl, ho0, ho1, hb⟩; refine ⟨_, rfl, ?_⟩; refine sw5 ⟨Kd.R_mono (Kd.R_told (Kd.R_told (Kd.R_old (st HO_0.out) hb) (Kd.R_base ho0)) (Kd.R_base ho1)) (fun _ h_ => h_.1)⟩ ⟨Kd.R_mono (Kd.R_told (Kd.R_told (Kd.R_old (st HO_1.out) hb) (Kd.R_base ho0)) (Kd.R_base ho1)) (fun _ h_ => h_.1)⟩ ⟨Kd.R_lower (Kd.R_new' (Kd.R_new' ho0 (Kd.R_lt (st HO_0.out))) (Kd.R_lt (st HO_1.out))) (below_size (bb HB.out))⟩ ⟨Kd.R_lower (Kd.R_new' (Kd.R_new' ho1 (Kd.R_lt (st HO_0.out))) (Kd.R_lt (st HO_1.out))) (below_size (bb HB.out))⟩ ⟨below_step (bb HB.out) hb⟩ ?_; clear HO_0 HO_1 HB; intro HO_0 HO_1 HO1549 HO1551 HB))
    go_roundg k1
    case measure => have := HK1.out; omega
    case rel => exact ⟨(x1_1), (t1546), H', ⟨by have := HK1.out; omega⟩, ⟨by (with_reducible repeat (first | apply Kd.R_alloc | apply Kd.R_drewN | apply Kd.R_drew)); exact Kd.R_mono HO_1.out (fun _ hk => hk.2)⟩, ⟨by (with_reducible repeat (first | apply Kd.R_alloc | apply Kd.R_drewN | apply Kd.R_drew)); exact Kd.R_mono HO1551.out (fun _ hk => hk.2)⟩, ⟨bb HB.out⟩⟩
   case' n69_ =>
    rw [if_neg c7] at H
    have c7b0 : decide (1 < (x1_1.length : Int)) = false := decide_eq_false c7
    have c7b1 : decide (1 < x1_1.length) = false := decide_eq_false (by omega)
    clear c7
    obtain ⟨⟨t1552, t1553⟩, A12, H⟩ := bnd H
    dsimp only at H
    refine if c13 : t1552 = 0 then ?p70_ else ?n70_
    case' p70_ =>
     rw [if_pos c13] at H
     have c13b0 : (t1552 == 0) = true := beq_iff_eq.mpr c13
     have c13b1 : (t1552 != 0) = false := bne_eq_false_iff_eq.mpr c13
     clear c13
     obtain rfl := Option.some.inj H
     obtain ⟨Ao14, co14, eo14⟩ := Kd.R_slice HO_1.out
     subst eo14
    case' n70_ =>
     rw [if_neg c13] at H
     have c13b0 : (t1552 == 0) = false := beq_eq_false_iff_ne.mpr c13
     have c13b1 : (t1552 != 0) = true := bne_iff_ne.mpr c13
     obtain ⟨⟨t1554, t1555, t1556⟩, A15, H⟩ := bnd H
     dsimp only at H
     obtain ⟨t1559, A16, H⟩ := bnd H
     obtain ⟨t1560, A17, H⟩ := bnd H
     obtain rfl := Option.some.inj H
     obtain ⟨Ao18, co18, eo18⟩ := Kd.R_slice HO_1.out
     subst eo18
   case p70_ | n70_ =>
    go_wp2_with (first | ((with_reducible refine gate_callee (f := 115) rfl ?_); refine goesL_ (some 31) rfl rfl Try.func115 (by kernel_rfl) rfl #[.slice Ao18 x1_1.length co18] rfl lx ?_; (with_reducible refine (nat_Word.calls k1 _ _ x1_1 t1552 t1553 _ ?side1 ?side2 A12.out).mono ?_); (case side1 => exact cs (Kd.R_reads' HO_1.out).2.2); (case side2 => exact (Kd.R_reads' HO_1.out).2.1); rintro e w' ⟨rfl, ⟨nd, rfl⟩⟩; refine ⟨_, rfl, ?_⟩; obtain ⟨Ao19, co19, eo19⟩ := Kd.R_slice HO_0.out; subst eo19) | ((with_reducible refine gate_callee (f := 154) rfl ?_); refine goesL_ (some 40) rfl rfl Try.func154 (by kernel_rfl) rfl #[.slice Ao19 x0_1.length co19, .int .u64 t1552] rfl lx ?_; (with_reducible refine (quot_Word.calls k1 _ _ x0_1 t1552 t1554 t1555 t1556 _ ?side1 ?side2 A15.out).mono ?_); (case side1 => exact cs (Kd.R_reads' HO_0.out).2.2); (case side2 => exact (Kd.R_reads' HO_0.out).2.1); rintro e w20 ⟨v1557, rfl, ho0, hb⟩; refine ⟨_, rfl, ?_⟩; refine sw4 ⟨Kd.R_elder' (st HO_0.out) (Kd.R_base ho0) hb⟩ ⟨Kd.R_elder' (st HO_1.out) (Kd.R_base ho0) hb⟩ ⟨Kd.R_lower (Kd.R_new' (Kd.R_new' ho0 (Kd.R_lt (st HO_0.out))) (Kd.R_lt (st HO_1.out))) (below_size (bb HB.out))⟩ ⟨below_step (bb HB.out) hb⟩ ?_; clear HO_0 HO_1 HB; intro HO_0 HO_1 HO1558 HB) | ((with_reducible refine gate_callee (f := 165) rfl ?_); refine goesL_ (some 46) rfl rfl Try.func165 (by kernel_rfl) rfl #[.int .u64 t1552, .int .u64 t1555] rfl lx ?_; (with_reducible refine (gcd_words.calls k1 t1552 t1555 t1559 _ A16.out).mono ?_); rintro e w' ⟨rfl, ⟨nd, rfl⟩⟩; refine ⟨_, rfl, ?_⟩) | ((with_reducible refine gate_callee (f := 113) rfl ?_); refine goesL_ (some 47) rfl rfl Try.func113 (by kernel_rfl) rfl #[.int .u64 t1559] rfl lx ?_; (with_reducible refine (nat_Of.calls k1 t1559 t1560 _ A17.out).mono ?_); rintro e w21 ⟨v1561, rfl, ho0, hb⟩; refine ⟨_, rfl, ?_⟩; refine sw5 ⟨Kd.R_elder' (st HO_0.out) (Kd.R_base ho0) hb⟩ ⟨Kd.R_elder' (st HO_1.out) (Kd.R_base ho0) hb⟩ ⟨Kd.R_elder' (st HO1558.out) (Kd.R_base ho0) hb⟩ ⟨Kd.R_lower (Kd.R_new' (Kd.R_new' (Kd.R_new' ho0 (Kd.R_lt (st HO_0.out))) (Kd.R_lt (st HO_1.out))) (Kd.R_lt (st HO1558.out))) (below_size (bb HB.out))⟩ ⟨below_step (bb HB.out) hb⟩ ?_; clear HO_0 HO_1 HO1558 HB; intro HO_0 HO_1 HO1558 HO1562 HB) | ((with_reducible refine gate_callee (f := 115) rfl ?_); refine goesL_ (some 31) rfl rfl Try.func115 (by kernel_rfl) rfl #[.slice Ao14 x1_1.length co14] rfl lx ?_; (with_reducible refine (nat_Word.calls k1 _ _ x1_1 t1552 t1553 _ ?side1 ?side2 A12.out).mono ?_); (case side1 => exact cs (Kd.R_reads' HO_1.out).2.2); (case side2 => exact (Kd.R_reads' HO_1.out).2.1); rintro e w' ⟨rfl, ⟨nd, rfl⟩⟩; refine ⟨_, rfl, ?_⟩))
    go_ret
    first | (exact ⟨_, by first | rfl | (simp [errW_none, errW_some] <;> rfl) | (simp [*, errW_none, errW_some] <;> rfl), by (with_reducible repeat (first | apply Kd.R_alloc | apply Kd.R_drewN | apply Kd.R_drew)); exact Kd.R_mono HO1562.out (fun _ hk => trivial), hbb⟩) | (exact ⟨_, by first | rfl | (simp [errW_none, errW_some] <;> rfl) | (simp [*, errW_none, errW_some] <;> rfl), by (with_reducible repeat (first | apply Kd.R_alloc | apply Kd.R_drewN | apply Kd.R_drew)); exact Kd.R_mono HO_0.out (fun _ hk => trivial), hbb⟩)

def gcd_Reduce.f (k : Nat) (l0 : List Int) (l1 : List Int) : Option (List Int × List Int) := (gcd_Gcd.f k l0 l1).bind fun t1563 => (if (t1563.length : Int) = 0 then (some (([] : List Int), ([] : List Int))) else ((quot_Div.f k l0 t1563).bind fun bt1566 => ((quot_Div.f k l1 t1563).bind fun bt1573 => (some (bt1566.1, bt1573.1)))))
set_option maxHeartbeats 8000000 in
set_option maxRecDepth 100000 in
theorem gcd_Reduce.calls (k : Nat) (A0 : Option Addr) (c0 : Nat) (l0 : List Int) (A1 : Option Addr) (c1 : Nat) (l1 : List Int) (r1 : List Int) (r2 : List Int) (w : World) (hr0 : Kd.C (Kd.int .u64) w A0 l0.length l0) (hc0 : l0.length ≤ c0) (hr1 : Kd.C (Kd.int .u64) w A1 l1.length l1) (hc1 : l1.length ≤ c1) (h : gcd_Reduce.f k l0 l1 = some (r1, r2)) :
  Calls Try.prog 161 #[.slice A0 l0.length c0, .slice A1 l1.length c1] w fun e w' => ∃ v0_ v1_ : Value, e = .returned (.tuple #[v0_, v1_]) ∧ Kd.R (Kd.int .u64) 22 w' w.heap.size (fun k_ => some k_ ≠ (v1_ : Value).ownBlock) v0_ r1 ∧ Kd.R (Kd.int .u64) 22 w' w.heap.size (fun k_ => some k_ ≠ (v0_ : Value).ownBlock) v1_ r2 ∧ Below w.heap.size w w' := by
 have HR0 := Aside0.mk hr0
 have HC0 := Aside0.mk hc0
 clear hr0 hc0
 have HR1 := Aside0.mk hr1
 have HC1 := Aside0.mk hc1
 clear hr1 hc1
 have HB := Aside0.mk (Below.refl w.heap.size w)
 have H := h
 clear h
 unfold gcd_Reduce.f at H
 obtain ⟨t1563, A3, H⟩ := bnd H
 by_cases c4 : (t1563.length : Int) = 0
 ·rw [if_pos c4] at H
  have c4b0 : ((t1563.length : Int) == 0) = true := beq_iff_eq.mpr c4
  have c4b1 : ((t1563.length : Int) != 0) = false := bne_eq_false_iff_eq.mpr c4
  clear c4
  simp only [Option.some.injEq, Prod.mk.injEq] at H
  obtain ⟨rfl, rfl⟩ := H
  go_enter Try.func161, Try.ntmps161
  go_wp2_with (first | ((with_reducible refine gate_callee (f := 164) rfl ?_); refine goesL_ (some 15) rfl rfl Try.func164 (by kernel_rfl) rfl #[.slice A0 l0.length c0, .slice A1 l1.length c1] rfl lx ?_; (with_reducible refine (gcd_Gcd.calls k _ _ l0 _ _ l1 t1563 _ ?side1 ?side2 ?side3 ?side4 A3.out).mono ?_); (case side1 => exact cs HR0.out); (case side2 => exact HC0.out); (case side3 => exact cs HR1.out); (case side4 => exact HC1.out); rintro e w5 ⟨v1564, rfl, ho0, hb⟩; refine ⟨_, rfl, ?_⟩; refine sw2 ⟨Kd.R_lower ho0 (below_size (bb HB.out))⟩ ⟨below_step (bb HB.out) hb⟩ ?_; clear HB; intro HO1565 HB; obtain ⟨Ao6, co6, eo6⟩ := Kd.R_slice HO1565.out; subst eo6))
  go_ret2
  exact ⟨_, _, by first | rfl | (simp [errW_none, errW_some] <;> rfl) | (simp [*, errW_none, errW_some] <;> rfl), by first | exact Kd.R_nil _ _ _ _ _ | exact Kd.N_nil _ _ _ _ _ | exact Kd.V_nil _ _ _ _ _ | exact Kd.Q_nil _ _ _ _ _ | exact Kd.S_nil _ _ _ _ _, by first | exact Kd.R_nil _ _ _ _ _ | exact Kd.N_nil _ _ _ _ _ | exact Kd.V_nil _ _ _ _ _ | exact Kd.Q_nil _ _ _ _ _ | exact Kd.S_nil _ _ _ _ _, hbb⟩
 ·rw [if_neg c4] at H
  have c4b0 : ((t1563.length : Int) == 0) = false := beq_eq_false_iff_ne.mpr c4
  have c4b1 : ((t1563.length : Int) != 0) = true := bne_iff_ne.mpr c4
  have c4b2 : ¬ (t1563 = []) := fun h_ => c4 (by rw [h_]; rfl)
  obtain ⟨⟨t1566, t1567, t1568⟩, A7, H⟩ := bnd H
  dsimp only at H
  obtain ⟨⟨t1573, t1574, t1575⟩, A8, H⟩ := bnd H
  dsimp only at H
  simp only [Option.some.injEq, Prod.mk.injEq] at H
  obtain ⟨rfl, rfl⟩ := H
  go_enter Try.func161, Try.ntmps161
  go_wp2_with (first | ((with_reducible refine gate_callee (f := 164) rfl ?_); refine goesL_ (some 15) rfl rfl Try.func164 (by kernel_rfl) rfl #[.slice A0 l0.length c0, .slice A1 l1.length c1] rfl lx ?_; (with_reducible refine (gcd_Gcd.calls k _ _ l0 _ _ l1 t1563 _ ?side1 ?side2 ?side3 ?side4 A3.out).mono ?_); (case side1 => exact cs HR0.out); (case side2 => exact HC0.out); (case side3 => exact cs HR1.out); (case side4 => exact HC1.out); rintro e w9 ⟨v1564, rfl, ho0, hb⟩; refine ⟨_, rfl, ?_⟩; refine sw2 ⟨Kd.R_lower ho0 (below_size (bb HB.out))⟩ ⟨below_step (bb HB.out) hb⟩ ?_; clear HB; intro HO1565 HB; obtain ⟨Ao10, co10, eo10⟩ := Kd.R_slice HO1565.out; subst eo10) | ((with_reducible refine gate_callee (f := 133) rfl ?_); refine goesL_ (some 22) rfl rfl Try.func133 (by kernel_rfl) rfl #[.slice A0 l0.length c0, .slice Ao10 t1563.length co10] rfl lx ?_; (with_reducible refine (quot_Div.calls k _ _ l0 _ _ t1563 t1566 t1567 t1568 _ ?side1 ?side2 ?side3 ?side4 A7.out).mono ?_); (case side1 => exact cs (Kd.C_below HR0.out HB.out)); (case side2 => exact HC0.out); (case side3 => exact cs (Kd.R_reads' HO1565.out).2.2); (case side4 => exact (Kd.R_reads' HO1565.out).2.1); rintro e w11 ⟨v1569, v1571, rfl, ho0, ho1, hb⟩; refine ⟨_, rfl, ?_⟩; refine sw4 ⟨Kd.R_mono (Kd.R_told (Kd.R_told (Kd.R_old (st HO1565.out) hb) (Kd.R_base ho0)) (Kd.R_base ho1)) (fun _ h_ => h_.1)⟩ ⟨Kd.R_lower (Kd.R_new' ho0 (Kd.R_lt (st HO1565.out))) (below_size (bb HB.out))⟩ ⟨Kd.R_lower (Kd.R_new' ho1 (Kd.R_lt (st HO1565.out))) (below_size (bb HB.out))⟩ ⟨below_step (bb HB.out) hb⟩ ?_; clear HO1565 HB; intro HO1565 HO1570 HO1572 HB) | ((with_reducible refine gate_callee (f := 133) rfl ?_); refine goesL_ (some 29) rfl rfl Try.func133 (by kernel_rfl) rfl #[.slice A1 l1.length c1, .slice Ao10 t1563.length co10] rfl lx ?_; (with_reducible refine (quot_Div.calls k _ _ l1 _ _ t1563 t1573 t1574 t1575 _ ?side1 ?side2 ?side3 ?side4 A8.out).mono ?_); (case side1 => exact cs (Kd.C_below HR1.out HB.out)); (case side2 => exact HC1.out); (case side3 => exact cs (Kd.R_reads' HO1565.out).2.2); (case side4 => exact (Kd.R_reads' HO1565.out).2.1); rintro e w12 ⟨v1576, v1578, rfl, ho0, ho1, hb⟩; refine ⟨_, rfl, ?_⟩; refine sw6 ⟨Kd.R_mono (Kd.R_told (Kd.R_told (Kd.R_old (st HO1565.out) hb) (Kd.R_base ho0)) (Kd.R_base ho1)) (fun _ h_ => h_.1)⟩ ⟨Kd.R_mono (Kd.R_told (Kd.R_told (Kd.R_old (st HO1570.out) hb) (Kd.R_base ho0)) (Kd.R_base ho1)) (fun _ h_ => h_.1)⟩ ⟨Kd.R_mono (Kd.R_told (Kd.R_told (Kd.R_old (st HO1572.out) hb) (Kd.R_base ho0)) (Kd.R_base ho1)) (fun _ h_ => h_.1)⟩ ⟨Kd.R_lower (Kd.R_new' (Kd.R_new' (Kd.R_new' ho0 (Kd.R_lt (st HO1565.out))) (Kd.R_lt (st HO1570.out))) (Kd.R_lt (st HO1572.out))) (below_size (bb HB.out))⟩ ⟨Kd.R_lower (Kd.R_new' (Kd.R_new' (Kd.R_new' ho1 (Kd.R_lt (st HO1565.out))) (Kd.R_lt (st HO1570.out))) (Kd.R_lt (st HO1572.out))) (below_size (bb HB.out))⟩ ⟨below_step (bb HB.out) hb⟩ ?_; clear HO1565 HO1570 HO1572 HB; intro HO1565 HO1570 HO1572 HO1577 HO1579 HB))
  go_ret2
  exact ⟨_, _, by first | rfl | (simp [errW_none, errW_some] <;> rfl) | (simp [*, errW_none, errW_some] <;> rfl), by (with_reducible repeat (first | apply Kd.R_alloc | apply Kd.R_drewN | apply Kd.R_drew)); exact Kd.R_mono HO1570.out (fun _ hk => hk.1.2), by (with_reducible repeat (first | apply Kd.R_alloc | apply Kd.R_drewN | apply Kd.R_drew)); exact Kd.R_mono HO1577.out (fun _ hk => hk.1.2), hbb⟩

end Go.Proofs.Ytbpggonjcnakgaa.P
