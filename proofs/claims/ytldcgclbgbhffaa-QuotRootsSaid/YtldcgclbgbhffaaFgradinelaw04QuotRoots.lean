/- Functions of the seat as Lean functions, and walks: written by a program for this claim. -/
import Derived.Test.YtldcgclbgbhffaaFbase
import Derived.Test.YtldcgclbgbhffaaBnat
import Derived.Test.YtldcgclbgbhffaaBgradineplain
import Derived.Test.YtldcgclbgbhffaaBprod
import Derived.Test.YtldcgclbgbhffaaBquot
import Derived.Test.YtldcgclbgbhffaaFgradinelaw04same
import Derived.Test.YtldcgclbgbhffaaBgradineref04
namespace Go.Proofs.Ytldcgclbgbhffaa.P
open Go.RowKit Go.Proofs.YtldcgclbgbhffaaW.PrintWords Go.Proofs.YtldcgclbgbhffaaW.PrintLast Go.Proofs.YtldcgclbgbhffaaW.PrintMore
attribute [local go_sem] max2_int min2_int max_two min_two max_three min_three max_four min_four   -- for this text's walks alone
set_option linter.unusedVariables false
set_option linter.unusedSimpArgs false

/-! ### gradinelaw04_QuotRoots: function 21 -/
def gradinelaw04_QuotRoots.j0 : Nat → List Int → List Int → Bool → Option (Bool)
  | 0, _, _, _ => none
  | k + 1, x0, x3, x38 => if x38 = true then (some false) else ((gradineref04_Root.f k x0).bind fun t1233 => ((gradineplain_Words.f k x3 t1233).bind fun t1236 => (if t1236 = true then ((prod_Mul.f k x0 x0).bind fun t1237 => ((quot_Square.f k t1237).bind fun t1240 => (if t1240 = true then ((gradinelaw04_same.f k).bind fun t1241 => (some t1241)) else (some false)))) else (some false))))
def gradinelaw04_QuotRoots.f (k : Nat) (l0 : List Int) : Option (Bool) := if (l0.length : Int) > 16 then ((gradinelaw04_same.f k).bind fun t1213 => (some t1213)) else ((quot_Root.f k l0).bind fun t1214 => ((nat_Add.f k t1214 (([1] : List Int))).bind fun t1220 => ((prod_Mul.f k t1214 t1214).bind fun t1223 => ((nat_Cmp.f k t1223 l0).bind fun t1226 => (if t1226 > 0 then (gradinelaw04_QuotRoots.j0 k l0 t1214 true) else ((prod_Mul.f k t1220 t1220).bind fun t1227 => ((nat_Cmp.f k t1227 l0).bind fun t1230 => (if t1230 ≤ 0 then (gradinelaw04_QuotRoots.j0 k l0 t1214 true) else ((quot_Square.f k l0).bind fun t1231 => ((nat_Cmp.f k t1223 l0).bind fun t1232 => (gradinelaw04_QuotRoots.j0 k l0 t1214 (t1231 != (t1232 == 0)))))))))))))
set_option maxHeartbeats 8000000 in
set_option maxRecDepth 100000 in
theorem gradinelaw04_QuotRoots.calls (k : Nat) (A0 : Option Addr) (c0 : Nat) (l0 : List Int) (r : Bool) (w : World) (hr0 : Kd.C (Kd.int .u64) w A0 l0.length l0) (hc0 : l0.length ≤ c0) (h : gradinelaw04_QuotRoots.f k l0 = some r) :
    Calls Try.prog 21 #[.slice A0 l0.length c0] w fun e w' => e = .returned (.bool r) ∧ Below w.heap.size w w' := by
  have HR0 := Aside0.mk hr0
  have HC0 := Aside0.mk hc0
  clear hr0 hc0
  have HB := Aside0.mk (Below.refl w.heap.size w)
  have H : (if (l0.length : Int) > 16 then ((gradinelaw04_same.f k).bind fun t1213 => (some t1213)) else ((quot_Root.f k l0).bind fun t1214 => ((nat_Add.f k t1214 (([1] : List Int))).bind fun t1220 => ((prod_Mul.f k t1214 t1214).bind fun t1223 => ((nat_Cmp.f k t1223 l0).bind fun t1226 => (if t1226 > 0 then (gradinelaw04_QuotRoots.j0 k l0 t1214 true) else ((prod_Mul.f k t1220 t1220).bind fun t1227 => ((nat_Cmp.f k t1227 l0).bind fun t1230 => (if t1230 ≤ 0 then (gradinelaw04_QuotRoots.j0 k l0 t1214 true) else ((quot_Square.f k l0).bind fun t1231 => ((nat_Cmp.f k t1223 l0).bind fun t1232 => (gradinelaw04_QuotRoots.j0 k l0 t1214 (t1231 != (t1232 == 0)))))))))))))) = some r := h
  clear h
  by_cases c2 : (l0.length : Int) > 16
  · rw [if_pos c2] at H
    have c2b0 : decide (16 < (l0.length : Int)) = true := decide_eq_true c2
    have c2b1 : decide (16 < l0.length) = true := decide_eq_true (by omega)
    clear c2
    replace H := Option.bind_eq_some_iff.mp H
    obtain ⟨t1213, A30, H⟩ := H
    replace H : (some t1213) = some r := H
    have A3 := Aside0.mk A30
    clear A30
    obtain rfl := Option.some.inj H
    go_enter Try.func21, Try.ntmps21
    go_wp2_with (first | ((with_reducible refine gate_callee (f := 80) rfl ?_); refine goesL_ (some 9) rfl rfl Try.func80 (by kernel_rfl) rfl #[] rfl (by (try simp only [List.map_toArray, List.map_cons, List.map_nil]); first | done | rfl | (simp only [List.length_drop, List.length_take]; rfl) | (simp only [*]; done)) ?_; (with_reducible refine (gradinelaw04_same.calls k  t1213 _ A3.out).mono ?_); rintro e w4 ⟨rfl, hb⟩; refine ⟨_, rfl, ?_⟩; have n0_ := Aside0.mk (below_step (bb HB.out) hb); clear HB; have HB := n0_; clear n0_; (try clear hb); (try clear hb2); (try clear hk); (try clear hi)))
    go_ret
    exact ⟨by first | rfl | (simp [errW_none, errW_some] <;> rfl) | (simp [*, errW_none, errW_some] <;> rfl), by repeat (first | (with_reducible first | exact HB.out | apply below_alloc | apply pw_below_drewN | apply below_drew1) | exact HB.out)⟩
  · rw [if_neg c2] at H
    have c2b0 : decide (16 < (l0.length : Int)) = false := decide_eq_false c2
    have c2b1 : decide (16 < l0.length) = false := decide_eq_false (by omega)
    clear c2
    replace H := Option.bind_eq_some_iff.mp H
    obtain ⟨t1214, A50, H⟩ := H
    replace H : ((nat_Add.f k t1214 (([1] : List Int))).bind fun t1220 => ((prod_Mul.f k t1214 t1214).bind fun t1223 => ((nat_Cmp.f k t1223 l0).bind fun t1226 => (if t1226 > 0 then (gradinelaw04_QuotRoots.j0 k l0 t1214 true) else ((prod_Mul.f k t1220 t1220).bind fun t1227 => ((nat_Cmp.f k t1227 l0).bind fun t1230 => (if t1230 ≤ 0 then (gradinelaw04_QuotRoots.j0 k l0 t1214 true) else ((quot_Square.f k l0).bind fun t1231 => ((nat_Cmp.f k t1223 l0).bind fun t1232 => (gradinelaw04_QuotRoots.j0 k l0 t1214 (t1231 != (t1232 == 0)))))))))))) = some r := H
    have A5 := Aside0.mk A50
    clear A50
    obtain ⟨y1217, hy1217⟩ : ∃ y_ : List Int, y_ = (([1] : List Int)) := ⟨_, rfl⟩
    replace H : ((nat_Add.f k t1214 y1217).bind fun t1220 => ((prod_Mul.f k t1214 t1214).bind fun t1223 => ((nat_Cmp.f k t1223 l0).bind fun t1226 => (if t1226 > 0 then (gradinelaw04_QuotRoots.j0 k l0 t1214 true) else ((prod_Mul.f k t1220 t1220).bind fun t1227 => ((nat_Cmp.f k t1227 l0).bind fun t1230 => (if t1230 ≤ 0 then (gradinelaw04_QuotRoots.j0 k l0 t1214 true) else ((quot_Square.f k l0).bind fun t1231 => ((nat_Cmp.f k t1223 l0).bind fun t1232 => (gradinelaw04_QuotRoots.j0 k l0 t1214 (t1231 != (t1232 == 0)))))))))))) = some r := by first | (rw [hy1217]; with_reducible exact H) | (have H2_ := (Option.bind_some _ _).symm.trans H; rw [hy1217]; with_reducible exact H2_) | (have H2_ := (Option.bind_some _ _).symm.trans H; with_reducible exact H2_) | with_reducible exact H | (rw [hy1217]; exact H) | exact H
    have Ny1217 := Aside0.mk hy1217
    clear hy1217
    replace H := Option.bind_eq_some_iff.mp H
    obtain ⟨t1220, A60, H⟩ := H
    replace H : ((prod_Mul.f k t1214 t1214).bind fun t1223 => ((nat_Cmp.f k t1223 l0).bind fun t1226 => (if t1226 > 0 then (gradinelaw04_QuotRoots.j0 k l0 t1214 true) else ((prod_Mul.f k t1220 t1220).bind fun t1227 => ((nat_Cmp.f k t1227 l0).bind fun t1230 => (if t1230 ≤ 0 then (gradinelaw04_QuotRoots.j0 k l0 t1214 true) else ((quot_Square.f k l0).bind fun t1231 => ((nat_Cmp.f k t1223 l0).bind fun t1232 => (gradinelaw04_QuotRoots.j0 k l0 t1214 (t1231 != (t1232 == 0))))))))))) = some r := H
    have A6 := Aside0.mk A60
    clear A60
    replace H := Option.bind_eq_some_iff.mp H
    obtain ⟨t1223, A70, H⟩ := H
    replace H : ((nat_Cmp.f k t1223 l0).bind fun t1226 => (if t1226 > 0 then (gradinelaw04_QuotRoots.j0 k l0 t1214 true) else ((prod_Mul.f k t1220 t1220).bind fun t1227 => ((nat_Cmp.f k t1227 l0).bind fun t1230 => (if t1230 ≤ 0 then (gradinelaw04_QuotRoots.j0 k l0 t1214 true) else ((quot_Square.f k l0).bind fun t1231 => ((nat_Cmp.f k t1223 l0).bind fun t1232 => (gradinelaw04_QuotRoots.j0 k l0 t1214 (t1231 != (t1232 == 0)))))))))) = some r := H
    have A7 := Aside0.mk A70
    clear A70
    have HC8 := Aside0.mk H
    clear H
    go_enter Try.func21, Try.ntmps21
    go_upto_region 6 with (first | ((with_reducible refine gate_callee (f := 88) rfl ?_); refine goesL_ (some 11) rfl rfl Try.func88 (by kernel_rfl) rfl #[.slice A0 l0.length c0] rfl (by (try simp only [List.map_toArray, List.map_cons, List.map_nil]); first | done | rfl | (simp only [List.length_drop, List.length_take]; rfl) | (simp only [*]; done)) ?_; (with_reducible refine (quot_Root.calls k _ _ l0 t1214 _ ?side1 ?side2 A5.out).mono ?_); (case side1 => exact cs HR0.out); (case side2 => exact HC0.out); rintro e w9 ⟨v1215, rfl, ho0, hb⟩; refine ⟨_, rfl, ?_⟩; have n0_ := Aside0.mk (Kd.R_lower ho0 (below_size (bb HB.out))); have n1_ := Aside0.mk (below_step (bb HB.out) hb); clear HB; have HO1216 := n0_; have HB := n1_; clear n0_ n1_; (try clear hb); (try clear hb2); (try clear hk); (try clear hi); (try clear ho0)) | ((with_reducible refine gate_dst (N := 13) rfl ?_); refine Kd.R_lit (Kd.int .u64) _ 22 ?hg (N := 13) ?hd (xs := ([1] : List Int)) (inner := [.int .u64 1]) (ok := fun _ => True) (okp := fun _ => True) ?hr ?hp (fun _ hk => hk) trivial (Below.refl _ _) (Nat.le_refl _) (by simp) ?_; (case hd => rfl); (case hg => rfl); (case hr => first | (go_simp; done) | (go_simp; rfl)); (case hp => exact (Reps.one (show Kd.M (Kd.int .u64) _ _ _ 1 [.int .u64 1] from rfl) (Reps.none _ _))); intro v1218 w10 ho11 hb hg_ hnew_; clear hg_ hnew_; (first | rw [← Ny1217.out] at ho11 | (simp only [Int.reduceToNat] at ho11; rw [← Ny1217.out] at ho11)); have n0_ := Aside0.mk (Kd.R_elder' (st HO1216.out) (Kd.R_base ho11) hb); have n1_ := Aside0.mk (Kd.R_lower (Kd.R_new' ho11 (Kd.R_lt (st HO1216.out))) (below_size (bb HB.out))); have n2_ := Aside0.mk (below_step (bb HB.out) hb); clear HO1216; clear HB; have HO1216 := n0_; have HO1219 := n1_; have HB := n2_; clear n0_ n1_ n2_; clear hb ho11; obtain ⟨Ao12, co12, eo12⟩ := Kd.R_slice HO1216.out; subst eo12; obtain ⟨Ao13, co13, eo13⟩ := Kd.R_slice HO1219.out; subst eo13) | ((with_reducible refine gate_callee (f := 63) rfl ?_); refine goesL_ (some 14) rfl rfl Try.func63 (by kernel_rfl) rfl #[.slice Ao12 t1214.length co12, .slice Ao13 y1217.length co13] rfl (by (try simp only [List.map_toArray, List.map_cons, List.map_nil]); first | done | rfl | (simp only [List.length_drop, List.length_take]; rfl) | (simp only [*]; done)) ?_; (with_reducible refine (nat_Add.calls k _ _ t1214 _ _ y1217 t1220 _ ?side1 ?side2 ?side3 ?side4 A6.out).mono ?_); (case side1 => exact cs (Kd.R_reads' HO1216.out).2.2); (case side2 => exact (Kd.R_reads' HO1216.out).2.1); (case side3 => exact cs (Kd.R_reads' HO1219.out).2.2); (case side4 => exact (Kd.R_reads' HO1219.out).2.1); rintro e w14 ⟨v1221, rfl, ho0, hb⟩; refine ⟨_, rfl, ?_⟩; have n0_ := Aside0.mk (Kd.R_elder' (st HO1216.out) (Kd.R_base ho0) hb); have n1_ := Aside0.mk (Kd.R_elder' (st HO1219.out) (Kd.R_base ho0) hb); have n2_ := Aside0.mk (Kd.R_lower (Kd.R_new' (Kd.R_new' ho0 (Kd.R_lt (st HO1216.out))) (Kd.R_lt (st HO1219.out))) (below_size (bb HB.out))); have n3_ := Aside0.mk (below_step (bb HB.out) hb); clear HO1216; clear HO1219; clear HB; have HO1216 := n0_; have HO1219 := n1_; have HO1222 := n2_; have HB := n3_; clear n0_ n1_ n2_ n3_; (try clear hb); (try clear hb2); (try clear hk); (try clear hi); (try clear ho0)) | ((with_reducible refine gate_callee (f := 71) rfl ?_); refine goesL_ (some 17) rfl rfl Try.func71 (by kernel_rfl) rfl #[.slice Ao12 t1214.length co12, .slice Ao12 t1214.length co12] rfl (by (try simp only [List.map_toArray, List.map_cons, List.map_nil]); first | done | rfl | (simp only [List.length_drop, List.length_take]; rfl) | (simp only [*]; done)) ?_; (with_reducible refine (prod_Mul.calls k _ _ t1214 _ _ t1214 t1223 _ ?side1 ?side2 ?side3 ?side4 A7.out).mono ?_); (case side1 => exact cs (Kd.R_reads' HO1216.out).2.2); (case side2 => exact (Kd.R_reads' HO1216.out).2.1); (case side3 => exact cs (Kd.R_reads' HO1216.out).2.2); (case side4 => exact (Kd.R_reads' HO1216.out).2.1); rintro e w15 ⟨v1224, rfl, ho0, hb⟩; refine ⟨_, rfl, ?_⟩; have n0_ := Aside0.mk (Kd.R_elder' (st HO1216.out) (Kd.R_base ho0) hb); have n1_ := Aside0.mk (Kd.R_elder' (st HO1219.out) (Kd.R_base ho0) hb); have n2_ := Aside0.mk (Kd.R_elder' (st HO1222.out) (Kd.R_base ho0) hb); have n3_ := Aside0.mk (Kd.R_lower (Kd.R_new' (Kd.R_new' (Kd.R_new' ho0 (Kd.R_lt (st HO1216.out))) (Kd.R_lt (st HO1219.out))) (Kd.R_lt (st HO1222.out))) (below_size (bb HB.out))); have n4_ := Aside0.mk (below_step (bb HB.out) hb); clear HO1216; clear HO1219; clear HO1222; clear HB; have HO1216 := n0_; have HO1219 := n1_; have HO1222 := n2_; have HO1225 := n3_; have HB := n4_; clear n0_ n1_ n2_ n3_ n4_; (try clear hb); (try clear hb2); (try clear hk); (try clear hi); (try clear ho0)))
    (try simp only [Act.put, List.setIfInBounds_toArray, List.set_cons_zero, List.set_cons_succ])
    go_cut [38] (fun v38 wc => ∃ (kq : Nat) (x38_7 : Bool), v38 = .bool x38_7 ∧ Aside0 (gradinelaw04_QuotRoots.j0 kq l0 t1214 x38_7 = some r) ∧ Aside0 (kq ≤ k) ∧ Aside0 (Kd.R (Kd.int .u64) 22 wc w.heap.size (fun _ => True) (.slice Ao12 t1214.length co12) t1214) ∧ Aside0 (Below w.heap.size w wc))
    case first =>
      have H := HC8.out
      clear HC8
      replace H := Option.bind_eq_some_iff.mp H
      obtain ⟨t1226, A160, H⟩ := H
      replace H : (if t1226 > 0 then (gradinelaw04_QuotRoots.j0 k l0 t1214 true) else ((prod_Mul.f k t1220 t1220).bind fun t1227 => ((nat_Cmp.f k t1227 l0).bind fun t1230 => (if t1230 ≤ 0 then (gradinelaw04_QuotRoots.j0 k l0 t1214 true) else ((quot_Square.f k l0).bind fun t1231 => ((nat_Cmp.f k t1223 l0).bind fun t1232 => (gradinelaw04_QuotRoots.j0 k l0 t1214 (t1231 != (t1232 == 0))))))))) = some r := H
      have A16 := Aside0.mk A160
      clear A160
      by_cases c17 : t1226 > 0
      · rw [if_pos c17] at H
        have c17b0 : decide (0 < t1226) = true := decide_eq_true c17
        clear c17
        (first | rw [c17b0] | (simp only [i64_w, i32_w]; rw [c17b0]) | skip)
        have H' := Aside0.mk H
        clear H
        obtain ⟨Ao18, co18, eo18⟩ := Kd.R_slice HO1225.out
        subst eo18
        go_wp2_with (first | ((with_reducible refine gate_callee (f := 56) rfl ?_); refine goesL_ (some 20) rfl rfl Try.func56 (by kernel_rfl) rfl #[.slice Ao18 t1223.length co18, .slice A0 l0.length c0] rfl (by (try simp only [List.map_toArray, List.map_cons, List.map_nil]); first | done | rfl | (simp only [List.length_drop, List.length_take]; rfl) | (simp only [*]; done)) ?_; (with_reducible refine (nat_Cmp.calls k _ _ t1223 _ _ l0 t1226 _ ?side1 ?side2 ?side3 ?side4 A16.out).mono ?_); (case side1 => exact cs (Kd.R_reads' HO1225.out).2.2); (case side2 => exact (Kd.R_reads' HO1225.out).2.1); (case side3 => exact cs (Kd.C_below HR0.out HB.out)); (case side4 => exact HC0.out); rintro e w' ⟨rfl, ⟨nd, rfl⟩⟩; refine ⟨_, rfl, ?_⟩))
        go_meet
        case rel => exact ⟨_, (true), (by first | rfl | (simp; done) | (simp [*]; done)), H', ⟨by first | omega | exact Nat.le_refl _⟩, ⟨by (with_reducible repeat (first | apply Kd.R_alloc | apply Kd.R_drewN | apply Kd.R_drew)); exact Kd.R_mono HO1216.out (fun _ hk => trivial)⟩, ⟨bb HB.out⟩⟩
      · rw [if_neg c17] at H
        have c17b0 : decide (0 < t1226) = false := decide_eq_false c17
        clear c17
        (first | rw [c17b0] | (simp only [i64_w, i32_w]; rw [c17b0]) | skip)
        replace H := Option.bind_eq_some_iff.mp H
        obtain ⟨t1227, A190, H⟩ := H
        replace H : ((nat_Cmp.f k t1227 l0).bind fun t1230 => (if t1230 ≤ 0 then (gradinelaw04_QuotRoots.j0 k l0 t1214 true) else ((quot_Square.f k l0).bind fun t1231 => ((nat_Cmp.f k t1223 l0).bind fun t1232 => (gradinelaw04_QuotRoots.j0 k l0 t1214 (t1231 != (t1232 == 0))))))) = some r := H
        have A19 := Aside0.mk A190
        clear A190
        replace H := Option.bind_eq_some_iff.mp H
        obtain ⟨t1230, A200, H⟩ := H
        replace H : (if t1230 ≤ 0 then (gradinelaw04_QuotRoots.j0 k l0 t1214 true) else ((quot_Square.f k l0).bind fun t1231 => ((nat_Cmp.f k t1223 l0).bind fun t1232 => (gradinelaw04_QuotRoots.j0 k l0 t1214 (t1231 != (t1232 == 0)))))) = some r := H
        have A20 := Aside0.mk A200
        clear A200
        by_cases c21 : t1230 ≤ 0
        · rw [if_pos c21] at H
          have c21b0 : decide (t1230 ≤ 0) = true := decide_eq_true c21
          clear c21
          have H' := Aside0.mk H
          clear H
          obtain ⟨Ao22, co22, eo22⟩ := Kd.R_slice HO1225.out
          subst eo22
          go_wp2_with (first | ((with_reducible refine gate_callee (f := 56) rfl ?_); refine goesL_ (some 20) rfl rfl Try.func56 (by kernel_rfl) rfl #[.slice Ao22 t1223.length co22, .slice A0 l0.length c0] rfl (by (try simp only [List.map_toArray, List.map_cons, List.map_nil]); first | done | rfl | (simp only [List.length_drop, List.length_take]; rfl) | (simp only [*]; done)) ?_; (with_reducible refine (nat_Cmp.calls k _ _ t1223 _ _ l0 t1226 _ ?side1 ?side2 ?side3 ?side4 A16.out).mono ?_); (case side1 => exact cs (Kd.R_reads' HO1225.out).2.2); (case side2 => exact (Kd.R_reads' HO1225.out).2.1); (case side3 => exact cs (Kd.C_below HR0.out HB.out)); (case side4 => exact HC0.out); rintro e w' ⟨rfl, ⟨nd, rfl⟩⟩; refine ⟨_, rfl, ?_⟩; obtain ⟨Ao23, co23, eo23⟩ := Kd.R_slice HO1222.out; subst eo23) | (go_at_call 71; (with_reducible refine (prod_Mul.calls k _ _ t1220 _ _ t1220 t1227 _ ?side1 ?side2 ?side3 ?side4 A19.out).mono ?_); (case side1 => exact cs (Kd.R_reads' HO1222.out).2.2); (case side2 => exact (Kd.R_reads' HO1222.out).2.1); (case side3 => exact cs (Kd.R_reads' HO1222.out).2.2); (case side4 => exact (Kd.R_reads' HO1222.out).2.1); rintro e w24 ⟨v1228, rfl, ho0, hb⟩; have n0_ := Aside0.mk (Kd.R_elder' (st HO1216.out) (Kd.R_base ho0) hb); have n1_ := Aside0.mk (Kd.R_elder' (st HO1219.out) (Kd.R_base ho0) hb); have n2_ := Aside0.mk (Kd.R_elder' (st HO1222.out) (Kd.R_base ho0) hb); have n3_ := Aside0.mk (Kd.R_elder' (st HO1225.out) (Kd.R_base ho0) hb); have n4_ := Aside0.mk (Kd.R_lower (Kd.R_new' (Kd.R_new' (Kd.R_new' (Kd.R_new' ho0 (Kd.R_lt (st HO1216.out))) (Kd.R_lt (st HO1219.out))) (Kd.R_lt (st HO1222.out))) (Kd.R_lt (st HO1225.out))) (below_size (bb HB.out))); have n5_ := Aside0.mk (below_step (bb HB.out) hb); clear HO1216; clear HO1219; clear HO1222; clear HO1225; clear HB; have HO1216 := n0_; have HO1219 := n1_; have HO1222 := n2_; have HO1225 := n3_; have HO1229 := n4_; have HB := n5_; clear n0_ n1_ n2_ n3_ n4_ n5_; (try clear hb); (try clear hb2); (try clear hk); (try clear hi); (try clear ho0); obtain ⟨Ao25, co25, eo25⟩ := Kd.R_slice HO1229.out; subst eo25) | (go_at_call 56; (with_reducible refine (nat_Cmp.calls k _ _ t1227 _ _ l0 t1230 _ ?side1 ?side2 ?side3 ?side4 A20.out).mono ?_); (case side1 => exact cs (Kd.R_reads' HO1229.out).2.2); (case side2 => exact (Kd.R_reads' HO1229.out).2.1); (case side3 => exact cs (Kd.C_below HR0.out HB.out)); (case side4 => exact HC0.out); rintro e w' ⟨rfl, ⟨nd, rfl⟩⟩))
          go_meet
          case rel => exact ⟨_, (true), (by first | rfl | (simp; done) | (simp [*]; done)), H', ⟨by first | omega | exact Nat.le_refl _⟩, ⟨by (with_reducible repeat (first | apply Kd.R_alloc | apply Kd.R_drewN | apply Kd.R_drew)); exact Kd.R_mono HO1216.out (fun _ hk => trivial)⟩, ⟨bb HB.out⟩⟩
        · rw [if_neg c21] at H
          have c21b0 : decide (t1230 ≤ 0) = false := decide_eq_false c21
          clear c21
          replace H := Option.bind_eq_some_iff.mp H
          obtain ⟨t1231, A260, H⟩ := H
          replace H : ((nat_Cmp.f k t1223 l0).bind fun t1232 => (gradinelaw04_QuotRoots.j0 k l0 t1214 (t1231 != (t1232 == 0)))) = some r := H
          have A26 := Aside0.mk A260
          clear A260
          replace H := Option.bind_eq_some_iff.mp H
          obtain ⟨t1232, A270, H⟩ := H
          replace H : (gradinelaw04_QuotRoots.j0 k l0 t1214 (t1231 != (t1232 == 0))) = some r := H
          have A27 := Aside0.mk A270
          clear A270
          have H' := Aside0.mk H
          clear H
          obtain ⟨Ao28, co28, eo28⟩ := Kd.R_slice HO1225.out
          subst eo28
          go_wp2_with (first | ((with_reducible refine gate_callee (f := 56) rfl ?_); refine goesL_ (some 20) rfl rfl Try.func56 (by kernel_rfl) rfl #[.slice Ao28 t1223.length co28, .slice A0 l0.length c0] rfl (by (try simp only [List.map_toArray, List.map_cons, List.map_nil]); first | done | rfl | (simp only [List.length_drop, List.length_take]; rfl) | (simp only [*]; done)) ?_; (with_reducible refine (nat_Cmp.calls k _ _ t1223 _ _ l0 t1226 _ ?side1 ?side2 ?side3 ?side4 A16.out).mono ?_); (case side1 => exact cs (Kd.R_reads' HO1225.out).2.2); (case side2 => exact (Kd.R_reads' HO1225.out).2.1); (case side3 => exact cs (Kd.C_below HR0.out HB.out)); (case side4 => exact HC0.out); rintro e w' ⟨rfl, ⟨nd, rfl⟩⟩; refine ⟨_, rfl, ?_⟩; obtain ⟨Ao29, co29, eo29⟩ := Kd.R_slice HO1222.out; subst eo29) | (go_at_call 71; (with_reducible refine (prod_Mul.calls k _ _ t1220 _ _ t1220 t1227 _ ?side1 ?side2 ?side3 ?side4 A19.out).mono ?_); (case side1 => exact cs (Kd.R_reads' HO1222.out).2.2); (case side2 => exact (Kd.R_reads' HO1222.out).2.1); (case side3 => exact cs (Kd.R_reads' HO1222.out).2.2); (case side4 => exact (Kd.R_reads' HO1222.out).2.1); rintro e w30 ⟨v1228, rfl, ho0, hb⟩; have n0_ := Aside0.mk (Kd.R_elder' (st HO1216.out) (Kd.R_base ho0) hb); have n1_ := Aside0.mk (Kd.R_elder' (st HO1219.out) (Kd.R_base ho0) hb); have n2_ := Aside0.mk (Kd.R_elder' (st HO1222.out) (Kd.R_base ho0) hb); have n3_ := Aside0.mk (Kd.R_elder' (st HO1225.out) (Kd.R_base ho0) hb); have n4_ := Aside0.mk (Kd.R_lower (Kd.R_new' (Kd.R_new' (Kd.R_new' (Kd.R_new' ho0 (Kd.R_lt (st HO1216.out))) (Kd.R_lt (st HO1219.out))) (Kd.R_lt (st HO1222.out))) (Kd.R_lt (st HO1225.out))) (below_size (bb HB.out))); have n5_ := Aside0.mk (below_step (bb HB.out) hb); clear HO1216; clear HO1219; clear HO1222; clear HO1225; clear HB; have HO1216 := n0_; have HO1219 := n1_; have HO1222 := n2_; have HO1225 := n3_; have HO1229 := n4_; have HB := n5_; clear n0_ n1_ n2_ n3_ n4_ n5_; (try clear hb); (try clear hb2); (try clear hk); (try clear hi); (try clear ho0); obtain ⟨Ao31, co31, eo31⟩ := Kd.R_slice HO1229.out; subst eo31) | (go_at_call 56; (with_reducible refine (nat_Cmp.calls k _ _ t1227 _ _ l0 t1230 _ ?side1 ?side2 ?side3 ?side4 A20.out).mono ?_); (case side1 => exact cs (Kd.R_reads' HO1229.out).2.2); (case side2 => exact (Kd.R_reads' HO1229.out).2.1); (case side3 => exact cs (Kd.C_below HR0.out HB.out)); (case side4 => exact HC0.out); rintro e w' ⟨rfl, ⟨nd, rfl⟩⟩) | (go_at_call 89; (with_reducible refine (quot_Square.calls k _ _ l0 t1231 _ ?side1 ?side2 A26.out).mono ?_); (case side1 => repeat (first | exact (Kd.C_below HR0.out (bb HB.out)) | (with_reducible refine Kd.C_alloc ?_ _) | (with_reducible refine Kd.C_drewN ?_ _) | (with_reducible refine Kd.C_drew ?_))); (case side2 => exact HC0.out); rintro e w32 ⟨rfl, hb⟩; have n0_ := Aside0.mk (Kd.R_below (st HO1216.out) hb); have n1_ := Aside0.mk (Kd.R_below (st HO1219.out) hb); have n2_ := Aside0.mk (Kd.R_below (st HO1222.out) hb); have n3_ := Aside0.mk (Kd.R_below (st HO1225.out) hb); have n4_ := Aside0.mk (Kd.R_below (st HO1229.out) hb); have n5_ := Aside0.mk (below_step (bb HB.out) hb); clear HO1216; clear HO1219; clear HO1222; clear HO1225; clear HO1229; clear HB; have HO1216 := n0_; have HO1219 := n1_; have HO1222 := n2_; have HO1225 := n3_; have HO1229 := n4_; have HB := n5_; clear n0_ n1_ n2_ n3_ n4_ n5_; (try clear hb); (try clear hb2); (try clear hk); (try clear hi)) | (go_at_call 56; (with_reducible refine (nat_Cmp.calls k _ _ t1223 _ _ l0 t1232 _ ?side1 ?side2 ?side3 ?side4 A27.out).mono ?_); (case side1 => exact cs (Kd.R_reads' HO1225.out).2.2); (case side2 => exact (Kd.R_reads' HO1225.out).2.1); (case side3 => exact cs (Kd.C_below HR0.out HB.out)); (case side4 => exact HC0.out); rintro e w' ⟨rfl, ⟨nd, rfl⟩⟩))
          go_meet
          case rel => exact ⟨_, ((t1231 != (t1232 == 0))), (by first | rfl | (simp; done) | (simp [*]; done)), H', ⟨by first | omega | exact Nat.le_refl _⟩, ⟨by (with_reducible repeat (first | apply Kd.R_alloc | apply Kd.R_drewN | apply Kd.R_drew)); exact Kd.R_mono HO1216.out (fun _ hk => trivial)⟩, ⟨bb HB.out⟩⟩
    case rest =>
      clear HC8
      try clear c1
      try clear c2
      try clear c2b0
      try clear c2b1
      try clear p2
      try clear c5
      try clear c6
      try clear c7
      try clear c8
      try clear c17
      try clear c17b0
      try clear c21
      try clear c21b0
      obtain ⟨kq, x38_7, rfl, HA, HJ7, HO_3, HB⟩ := hcut
      cases kq with
      | zero => exact absurd HA.out (by simp [gradinelaw04_QuotRoots.j0])
      | succ kj7 =>
        have H := HA.out
        clear HA
        simp only [gradinelaw04_QuotRoots.j0] at H
        by_cases c33 : x38_7 = true
        · subst c33
          have H1 : (some false) = some r := by rw [if_pos rfl] at H; exact H
          clear H
          have H := H1
          clear H1
          obtain rfl := Option.some.inj H
          go_wp2
          go_ret
          exact ⟨by first | rfl | (simp [errW_none, errW_some] <;> rfl) | (simp [*, errW_none, errW_some] <;> rfl), by repeat (first | (with_reducible first | exact HB.out | apply below_alloc | apply pw_below_drewN | apply below_drew1) | exact HB.out)⟩
        · replace c33 := Bool.eq_false_iff.mpr c33
          subst c33
          have H1 : ((gradineref04_Root.f kj7 l0).bind fun t1233 => ((gradineplain_Words.f kj7 t1214 t1233).bind fun t1236 => (if t1236 = true then ((prod_Mul.f kj7 l0 l0).bind fun t1237 => ((quot_Square.f kj7 t1237).bind fun t1240 => (if t1240 = true then ((gradinelaw04_same.f kj7).bind fun t1241 => (some t1241)) else (some false)))) else (some false)))) = some r := by rw [if_neg (show ¬ (false = true) by decide)] at H; exact H
          clear H
          have H := H1
          clear H1
          replace H := Option.bind_eq_some_iff.mp H
          obtain ⟨t1233, A340, H⟩ := H
          replace H : ((gradineplain_Words.f kj7 t1214 t1233).bind fun t1236 => (if t1236 = true then ((prod_Mul.f kj7 l0 l0).bind fun t1237 => ((quot_Square.f kj7 t1237).bind fun t1240 => (if t1240 = true then ((gradinelaw04_same.f kj7).bind fun t1241 => (some t1241)) else (some false)))) else (some false))) = some r := H
          have A34 := Aside0.mk A340
          clear A340
          replace H := Option.bind_eq_some_iff.mp H
          obtain ⟨t1236, A350, H⟩ := H
          replace H : (if t1236 = true then ((prod_Mul.f kj7 l0 l0).bind fun t1237 => ((quot_Square.f kj7 t1237).bind fun t1240 => (if t1240 = true then ((gradinelaw04_same.f kj7).bind fun t1241 => (some t1241)) else (some false)))) else (some false)) = some r := H
          have A35 := Aside0.mk A350
          clear A350
          by_cases c36 : t1236 = true
          · subst c36
            have H1 : ((prod_Mul.f kj7 l0 l0).bind fun t1237 => ((quot_Square.f kj7 t1237).bind fun t1240 => (if t1240 = true then ((gradinelaw04_same.f kj7).bind fun t1241 => (some t1241)) else (some false)))) = some r := by rw [if_pos rfl] at H; exact H
            clear H
            have H := H1
            clear H1
            replace H := Option.bind_eq_some_iff.mp H
            obtain ⟨t1237, A370, H⟩ := H
            replace H : ((quot_Square.f kj7 t1237).bind fun t1240 => (if t1240 = true then ((gradinelaw04_same.f kj7).bind fun t1241 => (some t1241)) else (some false))) = some r := H
            have A37 := Aside0.mk A370
            clear A370
            replace H := Option.bind_eq_some_iff.mp H
            obtain ⟨t1240, A380, H⟩ := H
            replace H : (if t1240 = true then ((gradinelaw04_same.f kj7).bind fun t1241 => (some t1241)) else (some false)) = some r := H
            have A38 := Aside0.mk A380
            clear A380
            by_cases c39 : t1240 = true
            · subst c39
              have H1 : ((gradinelaw04_same.f kj7).bind fun t1241 => (some t1241)) = some r := by rw [if_pos rfl] at H; exact H
              clear H
              have H := H1
              clear H1
              replace H := Option.bind_eq_some_iff.mp H
              obtain ⟨t1241, A400, H⟩ := H
              replace H : (some t1241) = some r := H
              have A40 := Aside0.mk A400
              clear A400
              obtain rfl := Option.some.inj H
              go_wp2_with (first | ((with_reducible refine gate_callee (f := 90) rfl ?_); refine goesL_ (some 41) rfl rfl Try.func90 (by kernel_rfl) rfl #[.slice A0 l0.length c0] rfl (by (try simp only [List.map_toArray, List.map_cons, List.map_nil]); first | done | rfl | (simp only [List.length_drop, List.length_take]; rfl) | (simp only [*]; done)) ?_; (with_reducible refine (gradineref04_Root.calls kj7 _ _ l0 t1233 _ ?side1 ?side2 A34.out).mono ?_); (case side1 => exact cs (Kd.C_below HR0.out HB.out)); (case side2 => exact HC0.out); rintro e w41 ⟨v1234, rfl, ho0, hb⟩; refine ⟨_, rfl, ?_⟩; have n0_ := Aside0.mk (Kd.R_elder' (st HO_3.out) (Kd.R_base ho0) hb); have n1_ := Aside0.mk (Kd.R_lower (Kd.R_new' ho0 (Kd.R_lt (st HO_3.out))) (below_size (bb HB.out))); have n2_ := Aside0.mk (below_step (bb HB.out) hb); clear HO_3; clear HB; have HO_3 := n0_; have HO1235 := n1_; have HB := n2_; clear n0_ n1_ n2_; (try clear hb); (try clear hb2); (try clear hk); (try clear hi); (try clear ho0); obtain ⟨Ao42, co42, eo42⟩ := Kd.R_slice HO1235.out; subst eo42) | ((with_reducible refine gate_callee (f := 46) rfl ?_); refine goesL_ (some 42) rfl rfl Try.func46 (by kernel_rfl) rfl #[.slice Ao12 t1214.length co12, .slice Ao42 t1233.length co42] rfl (by (try simp only [List.map_toArray, List.map_cons, List.map_nil]); first | done | rfl | (simp only [List.length_drop, List.length_take]; rfl) | (simp only [*]; done)) ?_; (with_reducible refine (gradineplain_Words.calls kj7 _ _ t1214 _ _ t1233 true _ ?side1 ?side2 ?side3 ?side4 A35.out).mono ?_); (case side1 => exact cs (Kd.R_reads' HO_3.out).2.2); (case side2 => exact (Kd.R_reads' HO_3.out).2.1); (case side3 => exact cs (Kd.R_reads' HO1235.out).2.2); (case side4 => exact (Kd.R_reads' HO1235.out).2.1); rintro e w' ⟨rfl, ⟨nd, rfl⟩⟩; refine ⟨_, rfl, ?_⟩) | (go_at_call 71; (with_reducible refine (prod_Mul.calls kj7 _ _ l0 _ _ l0 t1237 _ ?side1 ?side2 ?side3 ?side4 A37.out).mono ?_); (case side1 => repeat (first | exact (Kd.C_below HR0.out (bb HB.out)) | (with_reducible refine Kd.C_alloc ?_ _) | (with_reducible refine Kd.C_drewN ?_ _) | (with_reducible refine Kd.C_drew ?_))); (case side2 => exact HC0.out); (case side3 => repeat (first | exact (Kd.C_below HR0.out (bb HB.out)) | (with_reducible refine Kd.C_alloc ?_ _) | (with_reducible refine Kd.C_drewN ?_ _) | (with_reducible refine Kd.C_drew ?_))); (case side4 => exact HC0.out); rintro e w43 ⟨v1238, rfl, ho0, hb⟩; have n0_ := Aside0.mk (Kd.R_elder' (st HO_3.out) (Kd.R_base ho0) hb); have n1_ := Aside0.mk (Kd.R_elder' (st HO1235.out) (Kd.R_base ho0) hb); have n2_ := Aside0.mk (Kd.R_lower (Kd.R_new' (Kd.R_new' ho0 (Kd.R_lt (st HO_3.out))) (Kd.R_lt (st HO1235.out))) (below_size (bb HB.out))); have n3_ := Aside0.mk (below_step (bb HB.out) hb); clear HO_3; clear HO1235; clear HB; have HO_3 := n0_; have HO1235 := n1_; have HO1239 := n2_; have HB := n3_; clear n0_ n1_ n2_ n3_; (try clear hb); (try clear hb2); (try clear hk); (try clear hi); (try clear ho0); obtain ⟨Ao44, co44, eo44⟩ := Kd.R_slice HO1239.out; subst eo44) | (go_at_call 89; (with_reducible refine (quot_Square.calls kj7 _ _ t1237 true _ ?side1 ?side2 A38.out).mono ?_); (case side1 => exact cs (Kd.R_reads' HO1239.out).2.2); (case side2 => exact (Kd.R_reads' HO1239.out).2.1); rintro e w45 ⟨rfl, hb⟩; have n0_ := Aside0.mk (Kd.R_below (st HO_3.out) hb); have n1_ := Aside0.mk (Kd.R_below (st HO1235.out) hb); have n2_ := Aside0.mk (Kd.R_below (st HO1239.out) hb); have n3_ := Aside0.mk (below_step (bb HB.out) hb); clear HO_3; clear HO1235; clear HO1239; clear HB; have HO_3 := n0_; have HO1235 := n1_; have HO1239 := n2_; have HB := n3_; clear n0_ n1_ n2_ n3_; (try clear hb); (try clear hb2); (try clear hk); (try clear hi)) | (go_at_call 80; (with_reducible refine (gradinelaw04_same.calls kj7  t1241 _ A40.out).mono ?_); rintro e w46 ⟨rfl, hb⟩; have n0_ := Aside0.mk (Kd.R_below (st HO_3.out) hb); have n1_ := Aside0.mk (Kd.R_below (st HO1235.out) hb); have n2_ := Aside0.mk (Kd.R_below (st HO1239.out) hb); have n3_ := Aside0.mk (below_step (bb HB.out) hb); clear HO_3; clear HO1235; clear HO1239; clear HB; have HO_3 := n0_; have HO1235 := n1_; have HO1239 := n2_; have HB := n3_; clear n0_ n1_ n2_ n3_; (try clear hb); (try clear hb2); (try clear hk); (try clear hi)))
              go_ret
              exact ⟨by first | rfl | (simp [errW_none, errW_some] <;> rfl) | (simp [*, errW_none, errW_some] <;> rfl), by repeat (first | (with_reducible first | exact HB.out | apply below_alloc | apply pw_below_drewN | apply below_drew1) | exact HB.out)⟩
            · replace c39 := Bool.eq_false_iff.mpr c39
              subst c39
              have H1 : (some false) = some r := by rw [if_neg (show ¬ (false = true) by decide)] at H; exact H
              clear H
              have H := H1
              clear H1
              obtain rfl := Option.some.inj H
              go_wp2_with (first | ((with_reducible refine gate_callee (f := 90) rfl ?_); refine goesL_ (some 41) rfl rfl Try.func90 (by kernel_rfl) rfl #[.slice A0 l0.length c0] rfl (by (try simp only [List.map_toArray, List.map_cons, List.map_nil]); first | done | rfl | (simp only [List.length_drop, List.length_take]; rfl) | (simp only [*]; done)) ?_; (with_reducible refine (gradineref04_Root.calls kj7 _ _ l0 t1233 _ ?side1 ?side2 A34.out).mono ?_); (case side1 => exact cs (Kd.C_below HR0.out HB.out)); (case side2 => exact HC0.out); rintro e w47 ⟨v1234, rfl, ho0, hb⟩; refine ⟨_, rfl, ?_⟩; have n0_ := Aside0.mk (Kd.R_elder' (st HO_3.out) (Kd.R_base ho0) hb); have n1_ := Aside0.mk (Kd.R_lower (Kd.R_new' ho0 (Kd.R_lt (st HO_3.out))) (below_size (bb HB.out))); have n2_ := Aside0.mk (below_step (bb HB.out) hb); clear HO_3; clear HB; have HO_3 := n0_; have HO1235 := n1_; have HB := n2_; clear n0_ n1_ n2_; (try clear hb); (try clear hb2); (try clear hk); (try clear hi); (try clear ho0); obtain ⟨Ao48, co48, eo48⟩ := Kd.R_slice HO1235.out; subst eo48) | ((with_reducible refine gate_callee (f := 46) rfl ?_); refine goesL_ (some 42) rfl rfl Try.func46 (by kernel_rfl) rfl #[.slice Ao12 t1214.length co12, .slice Ao48 t1233.length co48] rfl (by (try simp only [List.map_toArray, List.map_cons, List.map_nil]); first | done | rfl | (simp only [List.length_drop, List.length_take]; rfl) | (simp only [*]; done)) ?_; (with_reducible refine (gradineplain_Words.calls kj7 _ _ t1214 _ _ t1233 true _ ?side1 ?side2 ?side3 ?side4 A35.out).mono ?_); (case side1 => exact cs (Kd.R_reads' HO_3.out).2.2); (case side2 => exact (Kd.R_reads' HO_3.out).2.1); (case side3 => exact cs (Kd.R_reads' HO1235.out).2.2); (case side4 => exact (Kd.R_reads' HO1235.out).2.1); rintro e w' ⟨rfl, ⟨nd, rfl⟩⟩; refine ⟨_, rfl, ?_⟩) | (go_at_call 71; (with_reducible refine (prod_Mul.calls kj7 _ _ l0 _ _ l0 t1237 _ ?side1 ?side2 ?side3 ?side4 A37.out).mono ?_); (case side1 => repeat (first | exact (Kd.C_below HR0.out (bb HB.out)) | (with_reducible refine Kd.C_alloc ?_ _) | (with_reducible refine Kd.C_drewN ?_ _) | (with_reducible refine Kd.C_drew ?_))); (case side2 => exact HC0.out); (case side3 => repeat (first | exact (Kd.C_below HR0.out (bb HB.out)) | (with_reducible refine Kd.C_alloc ?_ _) | (with_reducible refine Kd.C_drewN ?_ _) | (with_reducible refine Kd.C_drew ?_))); (case side4 => exact HC0.out); rintro e w49 ⟨v1238, rfl, ho0, hb⟩; have n0_ := Aside0.mk (Kd.R_elder' (st HO_3.out) (Kd.R_base ho0) hb); have n1_ := Aside0.mk (Kd.R_elder' (st HO1235.out) (Kd.R_base ho0) hb); have n2_ := Aside0.mk (Kd.R_lower (Kd.R_new' (Kd.R_new' ho0 (Kd.R_lt (st HO_3.out))) (Kd.R_lt (st HO1235.out))) (below_size (bb HB.out))); have n3_ := Aside0.mk (below_step (bb HB.out) hb); clear HO_3; clear HO1235; clear HB; have HO_3 := n0_; have HO1235 := n1_; have HO1239 := n2_; have HB := n3_; clear n0_ n1_ n2_ n3_; (try clear hb); (try clear hb2); (try clear hk); (try clear hi); (try clear ho0); obtain ⟨Ao50, co50, eo50⟩ := Kd.R_slice HO1239.out; subst eo50) | (go_at_call 89; (with_reducible refine (quot_Square.calls kj7 _ _ t1237 false _ ?side1 ?side2 A38.out).mono ?_); (case side1 => exact cs (Kd.R_reads' HO1239.out).2.2); (case side2 => exact (Kd.R_reads' HO1239.out).2.1); rintro e w51 ⟨rfl, hb⟩; have n0_ := Aside0.mk (Kd.R_below (st HO_3.out) hb); have n1_ := Aside0.mk (Kd.R_below (st HO1235.out) hb); have n2_ := Aside0.mk (Kd.R_below (st HO1239.out) hb); have n3_ := Aside0.mk (below_step (bb HB.out) hb); clear HO_3; clear HO1235; clear HO1239; clear HB; have HO_3 := n0_; have HO1235 := n1_; have HO1239 := n2_; have HB := n3_; clear n0_ n1_ n2_ n3_; (try clear hb); (try clear hb2); (try clear hk); (try clear hi)))
              go_ret
              exact ⟨by first | rfl | (simp [errW_none, errW_some] <;> rfl) | (simp [*, errW_none, errW_some] <;> rfl), by repeat (first | (with_reducible first | exact HB.out | apply below_alloc | apply pw_below_drewN | apply below_drew1) | exact HB.out)⟩
          · replace c36 := Bool.eq_false_iff.mpr c36
            subst c36
            have H1 : (some false) = some r := by rw [if_neg (show ¬ (false = true) by decide)] at H; exact H
            clear H
            have H := H1
            clear H1
            obtain rfl := Option.some.inj H
            go_wp2_with (first | ((with_reducible refine gate_callee (f := 90) rfl ?_); refine goesL_ (some 41) rfl rfl Try.func90 (by kernel_rfl) rfl #[.slice A0 l0.length c0] rfl (by (try simp only [List.map_toArray, List.map_cons, List.map_nil]); first | done | rfl | (simp only [List.length_drop, List.length_take]; rfl) | (simp only [*]; done)) ?_; (with_reducible refine (gradineref04_Root.calls kj7 _ _ l0 t1233 _ ?side1 ?side2 A34.out).mono ?_); (case side1 => exact cs (Kd.C_below HR0.out HB.out)); (case side2 => exact HC0.out); rintro e w52 ⟨v1234, rfl, ho0, hb⟩; refine ⟨_, rfl, ?_⟩; have n0_ := Aside0.mk (Kd.R_elder' (st HO_3.out) (Kd.R_base ho0) hb); have n1_ := Aside0.mk (Kd.R_lower (Kd.R_new' ho0 (Kd.R_lt (st HO_3.out))) (below_size (bb HB.out))); have n2_ := Aside0.mk (below_step (bb HB.out) hb); clear HO_3; clear HB; have HO_3 := n0_; have HO1235 := n1_; have HB := n2_; clear n0_ n1_ n2_; (try clear hb); (try clear hb2); (try clear hk); (try clear hi); (try clear ho0); obtain ⟨Ao53, co53, eo53⟩ := Kd.R_slice HO1235.out; subst eo53) | ((with_reducible refine gate_callee (f := 46) rfl ?_); refine goesL_ (some 42) rfl rfl Try.func46 (by kernel_rfl) rfl #[.slice Ao12 t1214.length co12, .slice Ao53 t1233.length co53] rfl (by (try simp only [List.map_toArray, List.map_cons, List.map_nil]); first | done | rfl | (simp only [List.length_drop, List.length_take]; rfl) | (simp only [*]; done)) ?_; (with_reducible refine (gradineplain_Words.calls kj7 _ _ t1214 _ _ t1233 false _ ?side1 ?side2 ?side3 ?side4 A35.out).mono ?_); (case side1 => exact cs (Kd.R_reads' HO_3.out).2.2); (case side2 => exact (Kd.R_reads' HO_3.out).2.1); (case side3 => exact cs (Kd.R_reads' HO1235.out).2.2); (case side4 => exact (Kd.R_reads' HO1235.out).2.1); rintro e w' ⟨rfl, ⟨nd, rfl⟩⟩; refine ⟨_, rfl, ?_⟩))
            go_ret
            exact ⟨by first | rfl | (simp [errW_none, errW_some] <;> rfl) | (simp [*, errW_none, errW_some] <;> rfl), by repeat (first | (with_reducible first | exact HB.out | apply below_alloc | apply pw_below_drewN | apply below_drew1) | exact HB.out)⟩

/-- THE ONE PURE STATEMENT of gradinelaw04_QuotRoots: yours. -/
def gradinelaw04_QuotRoots.Pure : Prop := ∀ (l0 : List Int), l0.length ≤ maxLen → l0.length * 8 ≤ 140737488351232 → (∀ x ∈ l0, (Lit.int .u64 x).wf = true) → ∃ k, gradinelaw04_QuotRoots.f k l0 = some true
theorem gradinelaw04_QuotRoots.walk (P : gradinelaw04_QuotRoots.Pure) (a0 : Option Addr) (len0 cap0 : Nat) (z0 : List Int) (w : World) (w0 : (a0 = none ∧ len0 = 0 ∧ cap0 = 0 ∧ z0 = []) ∨ ∃ x, a0 = some x ∧ len0 ≤ cap0 ∧ cap0 ≤ maxLen ∧ z0.length = cap0 ∧ (∀ i, i < z0.length → w.cell? (x.add i) = some (.int .u64 (z0.getD i 0))) ∧ ∀ n ∈ z0, (Lit.int .u64 n).wf = true) (y0 : len0 * 8 ≤ 140737488351232) :
    Calls Try.prog 21 #[.slice a0 len0 cap0] w fun e w' => e = .returned (.bool true) ∧ Below w.heap.size w w' := by
  obtain ⟨l0, rfl, hr0, hm0, hw0, hc0⟩ := ReadsInt.ofRowC w0
  obtain ⟨k, h⟩ := P l0 hm0 y0 hw0
  refine (gradinelaw04_QuotRoots.calls k _ _ l0 true w (Kd.C_of_reads (d := (0 : Int)) (h1 := fun _ => rfl) hr0) hc0 h).mono ?_
  rintro e w' ⟨rfl, hd⟩
  exact ⟨rfl, hd⟩

end Go.Proofs.Ytldcgclbgbhffaa.P
