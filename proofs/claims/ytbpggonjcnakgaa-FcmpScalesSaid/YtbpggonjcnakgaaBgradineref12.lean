/- Functions of one package as Lean functions, and walks: written by a program for this claim. -/
import Derived.Test.YtbpggonjcnakgaaFbase
import Derived.Test.YtbpggonjcnakgaaBgradineref09
import Derived.Test.YtbpggonjcnakgaaBgradineref02
import Derived.Test.YtbpggonjcnakgaaBgradineref03
import Derived.Test.YtbpggonjcnakgaaBgradineref10
import Derived.Test.YtbpggonjcnakgaaBgradineref04
import Derived.Test.YtbpggonjcnakgaaBgradineref01
namespace Go.Proofs.Ytbpggonjcnakgaa.P
open Go.RowKit Go.Proofs.YtbpggonjcnakgaaW.PrintWords Go.Proofs.YtbpggonjcnakgaaW.PrintLast Go.Proofs.YtbpggonjcnakgaaW.PrintMore
attribute [local go_sem] max2_int min2_int max_two min_two max_three min_three max_four min_four   -- for this text's walks alone
set_option linter.unusedVariables false
set_option linter.unusedSimpArgs false

/-! ### gradineref12_Sqrt: function 72 -/
mutual
def gradineref12_Sqrt.j0 : Nat → Int → Int → Bool → Option (Int)
  | 0, _, _, _ => none
  | k + 1, x0, x3, x19 => if x19 = true then ((gradineref09_Nan.f).bind fun t1012 => (some t1012)) else (if x3 = 3 then (some x0) else ((gradineref09_Parts.f x0).bind fun bt1013 => (if (Int.tmod (wrap64 (bt1013.2 - 160)) 2) = 0 then (gradineref12_Sqrt.j1 k bt1013.1 bt1013.2 160) else (gradineref12_Sqrt.j1 k bt1013.1 bt1013.2 (160 + 1)))))
def gradineref12_Sqrt.j1 : Nat → Int → Int → Int → Option (Int)
  | 0, _, _, _ => none
  | k + 1, x4, x5, x6 => (gradineref02_Shl.f k (([x4] : List Int)) x6).bind fun t1018 => ((gradineref04_Root.f k t1018).bind fun t1021 => ((gradineref03_Mul.f k t1021 t1021).bind fun t1024 => ((gradineref02_Cmp.f k t1024 t1018).bind fun t1027 => ((gradineref10_More.f k false t1021 (wrap64 (Int.tdiv (wrap64 (x5 - x6)) 2)) (t1027 != 0)).bind fun t1028 => (some t1028)))))
end
def gradineref12_Sqrt.f (k : Nat) (a0 : Int) : Option (Int) := (gradineref09_Kind.f a0).bind fun t1010 => (if t1010 = 0 then (some a0) else (if t1010 = 4 then (gradineref12_Sqrt.j0 k a0 t1010 true) else ((gradineref09_Neg.f a0).bind fun t1011 => (gradineref12_Sqrt.j0 k a0 t1010 t1011))))
set_option maxHeartbeats 8000000 in
set_option maxRecDepth 100000 in
theorem gradineref12_Sqrt.calls (k : Nat) (a0 : Int) (r : Int) (w : World) (h : gradineref12_Sqrt.f k a0 = some r) :
    Calls Try.prog 72 #[.int .u64 a0] w fun e w' => e = .returned (.int .u64 r) ∧ Below w.heap.size w w' := by
  have HB := Aside0.mk (Below.refl w.heap.size w)
  have H : ((gradineref09_Kind.f a0).bind fun t1010 => (if t1010 = 0 then (some a0) else (if t1010 = 4 then (gradineref12_Sqrt.j0 k a0 t1010 true) else ((gradineref09_Neg.f a0).bind fun t1011 => (gradineref12_Sqrt.j0 k a0 t1010 t1011))))) = some r := h
  clear h
  replace H := Option.bind_eq_some_iff.mp H
  obtain ⟨t1010, A20, H⟩ := H
  replace H : (if t1010 = 0 then (some a0) else (if t1010 = 4 then (gradineref12_Sqrt.j0 k a0 t1010 true) else ((gradineref09_Neg.f a0).bind fun t1011 => (gradineref12_Sqrt.j0 k a0 t1010 t1011)))) = some r := H
  have A2 := Aside0.mk A20
  clear A20
  by_cases c3 : t1010 = 0
  · rw [if_pos c3] at H
    have c3b0 : (t1010 == 0) = true := beq_iff_eq.mpr c3
    have c3b1 : (t1010 != 0) = false := bne_eq_false_iff_eq.mpr c3
    clear c3
    obtain rfl := Option.some.inj H
    go_enter Try.func72, Try.ntmps72
    go_wp2_with (first | ((with_reducible refine gate_callee (f := 40) rfl ?_); refine goesL_ (some 10) rfl rfl Try.func40 (by kernel_rfl) rfl #[.int .u64 a0] rfl (by (try simp only [List.map_toArray, List.map_cons, List.map_nil]); first | done | rfl | (simp only [List.length_drop, List.length_take]; rfl) | (simp only [*]; done)) ?_; (with_reducible refine (gradineref09_Kind.calls a0 t1010 _ A2.out).mono ?_); rintro e w' ⟨rfl, ⟨nd, rfl⟩⟩; refine ⟨_, rfl, ?_⟩))
    go_ret
    exact ⟨by first | rfl | (simp [errW_none, errW_some] <;> rfl) | (simp [*, errW_none, errW_some] <;> rfl), by repeat (first | (with_reducible first | exact HB.out | apply below_alloc | apply pw_below_drewN | apply below_drew1) | exact HB.out)⟩
  · rw [if_neg c3] at H
    have c3b0 : (t1010 == 0) = false := beq_eq_false_iff_ne.mpr c3
    have c3b1 : (t1010 != 0) = true := bne_iff_ne.mpr c3
    have HC4 := Aside0.mk H
    clear H
    go_enter Try.func72, Try.ntmps72
    go_upto_region 4 with (first | ((with_reducible refine gate_callee (f := 40) rfl ?_); refine goesL_ (some 10) rfl rfl Try.func40 (by kernel_rfl) rfl #[.int .u64 a0] rfl (by (try simp only [List.map_toArray, List.map_cons, List.map_nil]); first | done | rfl | (simp only [List.length_drop, List.length_take]; rfl) | (simp only [*]; done)) ?_; (with_reducible refine (gradineref09_Kind.calls a0 t1010 _ A2.out).mono ?_); rintro e w' ⟨rfl, ⟨nd, rfl⟩⟩; refine ⟨_, rfl, ?_⟩))
    (try simp only [Act.put, List.setIfInBounds_toArray, List.set_cons_zero, List.set_cons_succ])
    go_cut [19] (fun v19 wc => ∃ (kq : Nat) (x19_3 : Bool), v19 = .bool x19_3 ∧ Aside0 (gradineref12_Sqrt.j0 kq a0 t1010 x19_3 = some r) ∧ Aside0 (kq ≤ k) ∧ Aside0 (Below w.heap.size w wc))
    case first =>
      have H := HC4.out
      clear HC4
      by_cases c5 : t1010 = 4
      · rw [if_pos c5] at H
        have c5b0 : (t1010 == 4) = true := beq_iff_eq.mpr c5
        have c5b1 : (t1010 != 4) = false := bne_eq_false_iff_eq.mpr c5
        clear c5
        (first | rw [c5b0] | (simp only [i64_w, i32_w]; rw [c5b0]) | rw [c5b1] | skip)
        have H' := Aside0.mk H
        clear H
        go_wp2
        go_meet
        case rel => exact ⟨_, (true), (by first | rfl | (simp; done) | (simp [*]; done)), H', ⟨by first | omega | exact Nat.le_refl _⟩, ⟨by repeat (first | (with_reducible first | exact HB.out | apply below_alloc | apply pw_below_drewN | apply below_drew1) | exact HB.out)⟩⟩
      · rw [if_neg c5] at H
        have c5b0 : (t1010 == 4) = false := beq_eq_false_iff_ne.mpr c5
        have c5b1 : (t1010 != 4) = true := bne_iff_ne.mpr c5
        (first | rw [c5b0] | (simp only [i64_w, i32_w]; rw [c5b0]) | rw [c5b1] | skip)
        replace H := Option.bind_eq_some_iff.mp H
        obtain ⟨t1011, A60, H⟩ := H
        replace H : (gradineref12_Sqrt.j0 k a0 t1010 t1011) = some r := H
        have A6 := Aside0.mk A60
        clear A60
        have H' := Aside0.mk H
        clear H
        go_wp2_with (first | (go_at_call 27; (with_reducible refine (gradineref09_Neg.calls a0 t1011 _ A6.out).mono ?_); rintro e w' ⟨rfl, ⟨nd, rfl⟩⟩))
        go_meet
        case rel => exact ⟨_, (t1011), (by first | rfl | (simp; done) | (simp [*]; done)), H', ⟨by first | omega | exact Nat.le_refl _⟩, ⟨by repeat (first | (with_reducible first | exact HB.out | apply below_alloc | apply pw_below_drewN | apply below_drew1) | exact HB.out)⟩⟩
    case rest =>
      clear HC4
      try clear p2
      try clear c3
      try clear c3b0
      try clear c3b1
      try clear c4
      try clear c5
      try clear c5b0
      try clear c5b1
      obtain ⟨kq, x19_3, rfl, HA, HJ3, HB⟩ := hcut
      cases kq with
      | zero => exact absurd HA.out (by simp [gradineref12_Sqrt.j0])
      | succ kj3 =>
        have H := HA.out
        clear HA
        simp only [gradineref12_Sqrt.j0] at H
        by_cases c7 : x19_3 = true
        · subst c7
          have H1 : ((gradineref09_Nan.f).bind fun t1012 => (some t1012)) = some r := by rw [if_pos rfl] at H; exact H
          clear H
          have H := H1
          clear H1
          replace H := Option.bind_eq_some_iff.mp H
          obtain ⟨t1012, A80, H⟩ := H
          replace H : (some t1012) = some r := H
          have A8 := Aside0.mk A80
          clear A80
          obtain rfl := Option.some.inj H
          go_wp2_with (first | ((with_reducible refine gate_callee (f := 33) rfl ?_); refine goesL_ (some 20) rfl rfl Try.func33 (by kernel_rfl) rfl #[] rfl (by (try simp only [List.map_toArray, List.map_cons, List.map_nil]); first | done | rfl | (simp only [List.length_drop, List.length_take]; rfl) | (simp only [*]; done)) ?_; (with_reducible refine (gradineref09_Nan.calls  t1012 _ A8.out).mono ?_); rintro e w' ⟨rfl, ⟨nd, rfl⟩⟩; refine ⟨_, rfl, ?_⟩))
          go_ret
          exact ⟨by first | rfl | (simp [errW_none, errW_some] <;> rfl) | (simp [*, errW_none, errW_some] <;> rfl), by repeat (first | (with_reducible first | exact HB.out | apply below_alloc | apply pw_below_drewN | apply below_drew1) | exact HB.out)⟩
        · replace c7 := Bool.eq_false_iff.mpr c7
          subst c7
          have H1 : (if t1010 = 3 then (some a0) else ((gradineref09_Parts.f a0).bind fun bt1013 => (if (Int.tmod (wrap64 (bt1013.2 - 160)) 2) = 0 then (gradineref12_Sqrt.j1 kj3 bt1013.1 bt1013.2 160) else (gradineref12_Sqrt.j1 kj3 bt1013.1 bt1013.2 (160 + 1))))) = some r := by rw [if_neg (show ¬ (false = true) by decide)] at H; exact H
          clear H
          have H := H1
          clear H1
          by_cases c9 : t1010 = 3
          · rw [if_pos c9] at H
            have c9b0 : (t1010 == 3) = true := beq_iff_eq.mpr c9
            have c9b1 : (t1010 != 3) = false := bne_eq_false_iff_eq.mpr c9
            clear c9
            obtain rfl := Option.some.inj H
            go_wp2
            go_ret
            exact ⟨by first | rfl | (simp [errW_none, errW_some] <;> rfl) | (simp [*, errW_none, errW_some] <;> rfl), by repeat (first | (with_reducible first | exact HB.out | apply below_alloc | apply pw_below_drewN | apply below_drew1) | exact HB.out)⟩
          · rw [if_neg c9] at H
            have c9b0 : (t1010 == 3) = false := beq_eq_false_iff_ne.mpr c9
            have c9b1 : (t1010 != 3) = true := bne_iff_ne.mpr c9
            replace H := Option.bind_eq_some_iff.mp H
            obtain ⟨⟨t1013, t1014⟩, A100, H⟩ := H
            replace H : (if (Int.tmod (wrap64 (t1014 - 160)) 2) = 0 then (gradineref12_Sqrt.j1 kj3 t1013 t1014 160) else (gradineref12_Sqrt.j1 kj3 t1013 t1014 (160 + 1))) = some r := H
            have A10 := Aside0.mk A100
            clear A100
            have HC11 := Aside0.mk H
            clear H
            go_upto_if 33 with (first | ((with_reducible refine gate_callee (f := 42) rfl ?_); refine goesL_ (some 26) rfl rfl Try.func42 (by kernel_rfl) rfl #[.int .u64 a0] rfl (by (try simp only [List.map_toArray, List.map_cons, List.map_nil]); first | done | rfl | (simp only [List.length_drop, List.length_take]; rfl) | (simp only [*]; done)) ?_; (with_reducible refine (gradineref09_Parts.calls a0 t1013 t1014 _ A10.out).mono ?_); rintro e w' ⟨rfl, ⟨nd, rfl⟩⟩; refine ⟨_, rfl, ?_⟩))
            (try simp only [Act.put, List.setIfInBounds_toArray, List.set_cons_zero, List.set_cons_succ])
            go_cut [6] (fun v6 wc => ∃ (kq : Nat) (x6_10 : Int), v6 = .int .i64 x6_10 ∧ Aside0 (gradineref12_Sqrt.j1 kq t1013 t1014 x6_10 = some r) ∧ Aside0 (kq ≤ kj3) ∧ Aside0 (Below w.heap.size w wc))
            case first =>
              have H := HC11.out
              clear HC11
              by_cases c12 : (Int.tmod (wrap64 (t1014 - 160)) 2) = 0
              · rw [if_pos c12] at H
                have c12b0 : ((Int.tmod (wrap64 (t1014 - 160)) 2) == 0) = true := beq_iff_eq.mpr c12
                have c12b1 : ((Int.tmod (wrap64 (t1014 - 160)) 2) != 0) = false := bne_eq_false_iff_eq.mpr c12
                clear c12
                (first | rw [c12b0] | (simp only [i64_w, i32_w]; rw [c12b0]) | rw [c12b1] | skip)
                have H' := Aside0.mk H
                clear H
                go_wp2
                go_meet
                case rel => exact ⟨_, (160), (by first | rfl | (simp; done) | (simp [*]; done)), H', ⟨by have := HJ3.out; first | omega | exact Nat.le_refl _⟩, ⟨by repeat (first | (with_reducible first | exact HB.out | apply below_alloc | apply pw_below_drewN | apply below_drew1) | exact HB.out)⟩⟩
              · rw [if_neg c12] at H
                have c12b0 : ((Int.tmod (wrap64 (t1014 - 160)) 2) == 0) = false := beq_eq_false_iff_ne.mpr c12
                have c12b1 : ((Int.tmod (wrap64 (t1014 - 160)) 2) != 0) = true := bne_iff_ne.mpr c12
                (first | rw [c12b0] | (simp only [i64_w, i32_w]; rw [c12b0]) | rw [c12b1] | skip)
                have H' := Aside0.mk H
                clear H
                go_wp2
                go_meet
                case rel => exact ⟨_, (160 + 1), (by first | rfl | (simp; done) | (simp [*]; done)), H', ⟨by have := HJ3.out; first | omega | exact Nat.le_refl _⟩, ⟨by repeat (first | (with_reducible first | exact HB.out | apply below_alloc | apply pw_below_drewN | apply below_drew1) | exact HB.out)⟩⟩
            case rest =>
              clear HC11
              try clear c1
              try clear p2
              try clear c3
              try clear c3b0
              try clear c3b1
              try clear c4
              try clear c5
              try clear c5b0
              try clear c5b1
              try clear p6
              try clear c7
              try clear c9
              try clear c9b0
              try clear c9b1
              try clear c12
              try clear c12b0
              try clear c12b1
              try clear p2
              obtain ⟨kq, x6_10, rfl, HA, HJ10, HB⟩ := hcut
              cases kq with
              | zero => exact absurd HA.out (by simp [gradineref12_Sqrt.j1])
              | succ kj10 =>
                have H := HA.out
                clear HA
                simp only [gradineref12_Sqrt.j1] at H
                obtain ⟨y1015, hy1015⟩ : ∃ y_ : List Int, y_ = (([t1013] : List Int)) := ⟨_, rfl⟩
                replace H : ((gradineref02_Shl.f kj10 y1015 x6_10).bind fun t1018 => ((gradineref04_Root.f kj10 t1018).bind fun t1021 => ((gradineref03_Mul.f kj10 t1021 t1021).bind fun t1024 => ((gradineref02_Cmp.f kj10 t1024 t1018).bind fun t1027 => ((gradineref10_More.f kj10 false t1021 (wrap64 (Int.tdiv (wrap64 (t1014 - x6_10)) 2)) (t1027 != 0)).bind fun t1028 => (some t1028)))))) = some r := by first | (rw [hy1015]; with_reducible exact H) | (have H2_ := (Option.bind_some _ _).symm.trans H; rw [hy1015]; with_reducible exact H2_) | (have H2_ := (Option.bind_some _ _).symm.trans H; with_reducible exact H2_) | with_reducible exact H | (rw [hy1015]; exact H) | exact H
                have Ny1015 := Aside0.mk hy1015
                clear hy1015
                replace H := Option.bind_eq_some_iff.mp H
                obtain ⟨t1018, A130, H⟩ := H
                replace H : ((gradineref04_Root.f kj10 t1018).bind fun t1021 => ((gradineref03_Mul.f kj10 t1021 t1021).bind fun t1024 => ((gradineref02_Cmp.f kj10 t1024 t1018).bind fun t1027 => ((gradineref10_More.f kj10 false t1021 (wrap64 (Int.tdiv (wrap64 (t1014 - x6_10)) 2)) (t1027 != 0)).bind fun t1028 => (some t1028))))) = some r := H
                have A13 := Aside0.mk A130
                clear A130
                replace H := Option.bind_eq_some_iff.mp H
                obtain ⟨t1021, A140, H⟩ := H
                replace H : ((gradineref03_Mul.f kj10 t1021 t1021).bind fun t1024 => ((gradineref02_Cmp.f kj10 t1024 t1018).bind fun t1027 => ((gradineref10_More.f kj10 false t1021 (wrap64 (Int.tdiv (wrap64 (t1014 - x6_10)) 2)) (t1027 != 0)).bind fun t1028 => (some t1028)))) = some r := H
                have A14 := Aside0.mk A140
                clear A140
                replace H := Option.bind_eq_some_iff.mp H
                obtain ⟨t1024, A150, H⟩ := H
                replace H : ((gradineref02_Cmp.f kj10 t1024 t1018).bind fun t1027 => ((gradineref10_More.f kj10 false t1021 (wrap64 (Int.tdiv (wrap64 (t1014 - x6_10)) 2)) (t1027 != 0)).bind fun t1028 => (some t1028))) = some r := H
                have A15 := Aside0.mk A150
                clear A150
                replace H := Option.bind_eq_some_iff.mp H
                obtain ⟨t1027, A160, H⟩ := H
                replace H : ((gradineref10_More.f kj10 false t1021 (wrap64 (Int.tdiv (wrap64 (t1014 - x6_10)) 2)) (t1027 != 0)).bind fun t1028 => (some t1028)) = some r := H
                have A16 := Aside0.mk A160
                clear A160
                replace H := Option.bind_eq_some_iff.mp H
                obtain ⟨t1028, A170, H⟩ := H
                replace H : (some t1028) = some r := H
                have A17 := Aside0.mk A170
                clear A170
                obtain rfl := Option.some.inj H
                go_wp2_with (first | ((with_reducible refine gate_dst (N := 37) rfl ?_); refine Kd.R_lit (Kd.int .u64) _ 22 ?hg (N := 37) ?hd (xs := ([t1013] : List Int)) (inner := [.int .u64 t1013]) (ok := fun _ => True) (okp := fun _ => True) ?hr ?hp (fun _ hk => hk) trivial (Below.refl _ _) (Nat.le_refl _) (by simp) ?_; (case hd => rfl); (case hg => rfl); (case hr => first | (go_simp; done) | (go_simp; rfl)); (case hp => exact (Reps.one (show Kd.M (Kd.int .u64) _ _ _ t1013 [.int .u64 t1013] from rfl) (Reps.none _ _))); intro v1016 w18 ho19 hb hg_ hnew_; clear hg_ hnew_; (first | rw [← Ny1015.out] at ho19 | (simp only [Int.reduceToNat] at ho19; rw [← Ny1015.out] at ho19)); have n0_ := Aside0.mk (Kd.R_lower ho19 (below_size (by repeat (first | (with_reducible first | exact HB.out | apply below_alloc | apply pw_below_drewN | apply below_drew1) | exact HB.out)))); have n1_ := Aside0.mk (below_step (by repeat (first | (with_reducible first | exact HB.out | apply below_alloc | apply pw_below_drewN | apply below_drew1) | exact HB.out)) hb); clear HB; have HO1017 := n0_; have HB := n1_; clear n0_ n1_; clear hb ho19; obtain ⟨Ao20, co20, eo20⟩ := Kd.R_slice HO1017.out; subst eo20) | ((with_reducible refine gate_callee (f := 90) rfl ?_); refine goesL_ (some 39) rfl rfl Try.func90 (by kernel_rfl) rfl #[.slice Ao20 y1015.length co20, .int .i64 x6_10] rfl (by (try simp only [List.map_toArray, List.map_cons, List.map_nil]); first | done | rfl | (simp only [List.length_drop, List.length_take]; rfl) | (simp only [*]; done)) ?_; (with_reducible refine (gradineref02_Shl.calls kj10 _ _ y1015 x6_10 t1018 _ ?side1 ?side2 A13.out).mono ?_); (case side1 => repeat (first | exact (Kd.R_reads' HO1017.out).2.2 | (with_reducible refine Kd.C_alloc ?_ _) | (with_reducible refine Kd.C_drewN ?_ _) | (with_reducible refine Kd.C_drew ?_))); (case side2 => exact (Kd.R_reads' HO1017.out).2.1); rintro e w21 ⟨v1019, rfl, ho0, hb⟩; refine ⟨_, rfl, ?_⟩; have n0_ := Aside0.mk (Kd.R_elder' (by (with_reducible repeat (first | apply Kd.R_alloc | apply Kd.R_drewN | apply Kd.R_drew)); exact HO1017.out) (Kd.R_base ho0) hb); have n1_ := Aside0.mk (Kd.R_lower (Kd.R_new' ho0 (Kd.R_lt (by (with_reducible repeat (first | apply Kd.R_alloc | apply Kd.R_drewN | apply Kd.R_drew)); exact HO1017.out))) (below_size (by repeat (first | (with_reducible first | exact HB.out | apply below_alloc | apply pw_below_drewN | apply below_drew1) | exact HB.out)))); have n2_ := Aside0.mk (below_step (by repeat (first | (with_reducible first | exact HB.out | apply below_alloc | apply pw_below_drewN | apply below_drew1) | exact HB.out)) hb); clear HO1017; clear HB; have HO1017 := n0_; have HO1020 := n1_; have HB := n2_; clear n0_ n1_ n2_; (try clear hb); (try clear hb2); (try clear hk); (try clear hi); (try clear ho0); obtain ⟨Ao22, co22, eo22⟩ := Kd.R_slice HO1020.out; subst eo22) | ((with_reducible refine gate_callee (f := 125) rfl ?_); refine goesL_ (some 41) rfl rfl Try.func125 (by kernel_rfl) rfl #[.slice Ao22 t1018.length co22] rfl (by (try simp only [List.map_toArray, List.map_cons, List.map_nil]); first | done | rfl | (simp only [List.length_drop, List.length_take]; rfl) | (simp only [*]; done)) ?_; (with_reducible refine (gradineref04_Root.calls kj10 _ _ t1018 t1021 _ ?side1 ?side2 A14.out).mono ?_); (case side1 => repeat (first | exact (Kd.R_reads' HO1020.out).2.2 | (with_reducible refine Kd.C_alloc ?_ _) | (with_reducible refine Kd.C_drewN ?_ _) | (with_reducible refine Kd.C_drew ?_))); (case side2 => exact (Kd.R_reads' HO1020.out).2.1); rintro e w23 ⟨v1022, rfl, ho0, hb⟩; refine ⟨_, rfl, ?_⟩; have n0_ := Aside0.mk (Kd.R_elder' (by (with_reducible repeat (first | apply Kd.R_alloc | apply Kd.R_drewN | apply Kd.R_drew)); exact HO1017.out) (Kd.R_base ho0) hb); have n1_ := Aside0.mk (Kd.R_elder' (by (with_reducible repeat (first | apply Kd.R_alloc | apply Kd.R_drewN | apply Kd.R_drew)); exact HO1020.out) (Kd.R_base ho0) hb); have n2_ := Aside0.mk (Kd.R_lower (Kd.R_new' (Kd.R_new' ho0 (Kd.R_lt (by (with_reducible repeat (first | apply Kd.R_alloc | apply Kd.R_drewN | apply Kd.R_drew)); exact HO1017.out))) (Kd.R_lt (by (with_reducible repeat (first | apply Kd.R_alloc | apply Kd.R_drewN | apply Kd.R_drew)); exact HO1020.out))) (below_size (by repeat (first | (with_reducible first | exact HB.out | apply below_alloc | apply pw_below_drewN | apply below_drew1) | exact HB.out)))); have n3_ := Aside0.mk (below_step (by repeat (first | (with_reducible first | exact HB.out | apply below_alloc | apply pw_below_drewN | apply below_drew1) | exact HB.out)) hb); clear HO1017; clear HO1020; clear HB; have HO1017 := n0_; have HO1020 := n1_; have HO1023 := n2_; have HB := n3_; clear n0_ n1_ n2_ n3_; (try clear hb); (try clear hb2); (try clear hk); (try clear hi); (try clear ho0); obtain ⟨Ao24, co24, eo24⟩ := Kd.R_slice HO1023.out; subst eo24) | ((with_reducible refine gate_callee (f := 107) rfl ?_); refine goesL_ (some 49) rfl rfl Try.func107 (by kernel_rfl) rfl #[.slice Ao24 t1021.length co24, .slice Ao24 t1021.length co24] rfl (by (try simp only [List.map_toArray, List.map_cons, List.map_nil]); first | done | rfl | (simp only [List.length_drop, List.length_take]; rfl) | (simp only [*]; done)) ?_; (with_reducible refine (gradineref03_Mul.calls kj10 _ _ t1021 _ _ t1021 t1024 _ ?side1 ?side2 ?side3 ?side4 A15.out).mono ?_); (case side1 => repeat (first | exact (Kd.R_reads' HO1023.out).2.2 | (with_reducible refine Kd.C_alloc ?_ _) | (with_reducible refine Kd.C_drewN ?_ _) | (with_reducible refine Kd.C_drew ?_))); (case side2 => exact (Kd.R_reads' HO1023.out).2.1); (case side3 => repeat (first | exact (Kd.R_reads' HO1023.out).2.2 | (with_reducible refine Kd.C_alloc ?_ _) | (with_reducible refine Kd.C_drewN ?_ _) | (with_reducible refine Kd.C_drew ?_))); (case side4 => exact (Kd.R_reads' HO1023.out).2.1); rintro e w25 ⟨v1025, rfl, ho0, hb⟩; refine ⟨_, rfl, ?_⟩; have n0_ := Aside0.mk (Kd.R_elder' (by (with_reducible repeat (first | apply Kd.R_alloc | apply Kd.R_drewN | apply Kd.R_drew)); exact HO1017.out) (Kd.R_base ho0) hb); have n1_ := Aside0.mk (Kd.R_elder' (by (with_reducible repeat (first | apply Kd.R_alloc | apply Kd.R_drewN | apply Kd.R_drew)); exact HO1020.out) (Kd.R_base ho0) hb); have n2_ := Aside0.mk (Kd.R_elder' (by (with_reducible repeat (first | apply Kd.R_alloc | apply Kd.R_drewN | apply Kd.R_drew)); exact HO1023.out) (Kd.R_base ho0) hb); have n3_ := Aside0.mk (Kd.R_lower (Kd.R_new' (Kd.R_new' (Kd.R_new' ho0 (Kd.R_lt (by (with_reducible repeat (first | apply Kd.R_alloc | apply Kd.R_drewN | apply Kd.R_drew)); exact HO1017.out))) (Kd.R_lt (by (with_reducible repeat (first | apply Kd.R_alloc | apply Kd.R_drewN | apply Kd.R_drew)); exact HO1020.out))) (Kd.R_lt (by (with_reducible repeat (first | apply Kd.R_alloc | apply Kd.R_drewN | apply Kd.R_drew)); exact HO1023.out))) (below_size (by repeat (first | (with_reducible first | exact HB.out | apply below_alloc | apply pw_below_drewN | apply below_drew1) | exact HB.out)))); have n4_ := Aside0.mk (below_step (by repeat (first | (with_reducible first | exact HB.out | apply below_alloc | apply pw_below_drewN | apply below_drew1) | exact HB.out)) hb); clear HO1017; clear HO1020; clear HO1023; clear HB; have HO1017 := n0_; have HO1020 := n1_; have HO1023 := n2_; have HO1026 := n3_; have HB := n4_; clear n0_ n1_ n2_ n3_ n4_; (try clear hb); (try clear hb2); (try clear hk); (try clear hi); (try clear ho0); obtain ⟨Ao26, co26, eo26⟩ := Kd.R_slice HO1026.out; subst eo26) | ((with_reducible refine gate_callee (f := 103) rfl ?_); refine goesL_ (some 51) rfl rfl Try.func103 (by kernel_rfl) rfl #[.slice Ao26 t1024.length co26, .slice Ao22 t1018.length co22] rfl (by (try simp only [List.map_toArray, List.map_cons, List.map_nil]); first | done | rfl | (simp only [List.length_drop, List.length_take]; rfl) | (simp only [*]; done)) ?_; (with_reducible refine (gradineref02_Cmp.calls kj10 _ _ t1024 _ _ t1018 t1027 _ ?side1 ?side2 ?side3 ?side4 A16.out).mono ?_); (case side1 => repeat (first | exact (Kd.R_reads' HO1026.out).2.2 | (with_reducible refine Kd.C_alloc ?_ _) | (with_reducible refine Kd.C_drewN ?_ _) | (with_reducible refine Kd.C_drew ?_))); (case side2 => exact (Kd.R_reads' HO1026.out).2.1); (case side3 => repeat (first | exact (Kd.R_reads' HO1020.out).2.2 | (with_reducible refine Kd.C_alloc ?_ _) | (with_reducible refine Kd.C_drewN ?_ _) | (with_reducible refine Kd.C_drew ?_))); (case side4 => exact (Kd.R_reads' HO1020.out).2.1); rintro e w27 ⟨rfl, hb⟩; refine ⟨_, rfl, ?_⟩; have n0_ := Aside0.mk (Kd.R_below (by (with_reducible repeat (first | apply Kd.R_alloc | apply Kd.R_drewN | apply Kd.R_drew)); exact HO1017.out) hb); have n1_ := Aside0.mk (Kd.R_below (by (with_reducible repeat (first | apply Kd.R_alloc | apply Kd.R_drewN | apply Kd.R_drew)); exact HO1020.out) hb); have n2_ := Aside0.mk (Kd.R_below (by (with_reducible repeat (first | apply Kd.R_alloc | apply Kd.R_drewN | apply Kd.R_drew)); exact HO1023.out) hb); have n3_ := Aside0.mk (Kd.R_below (by (with_reducible repeat (first | apply Kd.R_alloc | apply Kd.R_drewN | apply Kd.R_drew)); exact HO1026.out) hb); have n4_ := Aside0.mk (below_step (by repeat (first | (with_reducible first | exact HB.out | apply below_alloc | apply pw_below_drewN | apply below_drew1) | exact HB.out)) hb); clear HO1017; clear HO1020; clear HO1023; clear HO1026; clear HB; have HO1017 := n0_; have HO1020 := n1_; have HO1023 := n2_; have HO1026 := n3_; have HB := n4_; clear n0_ n1_ n2_ n3_ n4_; (try clear hb); (try clear hb2); (try clear hk); (try clear hi)) | ((with_reducible refine gate_callee (f := 37) rfl ?_); refine goesL_ (some 53) rfl rfl Try.func37 (by kernel_rfl) rfl #[.bool false, .slice Ao24 t1021.length co24, .int .i64 (wrap64 (Int.tdiv (wrap64 (t1014 - x6_10)) 2)), .bool (t1027 != 0)] rfl (by (try simp only [List.map_toArray, List.map_cons, List.map_nil]); first | done | rfl | (simp only [List.length_drop, List.length_take]; rfl) | (simp only [*]; done)) ?_; (with_reducible refine (gradineref10_More.calls kj10 false _ _ t1021 (wrap64 (Int.tdiv (wrap64 (t1014 - x6_10)) 2)) (t1027 != 0) t1028 _ ?side1 ?side2 A17.out).mono ?_); (case side1 => repeat (first | exact (Kd.R_reads' HO1023.out).2.2 | (with_reducible refine Kd.C_alloc ?_ _) | (with_reducible refine Kd.C_drewN ?_ _) | (with_reducible refine Kd.C_drew ?_))); (case side2 => exact (Kd.R_reads' HO1023.out).2.1); rintro e w28 ⟨rfl, hb⟩; refine ⟨_, rfl, ?_⟩; have n0_ := Aside0.mk (Kd.R_below (by (with_reducible repeat (first | apply Kd.R_alloc | apply Kd.R_drewN | apply Kd.R_drew)); exact HO1017.out) hb); have n1_ := Aside0.mk (Kd.R_below (by (with_reducible repeat (first | apply Kd.R_alloc | apply Kd.R_drewN | apply Kd.R_drew)); exact HO1020.out) hb); have n2_ := Aside0.mk (Kd.R_below (by (with_reducible repeat (first | apply Kd.R_alloc | apply Kd.R_drewN | apply Kd.R_drew)); exact HO1023.out) hb); have n3_ := Aside0.mk (Kd.R_below (by (with_reducible repeat (first | apply Kd.R_alloc | apply Kd.R_drewN | apply Kd.R_drew)); exact HO1026.out) hb); have n4_ := Aside0.mk (below_step (by repeat (first | (with_reducible first | exact HB.out | apply below_alloc | apply pw_below_drewN | apply below_drew1) | exact HB.out)) hb); clear HO1017; clear HO1020; clear HO1023; clear HO1026; clear HB; have HO1017 := n0_; have HO1020 := n1_; have HO1023 := n2_; have HO1026 := n3_; have HB := n4_; clear n0_ n1_ n2_ n3_ n4_; (try clear hb); (try clear hb2); (try clear hk); (try clear hi)))
                go_ret
                exact ⟨by first | rfl | (simp [errW_none, errW_some] <;> rfl) | (simp [*, errW_none, errW_some] <;> rfl), by repeat (first | (with_reducible first | exact HB.out | apply below_alloc | apply pw_below_drewN | apply below_drew1) | exact HB.out)⟩

/-! ### gradineref12_Mul: function 67 -/
mutual
def gradineref12_Mul.j0 : Nat → Int → Int → Int → Int → Bool → Bool → Option (Int)
  | 0, _, _, _, _, _, _ => none
  | k + 1, x0, x1, x5, x6, x7, x42 => if x42 = true then ((gradineref09_Nan.f).bind fun t908 => (some t908)) else (if x5 = 3 then (gradineref12_Mul.j1 k x0 x1 x7 true) else (gradineref12_Mul.j1 k x0 x1 x7 (x6 == 3)))
def gradineref12_Mul.j1 : Nat → Int → Int → Bool → Bool → Option (Int)
  | 0, _, _, _, _ => none
  | k + 1, x0, x1, x7, x49 => if x49 = true then ((gradineref09_Inf.f x7).bind fun t909 => (some t909)) else ((gradineref09_Parts.f x0).bind fun bt910 => ((gradineref09_Parts.f x1).bind fun bt912 => ((gradineref03_Mul.f k (([bt910.1] : List Int)) (([bt912.1] : List Int))).bind fun t920 => ((gradineref10_Of.f k x7 t920 (wrap64 (bt910.2 + bt912.2))).bind fun t923 => (some t923)))))
end
def gradineref12_Mul.f (k : Nat) (a0 : Int) (a1 : Int) : Option (Int) := (gradineref09_Kind.f a0).bind fun t904 => ((gradineref09_Kind.f a1).bind fun t905 => ((gradineref09_Neg.f a0).bind fun t906 => ((gradineref09_Neg.f a1).bind fun t907 => (if t904 = 4 then (gradineref12_Mul.j0 k a0 a1 t904 t905 (!(t906 == t907)) true) else (if t905 = 4 then (gradineref12_Mul.j0 k a0 a1 t904 t905 (!(t906 == t907)) true) else (if t904 = 3 then (if t905 = 0 then (gradineref12_Mul.j0 k a0 a1 t904 t905 (!(t906 == t907)) true) else (if t904 = 0 then (gradineref12_Mul.j0 k a0 a1 t904 t905 (!(t906 == t907)) (t905 == 3)) else (gradineref12_Mul.j0 k a0 a1 t904 t905 (!(t906 == t907)) false))) else (if t904 = 0 then (gradineref12_Mul.j0 k a0 a1 t904 t905 (!(t906 == t907)) (t905 == 3)) else (gradineref12_Mul.j0 k a0 a1 t904 t905 (!(t906 == t907)) false))))))))
set_option maxHeartbeats 8000000 in
set_option maxRecDepth 100000 in
theorem gradineref12_Mul.calls (k : Nat) (a0 : Int) (a1 : Int) (r : Int) (w : World) (h : gradineref12_Mul.f k a0 a1 = some r) :
    Calls Try.prog 67 #[.int .u64 a0, .int .u64 a1] w fun e w' => e = .returned (.int .u64 r) ∧ Below w.heap.size w w' := by
  have HB := Aside0.mk (Below.refl w.heap.size w)
  have H : ((gradineref09_Kind.f a0).bind fun t904 => ((gradineref09_Kind.f a1).bind fun t905 => ((gradineref09_Neg.f a0).bind fun t906 => ((gradineref09_Neg.f a1).bind fun t907 => (if t904 = 4 then (gradineref12_Mul.j0 k a0 a1 t904 t905 (!(t906 == t907)) true) else (if t905 = 4 then (gradineref12_Mul.j0 k a0 a1 t904 t905 (!(t906 == t907)) true) else (if t904 = 3 then (if t905 = 0 then (gradineref12_Mul.j0 k a0 a1 t904 t905 (!(t906 == t907)) true) else (if t904 = 0 then (gradineref12_Mul.j0 k a0 a1 t904 t905 (!(t906 == t907)) (t905 == 3)) else (gradineref12_Mul.j0 k a0 a1 t904 t905 (!(t906 == t907)) false))) else (if t904 = 0 then (gradineref12_Mul.j0 k a0 a1 t904 t905 (!(t906 == t907)) (t905 == 3)) else (gradineref12_Mul.j0 k a0 a1 t904 t905 (!(t906 == t907)) false))))))))) = some r := h
  clear h
  replace H := Option.bind_eq_some_iff.mp H
  obtain ⟨t904, A30, H⟩ := H
  replace H : ((gradineref09_Kind.f a1).bind fun t905 => ((gradineref09_Neg.f a0).bind fun t906 => ((gradineref09_Neg.f a1).bind fun t907 => (if t904 = 4 then (gradineref12_Mul.j0 k a0 a1 t904 t905 (!(t906 == t907)) true) else (if t905 = 4 then (gradineref12_Mul.j0 k a0 a1 t904 t905 (!(t906 == t907)) true) else (if t904 = 3 then (if t905 = 0 then (gradineref12_Mul.j0 k a0 a1 t904 t905 (!(t906 == t907)) true) else (if t904 = 0 then (gradineref12_Mul.j0 k a0 a1 t904 t905 (!(t906 == t907)) (t905 == 3)) else (gradineref12_Mul.j0 k a0 a1 t904 t905 (!(t906 == t907)) false))) else (if t904 = 0 then (gradineref12_Mul.j0 k a0 a1 t904 t905 (!(t906 == t907)) (t905 == 3)) else (gradineref12_Mul.j0 k a0 a1 t904 t905 (!(t906 == t907)) false)))))))) = some r := H
  have A3 := Aside0.mk A30
  clear A30
  replace H := Option.bind_eq_some_iff.mp H
  obtain ⟨t905, A40, H⟩ := H
  replace H : ((gradineref09_Neg.f a0).bind fun t906 => ((gradineref09_Neg.f a1).bind fun t907 => (if t904 = 4 then (gradineref12_Mul.j0 k a0 a1 t904 t905 (!(t906 == t907)) true) else (if t905 = 4 then (gradineref12_Mul.j0 k a0 a1 t904 t905 (!(t906 == t907)) true) else (if t904 = 3 then (if t905 = 0 then (gradineref12_Mul.j0 k a0 a1 t904 t905 (!(t906 == t907)) true) else (if t904 = 0 then (gradineref12_Mul.j0 k a0 a1 t904 t905 (!(t906 == t907)) (t905 == 3)) else (gradineref12_Mul.j0 k a0 a1 t904 t905 (!(t906 == t907)) false))) else (if t904 = 0 then (gradineref12_Mul.j0 k a0 a1 t904 t905 (!(t906 == t907)) (t905 == 3)) else (gradineref12_Mul.j0 k a0 a1 t904 t905 (!(t906 == t907)) false))))))) = some r := H
  have A4 := Aside0.mk A40
  clear A40
  replace H := Option.bind_eq_some_iff.mp H
  obtain ⟨t906, A50, H⟩ := H
  replace H : ((gradineref09_Neg.f a1).bind fun t907 => (if t904 = 4 then (gradineref12_Mul.j0 k a0 a1 t904 t905 (!(t906 == t907)) true) else (if t905 = 4 then (gradineref12_Mul.j0 k a0 a1 t904 t905 (!(t906 == t907)) true) else (if t904 = 3 then (if t905 = 0 then (gradineref12_Mul.j0 k a0 a1 t904 t905 (!(t906 == t907)) true) else (if t904 = 0 then (gradineref12_Mul.j0 k a0 a1 t904 t905 (!(t906 == t907)) (t905 == 3)) else (gradineref12_Mul.j0 k a0 a1 t904 t905 (!(t906 == t907)) false))) else (if t904 = 0 then (gradineref12_Mul.j0 k a0 a1 t904 t905 (!(t906 == t907)) (t905 == 3)) else (gradineref12_Mul.j0 k a0 a1 t904 t905 (!(t906 == t907)) false)))))) = some r := H
  have A5 := Aside0.mk A50
  clear A50
  replace H := Option.bind_eq_some_iff.mp H
  obtain ⟨t907, A60, H⟩ := H
  replace H : (if t904 = 4 then (gradineref12_Mul.j0 k a0 a1 t904 t905 (!(t906 == t907)) true) else (if t905 = 4 then (gradineref12_Mul.j0 k a0 a1 t904 t905 (!(t906 == t907)) true) else (if t904 = 3 then (if t905 = 0 then (gradineref12_Mul.j0 k a0 a1 t904 t905 (!(t906 == t907)) true) else (if t904 = 0 then (gradineref12_Mul.j0 k a0 a1 t904 t905 (!(t906 == t907)) (t905 == 3)) else (gradineref12_Mul.j0 k a0 a1 t904 t905 (!(t906 == t907)) false))) else (if t904 = 0 then (gradineref12_Mul.j0 k a0 a1 t904 t905 (!(t906 == t907)) (t905 == 3)) else (gradineref12_Mul.j0 k a0 a1 t904 t905 (!(t906 == t907)) false))))) = some r := H
  have A6 := Aside0.mk A60
  clear A60
  have HC7 := Aside0.mk H
  clear H
  go_enter Try.func67, Try.ntmps67
  go_upto_region 3 with (first | ((with_reducible refine gate_callee (f := 40) rfl ?_); refine goesL_ (some 13) rfl rfl Try.func40 (by kernel_rfl) rfl #[.int .u64 a0] rfl (by (try simp only [List.map_toArray, List.map_cons, List.map_nil]); first | done | rfl | (simp only [List.length_drop, List.length_take]; rfl) | (simp only [*]; done)) ?_; (with_reducible refine (gradineref09_Kind.calls a0 t904 _ A3.out).mono ?_); rintro e w' ⟨rfl, ⟨nd, rfl⟩⟩; refine ⟨_, rfl, ?_⟩) | ((with_reducible refine gate_callee (f := 40) rfl ?_); refine goesL_ (some 15) rfl rfl Try.func40 (by kernel_rfl) rfl #[.int .u64 a1] rfl (by (try simp only [List.map_toArray, List.map_cons, List.map_nil]); first | done | rfl | (simp only [List.length_drop, List.length_take]; rfl) | (simp only [*]; done)) ?_; (with_reducible refine (gradineref09_Kind.calls a1 t905 _ A4.out).mono ?_); rintro e w' ⟨rfl, ⟨nd, rfl⟩⟩; refine ⟨_, rfl, ?_⟩) | ((with_reducible refine gate_callee (f := 27) rfl ?_); refine goesL_ (some 17) rfl rfl Try.func27 (by kernel_rfl) rfl #[.int .u64 a0] rfl (by (try simp only [List.map_toArray, List.map_cons, List.map_nil]); first | done | rfl | (simp only [List.length_drop, List.length_take]; rfl) | (simp only [*]; done)) ?_; (with_reducible refine (gradineref09_Neg.calls a0 t906 _ A5.out).mono ?_); rintro e w' ⟨rfl, ⟨nd, rfl⟩⟩; refine ⟨_, rfl, ?_⟩) | ((with_reducible refine gate_callee (f := 27) rfl ?_); refine goesL_ (some 19) rfl rfl Try.func27 (by kernel_rfl) rfl #[.int .u64 a1] rfl (by (try simp only [List.map_toArray, List.map_cons, List.map_nil]); first | done | rfl | (simp only [List.length_drop, List.length_take]; rfl) | (simp only [*]; done)) ?_; (with_reducible refine (gradineref09_Neg.calls a1 t907 _ A6.out).mono ?_); rintro e w' ⟨rfl, ⟨nd, rfl⟩⟩; refine ⟨_, rfl, ?_⟩))
  (try simp only [Act.put, List.setIfInBounds_toArray, List.set_cons_zero, List.set_cons_succ])
  go_cut [42] (fun v42 wc => ∃ (kq : Nat) (x42_6 : Bool), v42 = .bool x42_6 ∧ Aside0 (gradineref12_Mul.j0 kq a0 a1 t904 t905 (!(t906 == t907)) x42_6 = some r) ∧ Aside0 (kq ≤ k) ∧ Aside0 (Below w.heap.size w wc))
  case first =>
    have H := HC7.out
    clear HC7
    by_cases c8 : t904 = 4
    · rw [if_pos c8] at H
      have c8b0 : (t904 == 4) = true := beq_iff_eq.mpr c8
      have c8b1 : (t904 != 4) = false := bne_eq_false_iff_eq.mpr c8
      clear c8
      (first | rw [c8b0] | (simp only [i64_w, i32_w]; rw [c8b0]) | rw [c8b1] | skip)
      have H' := Aside0.mk H
      clear H
      go_wp2
      go_meet
      case rel => exact ⟨_, (true), (by first | rfl | (simp; done) | (simp [*]; done)), H', ⟨by first | omega | exact Nat.le_refl _⟩, ⟨by repeat (first | (with_reducible first | exact HB.out | apply below_alloc | apply pw_below_drewN | apply below_drew1) | exact HB.out)⟩⟩
    · rw [if_neg c8] at H
      have c8b0 : (t904 == 4) = false := beq_eq_false_iff_ne.mpr c8
      have c8b1 : (t904 != 4) = true := bne_iff_ne.mpr c8
      (first | rw [c8b0] | (simp only [i64_w, i32_w]; rw [c8b0]) | rw [c8b1] | skip)
      by_cases c9 : t905 = 4
      · rw [if_pos c9] at H
        have c9b0 : (t905 == 4) = true := beq_iff_eq.mpr c9
        have c9b1 : (t905 != 4) = false := bne_eq_false_iff_eq.mpr c9
        clear c9
        have H' := Aside0.mk H
        clear H
        go_wp2
        go_meet
        case rel => exact ⟨_, (true), (by first | rfl | (simp; done) | (simp [*]; done)), H', ⟨by first | omega | exact Nat.le_refl _⟩, ⟨by repeat (first | (with_reducible first | exact HB.out | apply below_alloc | apply pw_below_drewN | apply below_drew1) | exact HB.out)⟩⟩
      · rw [if_neg c9] at H
        have c9b0 : (t905 == 4) = false := beq_eq_false_iff_ne.mpr c9
        have c9b1 : (t905 != 4) = true := bne_iff_ne.mpr c9
        by_cases c10 : t904 = 3
        · rw [if_pos c10] at H
          have c10b0 : (t904 == 3) = true := beq_iff_eq.mpr c10
          have c10b1 : (t904 != 3) = false := bne_eq_false_iff_eq.mpr c10
          clear c10
          by_cases c11 : t905 = 0
          · rw [if_pos c11] at H
            have c11b0 : (t905 == 0) = true := beq_iff_eq.mpr c11
            have c11b1 : (t905 != 0) = false := bne_eq_false_iff_eq.mpr c11
            clear c11
            have H' := Aside0.mk H
            clear H
            go_wp2
            go_meet
            case rel => exact ⟨_, (true), (by first | rfl | (simp; done) | (simp [*]; done)), H', ⟨by first | omega | exact Nat.le_refl _⟩, ⟨by repeat (first | (with_reducible first | exact HB.out | apply below_alloc | apply pw_below_drewN | apply below_drew1) | exact HB.out)⟩⟩
          · rw [if_neg c11] at H
            have c11b0 : (t905 == 0) = false := beq_eq_false_iff_ne.mpr c11
            have c11b1 : (t905 != 0) = true := bne_iff_ne.mpr c11
            by_cases c12 : t904 = 0
            · rw [if_pos c12] at H
              have c12b0 : (t904 == 0) = true := beq_iff_eq.mpr c12
              have c12b1 : (t904 != 0) = false := bne_eq_false_iff_eq.mpr c12
              clear c12
              have H' := Aside0.mk H
              clear H
              go_wp2
              go_meet
              case rel => exact ⟨_, ((t905 == 3)), (by first | rfl | (simp; done) | (simp [*]; done)), H', ⟨by first | omega | exact Nat.le_refl _⟩, ⟨by repeat (first | (with_reducible first | exact HB.out | apply below_alloc | apply pw_below_drewN | apply below_drew1) | exact HB.out)⟩⟩
            · rw [if_neg c12] at H
              have c12b0 : (t904 == 0) = false := beq_eq_false_iff_ne.mpr c12
              have c12b1 : (t904 != 0) = true := bne_iff_ne.mpr c12
              have H' := Aside0.mk H
              clear H
              go_wp2
              go_meet
              case rel => exact ⟨_, (false), (by first | rfl | (simp; done) | (simp [*]; done)), H', ⟨by first | omega | exact Nat.le_refl _⟩, ⟨by repeat (first | (with_reducible first | exact HB.out | apply below_alloc | apply pw_below_drewN | apply below_drew1) | exact HB.out)⟩⟩
        · rw [if_neg c10] at H
          have c10b0 : (t904 == 3) = false := beq_eq_false_iff_ne.mpr c10
          have c10b1 : (t904 != 3) = true := bne_iff_ne.mpr c10
          by_cases c13 : t904 = 0
          · rw [if_pos c13] at H
            have c13b0 : (t904 == 0) = true := beq_iff_eq.mpr c13
            have c13b1 : (t904 != 0) = false := bne_eq_false_iff_eq.mpr c13
            clear c13
            have H' := Aside0.mk H
            clear H
            go_wp2
            go_meet
            case rel => exact ⟨_, ((t905 == 3)), (by first | rfl | (simp; done) | (simp [*]; done)), H', ⟨by first | omega | exact Nat.le_refl _⟩, ⟨by repeat (first | (with_reducible first | exact HB.out | apply below_alloc | apply pw_below_drewN | apply below_drew1) | exact HB.out)⟩⟩
          · rw [if_neg c13] at H
            have c13b0 : (t904 == 0) = false := beq_eq_false_iff_ne.mpr c13
            have c13b1 : (t904 != 0) = true := bne_iff_ne.mpr c13
            have H' := Aside0.mk H
            clear H
            go_wp2
            go_meet
            case rel => exact ⟨_, (false), (by first | rfl | (simp; done) | (simp [*]; done)), H', ⟨by first | omega | exact Nat.le_refl _⟩, ⟨by repeat (first | (with_reducible first | exact HB.out | apply below_alloc | apply pw_below_drewN | apply below_drew1) | exact HB.out)⟩⟩
  case rest =>
    clear HC7
    try clear c1
    try clear c2
    try clear p2
    try clear c4
    try clear c6
    try clear c8
    try clear c8b0
    try clear c8b1
    try clear c9
    try clear c9b0
    try clear c9b1
    try clear c10
    try clear c10b0
    try clear c10b1
    try clear c11
    try clear c11b0
    try clear c11b1
    try clear c12
    try clear c12b0
    try clear c12b1
    try clear c13
    try clear c13b0
    try clear c13b1
    obtain ⟨kq, x42_6, rfl, HA, HJ6, HB⟩ := hcut
    cases kq with
    | zero => exact absurd HA.out (by simp [gradineref12_Mul.j0])
    | succ kj6 =>
      have H := HA.out
      clear HA
      simp only [gradineref12_Mul.j0] at H
      by_cases c14 : x42_6 = true
      · subst c14
        have H1 : ((gradineref09_Nan.f).bind fun t908 => (some t908)) = some r := by rw [if_pos rfl] at H; exact H
        clear H
        have H := H1
        clear H1
        replace H := Option.bind_eq_some_iff.mp H
        obtain ⟨t908, A150, H⟩ := H
        replace H : (some t908) = some r := H
        have A15 := Aside0.mk A150
        clear A150
        obtain rfl := Option.some.inj H
        go_wp2_with (first | ((with_reducible refine gate_callee (f := 33) rfl ?_); refine goesL_ (some 43) rfl rfl Try.func33 (by kernel_rfl) rfl #[] rfl (by (try simp only [List.map_toArray, List.map_cons, List.map_nil]); first | done | rfl | (simp only [List.length_drop, List.length_take]; rfl) | (simp only [*]; done)) ?_; (with_reducible refine (gradineref09_Nan.calls  t908 _ A15.out).mono ?_); rintro e w' ⟨rfl, ⟨nd, rfl⟩⟩; refine ⟨_, rfl, ?_⟩))
        go_ret
        exact ⟨by first | rfl | (simp [errW_none, errW_some] <;> rfl) | (simp [*, errW_none, errW_some] <;> rfl), by repeat (first | (with_reducible first | exact HB.out | apply below_alloc | apply pw_below_drewN | apply below_drew1) | exact HB.out)⟩
      · replace c14 := Bool.eq_false_iff.mpr c14
        subst c14
        have H1 : (if t904 = 3 then (gradineref12_Mul.j1 kj6 a0 a1 (!(t906 == t907)) true) else (gradineref12_Mul.j1 kj6 a0 a1 (!(t906 == t907)) (t905 == 3))) = some r := by rw [if_neg (show ¬ (false = true) by decide)] at H; exact H
        clear H
        have H := H1
        clear H1
        have HC16 := Aside0.mk H
        clear H
        go_upto_region 5 with (fail)
        go_cut [49] (fun v49 wc => ∃ (kq : Nat) (x49_15 : Bool), v49 = .bool x49_15 ∧ Aside0 (gradineref12_Mul.j1 kq a0 a1 (!(t906 == t907)) x49_15 = some r) ∧ Aside0 (kq ≤ kj6) ∧ Aside0 (Below w.heap.size w wc))
        case first =>
          have H := HC16.out
          clear HC16
          by_cases c17 : t904 = 3
          · rw [if_pos c17] at H
            have c17b0 : (t904 == 3) = true := beq_iff_eq.mpr c17
            have c17b1 : (t904 != 3) = false := bne_eq_false_iff_eq.mpr c17
            clear c17
            (first | rw [c17b0] | (simp only [i64_w, i32_w]; rw [c17b0]) | rw [c17b1] | skip)
            have H' := Aside0.mk H
            clear H
            go_wp2
            go_meet
            case rel => exact ⟨_, (true), (by first | rfl | (simp; done) | (simp [*]; done)), H', ⟨by have := HJ6.out; first | omega | exact Nat.le_refl _⟩, ⟨by repeat (first | (with_reducible first | exact HB.out | apply below_alloc | apply pw_below_drewN | apply below_drew1) | exact HB.out)⟩⟩
          · rw [if_neg c17] at H
            have c17b0 : (t904 == 3) = false := beq_eq_false_iff_ne.mpr c17
            have c17b1 : (t904 != 3) = true := bne_iff_ne.mpr c17
            (first | rw [c17b0] | (simp only [i64_w, i32_w]; rw [c17b0]) | rw [c17b1] | skip)
            have H' := Aside0.mk H
            clear H
            go_wp2
            go_meet
            case rel => exact ⟨_, ((t905 == 3)), (by first | rfl | (simp; done) | (simp [*]; done)), H', ⟨by have := HJ6.out; first | omega | exact Nat.le_refl _⟩, ⟨by repeat (first | (with_reducible first | exact HB.out | apply below_alloc | apply pw_below_drewN | apply below_drew1) | exact HB.out)⟩⟩
        case rest =>
          clear HC16
          try clear c1
          try clear c2
          try clear p2
          try clear c3
          try clear c4
          try clear c6
          try clear c8
          try clear c8b0
          try clear c8b1
          try clear c9
          try clear c9b0
          try clear c9b1
          try clear c10
          try clear c10b0
          try clear c10b1
          try clear c11
          try clear c11b0
          try clear c11b1
          try clear c12
          try clear c12b0
          try clear c12b1
          try clear c13
          try clear c13b0
          try clear c13b1
          try clear c14
          try clear c17
          try clear c17b0
          try clear c17b1
          try clear p2
          obtain ⟨kq, x49_15, rfl, HA, HJ15, HB⟩ := hcut
          cases kq with
          | zero => exact absurd HA.out (by simp [gradineref12_Mul.j1])
          | succ kj15 =>
            have H := HA.out
            clear HA
            simp only [gradineref12_Mul.j1] at H
            by_cases c18 : x49_15 = true
            · subst c18
              have H1 : ((gradineref09_Inf.f (!(t906 == t907))).bind fun t909 => (some t909)) = some r := by rw [if_pos rfl] at H; exact H
              clear H
              have H := H1
              clear H1
              replace H := Option.bind_eq_some_iff.mp H
              obtain ⟨t909, A190, H⟩ := H
              replace H : (some t909) = some r := H
              have A19 := Aside0.mk A190
              clear A190
              obtain rfl := Option.some.inj H
              go_wp2_with (first | ((with_reducible refine gate_callee (f := 35) rfl ?_); refine goesL_ (some 51) rfl rfl Try.func35 (by kernel_rfl) rfl #[.bool (!(t906 == t907))] rfl (by (try simp only [List.map_toArray, List.map_cons, List.map_nil]); first | done | rfl | (simp only [List.length_drop, List.length_take]; rfl) | (simp only [*]; done)) ?_; (with_reducible refine (gradineref09_Inf.calls (!(t906 == t907)) t909 _ A19.out).mono ?_); rintro e w' ⟨rfl, ⟨nd, rfl⟩⟩; refine ⟨_, rfl, ?_⟩))
              go_ret
              exact ⟨by first | rfl | (simp [errW_none, errW_some] <;> rfl) | (simp [*, errW_none, errW_some] <;> rfl), by repeat (first | (with_reducible first | exact HB.out | apply below_alloc | apply pw_below_drewN | apply below_drew1) | exact HB.out)⟩
            · replace c18 := Bool.eq_false_iff.mpr c18
              subst c18
              have H1 : ((gradineref09_Parts.f a0).bind fun bt910 => ((gradineref09_Parts.f a1).bind fun bt912 => ((gradineref03_Mul.f kj15 (([bt910.1] : List Int)) (([bt912.1] : List Int))).bind fun t920 => ((gradineref10_Of.f kj15 (!(t906 == t907)) t920 (wrap64 (bt910.2 + bt912.2))).bind fun t923 => (some t923))))) = some r := by rw [if_neg (show ¬ (false = true) by decide)] at H; exact H
              clear H
              have H := H1
              clear H1
              replace H := Option.bind_eq_some_iff.mp H
              obtain ⟨⟨t910, t911⟩, A200, H⟩ := H
              replace H : ((gradineref09_Parts.f a1).bind fun bt912 => ((gradineref03_Mul.f kj15 (([t910] : List Int)) (([bt912.1] : List Int))).bind fun t920 => ((gradineref10_Of.f kj15 (!(t906 == t907)) t920 (wrap64 (t911 + bt912.2))).bind fun t923 => (some t923)))) = some r := H
              have A20 := Aside0.mk A200
              clear A200
              replace H := Option.bind_eq_some_iff.mp H
              obtain ⟨⟨t912, t913⟩, A210, H⟩ := H
              replace H : ((gradineref03_Mul.f kj15 (([t910] : List Int)) (([t912] : List Int))).bind fun t920 => ((gradineref10_Of.f kj15 (!(t906 == t907)) t920 (wrap64 (t911 + t913))).bind fun t923 => (some t923))) = some r := H
              have A21 := Aside0.mk A210
              clear A210
              obtain ⟨y914, hy914⟩ : ∃ y_ : List Int, y_ = (([t910] : List Int)) := ⟨_, rfl⟩
              replace H : ((gradineref03_Mul.f kj15 y914 (([t912] : List Int))).bind fun t920 => ((gradineref10_Of.f kj15 (!(t906 == t907)) t920 (wrap64 (t911 + t913))).bind fun t923 => (some t923))) = some r := by first | (rw [hy914]; with_reducible exact H) | (have H2_ := (Option.bind_some _ _).symm.trans H; rw [hy914]; with_reducible exact H2_) | (have H2_ := (Option.bind_some _ _).symm.trans H; with_reducible exact H2_) | with_reducible exact H | (rw [hy914]; exact H) | exact H
              have Ny914 := Aside0.mk hy914
              clear hy914
              obtain ⟨y917, hy917⟩ : ∃ y_ : List Int, y_ = (([t912] : List Int)) := ⟨_, rfl⟩
              replace H : ((gradineref03_Mul.f kj15 y914 y917).bind fun t920 => ((gradineref10_Of.f kj15 (!(t906 == t907)) t920 (wrap64 (t911 + t913))).bind fun t923 => (some t923))) = some r := by first | (rw [hy917]; with_reducible exact H) | (have H2_ := (Option.bind_some _ _).symm.trans H; rw [hy917]; with_reducible exact H2_) | (have H2_ := (Option.bind_some _ _).symm.trans H; with_reducible exact H2_) | with_reducible exact H | (rw [hy917]; exact H) | exact H
              have Ny917 := Aside0.mk hy917
              clear hy917
              replace H := Option.bind_eq_some_iff.mp H
              obtain ⟨t920, A220, H⟩ := H
              replace H : ((gradineref10_Of.f kj15 (!(t906 == t907)) t920 (wrap64 (t911 + t913))).bind fun t923 => (some t923)) = some r := H
              have A22 := Aside0.mk A220
              clear A220
              replace H := Option.bind_eq_some_iff.mp H
              obtain ⟨t923, A230, H⟩ := H
              replace H : (some t923) = some r := H
              have A23 := Aside0.mk A230
              clear A230
              obtain rfl := Option.some.inj H
              go_wp2_with (first | ((with_reducible refine gate_callee (f := 42) rfl ?_); refine goesL_ (some 54) rfl rfl Try.func42 (by kernel_rfl) rfl #[.int .u64 a0] rfl (by (try simp only [List.map_toArray, List.map_cons, List.map_nil]); first | done | rfl | (simp only [List.length_drop, List.length_take]; rfl) | (simp only [*]; done)) ?_; (with_reducible refine (gradineref09_Parts.calls a0 t910 t911 _ A20.out).mono ?_); rintro e w' ⟨rfl, ⟨nd, rfl⟩⟩; refine ⟨_, rfl, ?_⟩) | ((with_reducible refine gate_callee (f := 42) rfl ?_); refine goesL_ (some 59) rfl rfl Try.func42 (by kernel_rfl) rfl #[.int .u64 a1] rfl (by (try simp only [List.map_toArray, List.map_cons, List.map_nil]); first | done | rfl | (simp only [List.length_drop, List.length_take]; rfl) | (simp only [*]; done)) ?_; (with_reducible refine (gradineref09_Parts.calls a1 t912 t913 _ A21.out).mono ?_); rintro e w' ⟨rfl, ⟨nd, rfl⟩⟩; refine ⟨_, rfl, ?_⟩) | ((with_reducible refine gate_dst (N := 64) rfl ?_); refine Kd.R_lit (Kd.int .u64) _ 22 ?hg (N := 64) ?hd (xs := ([t910] : List Int)) (inner := [.int .u64 t910]) (ok := fun _ => True) (okp := fun _ => True) ?hr ?hp (fun _ hk => hk) trivial (Below.refl _ _) (Nat.le_refl _) (by simp) ?_; (case hd => rfl); (case hg => rfl); (case hr => first | (go_simp; done) | (go_simp; rfl)); (case hp => exact (Reps.one (show Kd.M (Kd.int .u64) _ _ _ t910 [.int .u64 t910] from rfl) (Reps.none _ _))); intro v915 w24 ho25 hb hg_ hnew_; clear hg_ hnew_; (first | rw [← Ny914.out] at ho25 | (simp only [Int.reduceToNat] at ho25; rw [← Ny914.out] at ho25)); have n0_ := Aside0.mk (Kd.R_lower ho25 (below_size (by repeat (first | (with_reducible first | exact HB.out | apply below_alloc | apply pw_below_drewN | apply below_drew1) | exact HB.out)))); have n1_ := Aside0.mk (below_step (by repeat (first | (with_reducible first | exact HB.out | apply below_alloc | apply pw_below_drewN | apply below_drew1) | exact HB.out)) hb); clear HB; have HO916 := n0_; have HB := n1_; clear n0_ n1_; clear hb ho25) | ((with_reducible refine gate_dst (N := 66) rfl ?_); refine Kd.R_lit (Kd.int .u64) _ 22 ?hg (N := 66) ?hd (xs := ([t912] : List Int)) (inner := [.int .u64 t912]) (ok := fun _ => True) (okp := fun _ => True) ?hr ?hp (fun _ hk => hk) trivial (Below.refl _ _) (Nat.le_refl _) (by simp) ?_; (case hd => rfl); (case hg => rfl); (case hr => first | (go_simp; done) | (go_simp; rfl)); (case hp => exact (Reps.one (show Kd.M (Kd.int .u64) _ _ _ t912 [.int .u64 t912] from rfl) (Reps.none _ _))); intro v918 w26 ho27 hb hg_ hnew_; clear hg_ hnew_; (first | rw [← Ny917.out] at ho27 | (simp only [Int.reduceToNat] at ho27; rw [← Ny917.out] at ho27)); have n0_ := Aside0.mk (Kd.R_elder' (by (with_reducible repeat (first | apply Kd.R_alloc | apply Kd.R_drewN | apply Kd.R_drew)); exact HO916.out) (Kd.R_base ho27) hb); have n1_ := Aside0.mk (Kd.R_lower (Kd.R_new' ho27 (Kd.R_lt (by (with_reducible repeat (first | apply Kd.R_alloc | apply Kd.R_drewN | apply Kd.R_drew)); exact HO916.out))) (below_size (by repeat (first | (with_reducible first | exact HB.out | apply below_alloc | apply pw_below_drewN | apply below_drew1) | exact HB.out)))); have n2_ := Aside0.mk (below_step (by repeat (first | (with_reducible first | exact HB.out | apply below_alloc | apply pw_below_drewN | apply below_drew1) | exact HB.out)) hb); clear HO916; clear HB; have HO916 := n0_; have HO919 := n1_; have HB := n2_; clear n0_ n1_ n2_; clear hb ho27; obtain ⟨Ao28, co28, eo28⟩ := Kd.R_slice HO916.out; subst eo28; obtain ⟨Ao29, co29, eo29⟩ := Kd.R_slice HO919.out; subst eo29) | ((with_reducible refine gate_callee (f := 107) rfl ?_); refine goesL_ (some 67) rfl rfl Try.func107 (by kernel_rfl) rfl #[.slice Ao28 y914.length co28, .slice Ao29 y917.length co29] rfl (by (try simp only [List.map_toArray, List.map_cons, List.map_nil]); first | done | rfl | (simp only [List.length_drop, List.length_take]; rfl) | (simp only [*]; done)) ?_; (with_reducible refine (gradineref03_Mul.calls kj15 _ _ y914 _ _ y917 t920 _ ?side1 ?side2 ?side3 ?side4 A22.out).mono ?_); (case side1 => repeat (first | exact (Kd.R_reads' HO916.out).2.2 | (with_reducible refine Kd.C_alloc ?_ _) | (with_reducible refine Kd.C_drewN ?_ _) | (with_reducible refine Kd.C_drew ?_))); (case side2 => exact (Kd.R_reads' HO916.out).2.1); (case side3 => repeat (first | exact (Kd.R_reads' HO919.out).2.2 | (with_reducible refine Kd.C_alloc ?_ _) | (with_reducible refine Kd.C_drewN ?_ _) | (with_reducible refine Kd.C_drew ?_))); (case side4 => exact (Kd.R_reads' HO919.out).2.1); rintro e w30 ⟨v921, rfl, ho0, hb⟩; refine ⟨_, rfl, ?_⟩; have n0_ := Aside0.mk (Kd.R_elder' (by (with_reducible repeat (first | apply Kd.R_alloc | apply Kd.R_drewN | apply Kd.R_drew)); exact HO916.out) (Kd.R_base ho0) hb); have n1_ := Aside0.mk (Kd.R_elder' (by (with_reducible repeat (first | apply Kd.R_alloc | apply Kd.R_drewN | apply Kd.R_drew)); exact HO919.out) (Kd.R_base ho0) hb); have n2_ := Aside0.mk (Kd.R_lower (Kd.R_new' (Kd.R_new' ho0 (Kd.R_lt (by (with_reducible repeat (first | apply Kd.R_alloc | apply Kd.R_drewN | apply Kd.R_drew)); exact HO916.out))) (Kd.R_lt (by (with_reducible repeat (first | apply Kd.R_alloc | apply Kd.R_drewN | apply Kd.R_drew)); exact HO919.out))) (below_size (by repeat (first | (with_reducible first | exact HB.out | apply below_alloc | apply pw_below_drewN | apply below_drew1) | exact HB.out)))); have n3_ := Aside0.mk (below_step (by repeat (first | (with_reducible first | exact HB.out | apply below_alloc | apply pw_below_drewN | apply below_drew1) | exact HB.out)) hb); clear HO916; clear HO919; clear HB; have HO916 := n0_; have HO919 := n1_; have HO922 := n2_; have HB := n3_; clear n0_ n1_ n2_ n3_; (try clear hb); (try clear hb2); (try clear hk); (try clear hi); (try clear ho0); obtain ⟨Ao31, co31, eo31⟩ := Kd.R_slice HO922.out; subst eo31) | ((with_reducible refine gate_callee (f := 94) rfl ?_); refine goesL_ (some 71) rfl rfl Try.func94 (by kernel_rfl) rfl #[.bool (!(t906 == t907)), .slice Ao31 t920.length co31, .int .i64 (wrap64 (t911 + t913))] rfl (by (try simp only [List.map_toArray, List.map_cons, List.map_nil]); first | done | rfl | (simp only [List.length_drop, List.length_take]; rfl) | (simp only [*]; done)) ?_; (with_reducible refine (gradineref10_Of.calls kj15 (!(t906 == t907)) _ _ t920 (wrap64 (t911 + t913)) t923 _ ?side1 ?side2 A23.out).mono ?_); (case side1 => repeat (first | exact (Kd.R_reads' HO922.out).2.2 | (with_reducible refine Kd.C_alloc ?_ _) | (with_reducible refine Kd.C_drewN ?_ _) | (with_reducible refine Kd.C_drew ?_))); (case side2 => exact (Kd.R_reads' HO922.out).2.1); rintro e w32 ⟨rfl, hb⟩; refine ⟨_, rfl, ?_⟩; have n0_ := Aside0.mk (Kd.R_below (by (with_reducible repeat (first | apply Kd.R_alloc | apply Kd.R_drewN | apply Kd.R_drew)); exact HO916.out) hb); have n1_ := Aside0.mk (Kd.R_below (by (with_reducible repeat (first | apply Kd.R_alloc | apply Kd.R_drewN | apply Kd.R_drew)); exact HO919.out) hb); have n2_ := Aside0.mk (Kd.R_below (by (with_reducible repeat (first | apply Kd.R_alloc | apply Kd.R_drewN | apply Kd.R_drew)); exact HO922.out) hb); have n3_ := Aside0.mk (below_step (by repeat (first | (with_reducible first | exact HB.out | apply below_alloc | apply pw_below_drewN | apply below_drew1) | exact HB.out)) hb); clear HO916; clear HO919; clear HO922; clear HB; have HO916 := n0_; have HO919 := n1_; have HO922 := n2_; have HB := n3_; clear n0_ n1_ n2_ n3_; (try clear hb); (try clear hb2); (try clear hk); (try clear hi)))
              go_ret
              exact ⟨by first | rfl | (simp [errW_none, errW_some] <;> rfl) | (simp [*, errW_none, errW_some] <;> rfl), by repeat (first | (with_reducible first | exact HB.out | apply below_alloc | apply pw_below_drewN | apply below_drew1) | exact HB.out)⟩

/-! ### gradineref12_Div: function 69 -/
mutual
def gradineref12_Div.j0 : Nat → Int → Int → Int → Int → Bool → Bool → Option (Int)
  | 0, _, _, _, _, _, _ => none
  | k + 1, x0, x1, x5, x6, x7, x45 => if x45 = true then ((gradineref09_Nan.f).bind fun t958 => (some t958)) else (if x5 = 3 then (gradineref12_Div.j1 k x0 x1 x5 x6 x7 true) else (gradineref12_Div.j1 k x0 x1 x5 x6 x7 (x6 == 0)))
def gradineref12_Div.j1 : Nat → Int → Int → Int → Int → Bool → Bool → Option (Int)
  | 0, _, _, _, _, _, _ => none
  | k + 1, x0, x1, x5, x6, x7, x52 => if x52 = true then ((gradineref09_Inf.f x7).bind fun t959 => (some t959)) else (if x5 = 0 then (gradineref12_Div.j2 k x0 x1 x7 true) else (gradineref12_Div.j2 k x0 x1 x7 (x6 == 3)))
def gradineref12_Div.j2 : Nat → Int → Int → Bool → Bool → Option (Int)
  | 0, _, _, _, _ => none
  | k + 1, x0, x1, x7, x60 => if x60 = true then ((gradineref09_Signed.f x7 0).bind fun t960 => (some t960)) else ((gradineref09_Parts.f x0).bind fun bt961 => ((gradineref09_Parts.f x1).bind fun bt963 => (gradineref12_Div.l0 k x7 bt961.1 bt961.2 bt963.1 bt963.2)))
def gradineref12_Div.l0 : Nat → Bool → Int → Int → Int → Int → Option (Int)
  | 0, _, _, _, _, _ => none
  | k + 1, x7, x8, x9, x10, x11 => if x8 < 4503599627370496 then (gradineref12_Div.l0 k x7 (IntKind.u64.wrap (x8 * 2)) (wrap64 (x9 - 1)) x10 x11) else (gradineref12_Div.l1 k x7 x8 x9 x10 x11)
def gradineref12_Div.l1 : Nat → Bool → Int → Int → Int → Int → Option (Int)
  | 0, _, _, _, _, _ => none
  | k + 1, x7, x8, x9, x10, x11 => if x10 < 4503599627370496 then (gradineref12_Div.l1 k x7 x8 x9 (IntKind.u64.wrap (x10 * 2)) (wrap64 (x11 - 1))) else ((gradineref01_Div.f k (IntKind.u64.wrap (x8 * 1024)) 0 (IntKind.u64.wrap (x10 * 2048))).bind fun bt965 => ((gradineref10_More.f k x7 (([bt965.1] : List Int)) (wrap64 ((wrap64 (x9 - x11)) - 63)) (decide (bt965.2.1 > 0))).bind fun t971 => (some t971)))
end
def gradineref12_Div.f (k : Nat) (a0 : Int) (a1 : Int) : Option (Int) := (gradineref09_Kind.f a0).bind fun t954 => ((gradineref09_Kind.f a1).bind fun t955 => ((gradineref09_Neg.f a0).bind fun t956 => ((gradineref09_Neg.f a1).bind fun t957 => (if t954 = 4 then (gradineref12_Div.j0 k a0 a1 t954 t955 (!(t956 == t957)) true) else (if t955 = 4 then (gradineref12_Div.j0 k a0 a1 t954 t955 (!(t956 == t957)) true) else (if t954 = 3 then (if t955 = 3 then (gradineref12_Div.j0 k a0 a1 t954 t955 (!(t956 == t957)) true) else (if t954 = 0 then (gradineref12_Div.j0 k a0 a1 t954 t955 (!(t956 == t957)) (t955 == 0)) else (gradineref12_Div.j0 k a0 a1 t954 t955 (!(t956 == t957)) false))) else (if t954 = 0 then (gradineref12_Div.j0 k a0 a1 t954 t955 (!(t956 == t957)) (t955 == 0)) else (gradineref12_Div.j0 k a0 a1 t954 t955 (!(t956 == t957)) false))))))))
set_option maxHeartbeats 8000000 in
set_option maxRecDepth 100000 in
theorem gradineref12_Div.calls (k : Nat) (a0 : Int) (a1 : Int) (r : Int) (w : World) (h : gradineref12_Div.f k a0 a1 = some r) :
    Calls Try.prog 69 #[.int .u64 a0, .int .u64 a1] w fun e w' => e = .returned (.int .u64 r) ∧ Below w.heap.size w w' := by
  have HB := Aside0.mk (Below.refl w.heap.size w)
  have H : ((gradineref09_Kind.f a0).bind fun t954 => ((gradineref09_Kind.f a1).bind fun t955 => ((gradineref09_Neg.f a0).bind fun t956 => ((gradineref09_Neg.f a1).bind fun t957 => (if t954 = 4 then (gradineref12_Div.j0 k a0 a1 t954 t955 (!(t956 == t957)) true) else (if t955 = 4 then (gradineref12_Div.j0 k a0 a1 t954 t955 (!(t956 == t957)) true) else (if t954 = 3 then (if t955 = 3 then (gradineref12_Div.j0 k a0 a1 t954 t955 (!(t956 == t957)) true) else (if t954 = 0 then (gradineref12_Div.j0 k a0 a1 t954 t955 (!(t956 == t957)) (t955 == 0)) else (gradineref12_Div.j0 k a0 a1 t954 t955 (!(t956 == t957)) false))) else (if t954 = 0 then (gradineref12_Div.j0 k a0 a1 t954 t955 (!(t956 == t957)) (t955 == 0)) else (gradineref12_Div.j0 k a0 a1 t954 t955 (!(t956 == t957)) false))))))))) = some r := h
  clear h
  replace H := Option.bind_eq_some_iff.mp H
  obtain ⟨t954, A30, H⟩ := H
  replace H : ((gradineref09_Kind.f a1).bind fun t955 => ((gradineref09_Neg.f a0).bind fun t956 => ((gradineref09_Neg.f a1).bind fun t957 => (if t954 = 4 then (gradineref12_Div.j0 k a0 a1 t954 t955 (!(t956 == t957)) true) else (if t955 = 4 then (gradineref12_Div.j0 k a0 a1 t954 t955 (!(t956 == t957)) true) else (if t954 = 3 then (if t955 = 3 then (gradineref12_Div.j0 k a0 a1 t954 t955 (!(t956 == t957)) true) else (if t954 = 0 then (gradineref12_Div.j0 k a0 a1 t954 t955 (!(t956 == t957)) (t955 == 0)) else (gradineref12_Div.j0 k a0 a1 t954 t955 (!(t956 == t957)) false))) else (if t954 = 0 then (gradineref12_Div.j0 k a0 a1 t954 t955 (!(t956 == t957)) (t955 == 0)) else (gradineref12_Div.j0 k a0 a1 t954 t955 (!(t956 == t957)) false)))))))) = some r := H
  have A3 := Aside0.mk A30
  clear A30
  replace H := Option.bind_eq_some_iff.mp H
  obtain ⟨t955, A40, H⟩ := H
  replace H : ((gradineref09_Neg.f a0).bind fun t956 => ((gradineref09_Neg.f a1).bind fun t957 => (if t954 = 4 then (gradineref12_Div.j0 k a0 a1 t954 t955 (!(t956 == t957)) true) else (if t955 = 4 then (gradineref12_Div.j0 k a0 a1 t954 t955 (!(t956 == t957)) true) else (if t954 = 3 then (if t955 = 3 then (gradineref12_Div.j0 k a0 a1 t954 t955 (!(t956 == t957)) true) else (if t954 = 0 then (gradineref12_Div.j0 k a0 a1 t954 t955 (!(t956 == t957)) (t955 == 0)) else (gradineref12_Div.j0 k a0 a1 t954 t955 (!(t956 == t957)) false))) else (if t954 = 0 then (gradineref12_Div.j0 k a0 a1 t954 t955 (!(t956 == t957)) (t955 == 0)) else (gradineref12_Div.j0 k a0 a1 t954 t955 (!(t956 == t957)) false))))))) = some r := H
  have A4 := Aside0.mk A40
  clear A40
  replace H := Option.bind_eq_some_iff.mp H
  obtain ⟨t956, A50, H⟩ := H
  replace H : ((gradineref09_Neg.f a1).bind fun t957 => (if t954 = 4 then (gradineref12_Div.j0 k a0 a1 t954 t955 (!(t956 == t957)) true) else (if t955 = 4 then (gradineref12_Div.j0 k a0 a1 t954 t955 (!(t956 == t957)) true) else (if t954 = 3 then (if t955 = 3 then (gradineref12_Div.j0 k a0 a1 t954 t955 (!(t956 == t957)) true) else (if t954 = 0 then (gradineref12_Div.j0 k a0 a1 t954 t955 (!(t956 == t957)) (t955 == 0)) else (gradineref12_Div.j0 k a0 a1 t954 t955 (!(t956 == t957)) false))) else (if t954 = 0 then (gradineref12_Div.j0 k a0 a1 t954 t955 (!(t956 == t957)) (t955 == 0)) else (gradineref12_Div.j0 k a0 a1 t954 t955 (!(t956 == t957)) false)))))) = some r := H
  have A5 := Aside0.mk A50
  clear A50
  replace H := Option.bind_eq_some_iff.mp H
  obtain ⟨t957, A60, H⟩ := H
  replace H : (if t954 = 4 then (gradineref12_Div.j0 k a0 a1 t954 t955 (!(t956 == t957)) true) else (if t955 = 4 then (gradineref12_Div.j0 k a0 a1 t954 t955 (!(t956 == t957)) true) else (if t954 = 3 then (if t955 = 3 then (gradineref12_Div.j0 k a0 a1 t954 t955 (!(t956 == t957)) true) else (if t954 = 0 then (gradineref12_Div.j0 k a0 a1 t954 t955 (!(t956 == t957)) (t955 == 0)) else (gradineref12_Div.j0 k a0 a1 t954 t955 (!(t956 == t957)) false))) else (if t954 = 0 then (gradineref12_Div.j0 k a0 a1 t954 t955 (!(t956 == t957)) (t955 == 0)) else (gradineref12_Div.j0 k a0 a1 t954 t955 (!(t956 == t957)) false))))) = some r := H
  have A6 := Aside0.mk A60
  clear A60
  have HC7 := Aside0.mk H
  clear H
  go_enter Try.func69, Try.ntmps69
  go_upto_region 3 with (first | ((with_reducible refine gate_callee (f := 40) rfl ?_); refine goesL_ (some 16) rfl rfl Try.func40 (by kernel_rfl) rfl #[.int .u64 a0] rfl (by (try simp only [List.map_toArray, List.map_cons, List.map_nil]); first | done | rfl | (simp only [List.length_drop, List.length_take]; rfl) | (simp only [*]; done)) ?_; (with_reducible refine (gradineref09_Kind.calls a0 t954 _ A3.out).mono ?_); rintro e w' ⟨rfl, ⟨nd, rfl⟩⟩; refine ⟨_, rfl, ?_⟩) | ((with_reducible refine gate_callee (f := 40) rfl ?_); refine goesL_ (some 18) rfl rfl Try.func40 (by kernel_rfl) rfl #[.int .u64 a1] rfl (by (try simp only [List.map_toArray, List.map_cons, List.map_nil]); first | done | rfl | (simp only [List.length_drop, List.length_take]; rfl) | (simp only [*]; done)) ?_; (with_reducible refine (gradineref09_Kind.calls a1 t955 _ A4.out).mono ?_); rintro e w' ⟨rfl, ⟨nd, rfl⟩⟩; refine ⟨_, rfl, ?_⟩) | ((with_reducible refine gate_callee (f := 27) rfl ?_); refine goesL_ (some 20) rfl rfl Try.func27 (by kernel_rfl) rfl #[.int .u64 a0] rfl (by (try simp only [List.map_toArray, List.map_cons, List.map_nil]); first | done | rfl | (simp only [List.length_drop, List.length_take]; rfl) | (simp only [*]; done)) ?_; (with_reducible refine (gradineref09_Neg.calls a0 t956 _ A5.out).mono ?_); rintro e w' ⟨rfl, ⟨nd, rfl⟩⟩; refine ⟨_, rfl, ?_⟩) | ((with_reducible refine gate_callee (f := 27) rfl ?_); refine goesL_ (some 22) rfl rfl Try.func27 (by kernel_rfl) rfl #[.int .u64 a1] rfl (by (try simp only [List.map_toArray, List.map_cons, List.map_nil]); first | done | rfl | (simp only [List.length_drop, List.length_take]; rfl) | (simp only [*]; done)) ?_; (with_reducible refine (gradineref09_Neg.calls a1 t957 _ A6.out).mono ?_); rintro e w' ⟨rfl, ⟨nd, rfl⟩⟩; refine ⟨_, rfl, ?_⟩))
  (try simp only [Act.put, List.setIfInBounds_toArray, List.set_cons_zero, List.set_cons_succ])
  go_cut [45] (fun v45 wc => ∃ (kq : Nat) (x45_6 : Bool), v45 = .bool x45_6 ∧ Aside0 (gradineref12_Div.j0 kq a0 a1 t954 t955 (!(t956 == t957)) x45_6 = some r) ∧ Aside0 (kq ≤ k) ∧ Aside0 (Below w.heap.size w wc))
  case first =>
    have H := HC7.out
    clear HC7
    by_cases c8 : t954 = 4
    · rw [if_pos c8] at H
      have c8b0 : (t954 == 4) = true := beq_iff_eq.mpr c8
      have c8b1 : (t954 != 4) = false := bne_eq_false_iff_eq.mpr c8
      clear c8
      (first | rw [c8b0] | (simp only [i64_w, i32_w]; rw [c8b0]) | rw [c8b1] | skip)
      have H' := Aside0.mk H
      clear H
      go_wp2
      go_meet
      case rel => exact ⟨_, (true), (by first | rfl | (simp; done) | (simp [*]; done)), H', ⟨by first | omega | exact Nat.le_refl _⟩, ⟨by repeat (first | (with_reducible first | exact HB.out | apply below_alloc | apply pw_below_drewN | apply below_drew1) | exact HB.out)⟩⟩
    · rw [if_neg c8] at H
      have c8b0 : (t954 == 4) = false := beq_eq_false_iff_ne.mpr c8
      have c8b1 : (t954 != 4) = true := bne_iff_ne.mpr c8
      (first | rw [c8b0] | (simp only [i64_w, i32_w]; rw [c8b0]) | rw [c8b1] | skip)
      by_cases c9 : t955 = 4
      · rw [if_pos c9] at H
        have c9b0 : (t955 == 4) = true := beq_iff_eq.mpr c9
        have c9b1 : (t955 != 4) = false := bne_eq_false_iff_eq.mpr c9
        clear c9
        have H' := Aside0.mk H
        clear H
        go_wp2
        go_meet
        case rel => exact ⟨_, (true), (by first | rfl | (simp; done) | (simp [*]; done)), H', ⟨by first | omega | exact Nat.le_refl _⟩, ⟨by repeat (first | (with_reducible first | exact HB.out | apply below_alloc | apply pw_below_drewN | apply below_drew1) | exact HB.out)⟩⟩
      · rw [if_neg c9] at H
        have c9b0 : (t955 == 4) = false := beq_eq_false_iff_ne.mpr c9
        have c9b1 : (t955 != 4) = true := bne_iff_ne.mpr c9
        by_cases c10 : t954 = 3
        · rw [if_pos c10] at H
          have c10b0 : (t954 == 3) = true := beq_iff_eq.mpr c10
          have c10b1 : (t954 != 3) = false := bne_eq_false_iff_eq.mpr c10
          clear c10
          by_cases c11 : t955 = 3
          · rw [if_pos c11] at H
            have c11b0 : (t955 == 3) = true := beq_iff_eq.mpr c11
            have c11b1 : (t955 != 3) = false := bne_eq_false_iff_eq.mpr c11
            clear c11
            have H' := Aside0.mk H
            clear H
            go_wp2
            go_meet
            case rel => exact ⟨_, (true), (by first | rfl | (simp; done) | (simp [*]; done)), H', ⟨by first | omega | exact Nat.le_refl _⟩, ⟨by repeat (first | (with_reducible first | exact HB.out | apply below_alloc | apply pw_below_drewN | apply below_drew1) | exact HB.out)⟩⟩
          · rw [if_neg c11] at H
            have c11b0 : (t955 == 3) = false := beq_eq_false_iff_ne.mpr c11
            have c11b1 : (t955 != 3) = true := bne_iff_ne.mpr c11
            by_cases c12 : t954 = 0
            · rw [if_pos c12] at H
              have c12b0 : (t954 == 0) = true := beq_iff_eq.mpr c12
              have c12b1 : (t954 != 0) = false := bne_eq_false_iff_eq.mpr c12
              clear c12
              have H' := Aside0.mk H
              clear H
              go_wp2
              go_meet
              case rel => exact ⟨_, ((t955 == 0)), (by first | rfl | (simp; done) | (simp [*]; done)), H', ⟨by first | omega | exact Nat.le_refl _⟩, ⟨by repeat (first | (with_reducible first | exact HB.out | apply below_alloc | apply pw_below_drewN | apply below_drew1) | exact HB.out)⟩⟩
            · rw [if_neg c12] at H
              have c12b0 : (t954 == 0) = false := beq_eq_false_iff_ne.mpr c12
              have c12b1 : (t954 != 0) = true := bne_iff_ne.mpr c12
              have H' := Aside0.mk H
              clear H
              go_wp2
              go_meet
              case rel => exact ⟨_, (false), (by first | rfl | (simp; done) | (simp [*]; done)), H', ⟨by first | omega | exact Nat.le_refl _⟩, ⟨by repeat (first | (with_reducible first | exact HB.out | apply below_alloc | apply pw_below_drewN | apply below_drew1) | exact HB.out)⟩⟩
        · rw [if_neg c10] at H
          have c10b0 : (t954 == 3) = false := beq_eq_false_iff_ne.mpr c10
          have c10b1 : (t954 != 3) = true := bne_iff_ne.mpr c10
          by_cases c13 : t954 = 0
          · rw [if_pos c13] at H
            have c13b0 : (t954 == 0) = true := beq_iff_eq.mpr c13
            have c13b1 : (t954 != 0) = false := bne_eq_false_iff_eq.mpr c13
            clear c13
            have H' := Aside0.mk H
            clear H
            go_wp2
            go_meet
            case rel => exact ⟨_, ((t955 == 0)), (by first | rfl | (simp; done) | (simp [*]; done)), H', ⟨by first | omega | exact Nat.le_refl _⟩, ⟨by repeat (first | (with_reducible first | exact HB.out | apply below_alloc | apply pw_below_drewN | apply below_drew1) | exact HB.out)⟩⟩
          · rw [if_neg c13] at H
            have c13b0 : (t954 == 0) = false := beq_eq_false_iff_ne.mpr c13
            have c13b1 : (t954 != 0) = true := bne_iff_ne.mpr c13
            have H' := Aside0.mk H
            clear H
            go_wp2
            go_meet
            case rel => exact ⟨_, (false), (by first | rfl | (simp; done) | (simp [*]; done)), H', ⟨by first | omega | exact Nat.le_refl _⟩, ⟨by repeat (first | (with_reducible first | exact HB.out | apply below_alloc | apply pw_below_drewN | apply below_drew1) | exact HB.out)⟩⟩
  case rest =>
    clear HC7
    try clear c1
    try clear c2
    try clear p2
    try clear c4
    try clear c6
    try clear c8
    try clear c8b0
    try clear c8b1
    try clear c9
    try clear c9b0
    try clear c9b1
    try clear c10
    try clear c10b0
    try clear c10b1
    try clear c11
    try clear c11b0
    try clear c11b1
    try clear c12
    try clear c12b0
    try clear c12b1
    try clear c13
    try clear c13b0
    try clear c13b1
    obtain ⟨kq, x45_6, rfl, HA, HJ6, HB⟩ := hcut
    cases kq with
    | zero => exact absurd HA.out (by simp [gradineref12_Div.j0])
    | succ kj6 =>
      have H := HA.out
      clear HA
      simp only [gradineref12_Div.j0] at H
      by_cases c14 : x45_6 = true
      · subst c14
        have H1 : ((gradineref09_Nan.f).bind fun t958 => (some t958)) = some r := by rw [if_pos rfl] at H; exact H
        clear H
        have H := H1
        clear H1
        replace H := Option.bind_eq_some_iff.mp H
        obtain ⟨t958, A150, H⟩ := H
        replace H : (some t958) = some r := H
        have A15 := Aside0.mk A150
        clear A150
        obtain rfl := Option.some.inj H
        go_wp2_with (first | ((with_reducible refine gate_callee (f := 33) rfl ?_); refine goesL_ (some 46) rfl rfl Try.func33 (by kernel_rfl) rfl #[] rfl (by (try simp only [List.map_toArray, List.map_cons, List.map_nil]); first | done | rfl | (simp only [List.length_drop, List.length_take]; rfl) | (simp only [*]; done)) ?_; (with_reducible refine (gradineref09_Nan.calls  t958 _ A15.out).mono ?_); rintro e w' ⟨rfl, ⟨nd, rfl⟩⟩; refine ⟨_, rfl, ?_⟩))
        go_ret
        exact ⟨by first | rfl | (simp [errW_none, errW_some] <;> rfl) | (simp [*, errW_none, errW_some] <;> rfl), by repeat (first | (with_reducible first | exact HB.out | apply below_alloc | apply pw_below_drewN | apply below_drew1) | exact HB.out)⟩
      · replace c14 := Bool.eq_false_iff.mpr c14
        subst c14
        have H1 : (if t954 = 3 then (gradineref12_Div.j1 kj6 a0 a1 t954 t955 (!(t956 == t957)) true) else (gradineref12_Div.j1 kj6 a0 a1 t954 t955 (!(t956 == t957)) (t955 == 0))) = some r := by rw [if_neg (show ¬ (false = true) by decide)] at H; exact H
        clear H
        have H := H1
        clear H1
        have HC16 := Aside0.mk H
        clear H
        go_upto_region 5 with (fail)
        go_cut [52] (fun v52 wc => ∃ (kq : Nat) (x52_15 : Bool), v52 = .bool x52_15 ∧ Aside0 (gradineref12_Div.j1 kq a0 a1 t954 t955 (!(t956 == t957)) x52_15 = some r) ∧ Aside0 (kq ≤ kj6) ∧ Aside0 (Below w.heap.size w wc))
        case first =>
          have H := HC16.out
          clear HC16
          by_cases c17 : t954 = 3
          · rw [if_pos c17] at H
            have c17b0 : (t954 == 3) = true := beq_iff_eq.mpr c17
            have c17b1 : (t954 != 3) = false := bne_eq_false_iff_eq.mpr c17
            clear c17
            (first | rw [c17b0] | (simp only [i64_w, i32_w]; rw [c17b0]) | rw [c17b1] | skip)
            have H' := Aside0.mk H
            clear H
            go_wp2
            go_meet
            case rel => exact ⟨_, (true), (by first | rfl | (simp; done) | (simp [*]; done)), H', ⟨by have := HJ6.out; first | omega | exact Nat.le_refl _⟩, ⟨by repeat (first | (with_reducible first | exact HB.out | apply below_alloc | apply pw_below_drewN | apply below_drew1) | exact HB.out)⟩⟩
          · rw [if_neg c17] at H
            have c17b0 : (t954 == 3) = false := beq_eq_false_iff_ne.mpr c17
            have c17b1 : (t954 != 3) = true := bne_iff_ne.mpr c17
            (first | rw [c17b0] | (simp only [i64_w, i32_w]; rw [c17b0]) | rw [c17b1] | skip)
            have H' := Aside0.mk H
            clear H
            go_wp2
            go_meet
            case rel => exact ⟨_, ((t955 == 0)), (by first | rfl | (simp; done) | (simp [*]; done)), H', ⟨by have := HJ6.out; first | omega | exact Nat.le_refl _⟩, ⟨by repeat (first | (with_reducible first | exact HB.out | apply below_alloc | apply pw_below_drewN | apply below_drew1) | exact HB.out)⟩⟩
        case rest =>
          clear HC16
          try clear c1
          try clear c2
          try clear p2
          try clear c3
          try clear c4
          try clear c6
          try clear c8
          try clear c8b0
          try clear c8b1
          try clear c9
          try clear c9b0
          try clear c9b1
          try clear c10
          try clear c10b0
          try clear c10b1
          try clear c11
          try clear c11b0
          try clear c11b1
          try clear c12
          try clear c12b0
          try clear c12b1
          try clear c13
          try clear c13b0
          try clear c13b1
          try clear c14
          try clear c17
          try clear c17b0
          try clear c17b1
          try clear p2
          obtain ⟨kq, x52_15, rfl, HA, HJ15, HB⟩ := hcut
          cases kq with
          | zero => exact absurd HA.out (by simp [gradineref12_Div.j1])
          | succ kj15 =>
            have H := HA.out
            clear HA
            simp only [gradineref12_Div.j1] at H
            by_cases c18 : x52_15 = true
            · subst c18
              have H1 : ((gradineref09_Inf.f (!(t956 == t957))).bind fun t959 => (some t959)) = some r := by rw [if_pos rfl] at H; exact H
              clear H
              have H := H1
              clear H1
              replace H := Option.bind_eq_some_iff.mp H
              obtain ⟨t959, A190, H⟩ := H
              replace H : (some t959) = some r := H
              have A19 := Aside0.mk A190
              clear A190
              obtain rfl := Option.some.inj H
              go_wp2_with (first | ((with_reducible refine gate_callee (f := 35) rfl ?_); refine goesL_ (some 54) rfl rfl Try.func35 (by kernel_rfl) rfl #[.bool (!(t956 == t957))] rfl (by (try simp only [List.map_toArray, List.map_cons, List.map_nil]); first | done | rfl | (simp only [List.length_drop, List.length_take]; rfl) | (simp only [*]; done)) ?_; (with_reducible refine (gradineref09_Inf.calls (!(t956 == t957)) t959 _ A19.out).mono ?_); rintro e w' ⟨rfl, ⟨nd, rfl⟩⟩; refine ⟨_, rfl, ?_⟩))
              go_ret
              exact ⟨by first | rfl | (simp [errW_none, errW_some] <;> rfl) | (simp [*, errW_none, errW_some] <;> rfl), by repeat (first | (with_reducible first | exact HB.out | apply below_alloc | apply pw_below_drewN | apply below_drew1) | exact HB.out)⟩
            · replace c18 := Bool.eq_false_iff.mpr c18
              subst c18
              have H1 : (if t954 = 0 then (gradineref12_Div.j2 kj15 a0 a1 (!(t956 == t957)) true) else (gradineref12_Div.j2 kj15 a0 a1 (!(t956 == t957)) (t955 == 3))) = some r := by rw [if_neg (show ¬ (false = true) by decide)] at H; exact H
              clear H
              have H := H1
              clear H1
              have HC20 := Aside0.mk H
              clear H
              go_upto_region 7 with (fail)
              go_cut [60] (fun v60 wc => ∃ (kq : Nat) (x60_19 : Bool), v60 = .bool x60_19 ∧ Aside0 (gradineref12_Div.j2 kq a0 a1 (!(t956 == t957)) x60_19 = some r) ∧ Aside0 (kq ≤ kj15) ∧ Aside0 (Below w.heap.size w wc))
              case first =>
                have H := HC20.out
                clear HC20
                by_cases c21 : t954 = 0
                · rw [if_pos c21] at H
                  have c21b0 : (t954 == 0) = true := beq_iff_eq.mpr c21
                  have c21b1 : (t954 != 0) = false := bne_eq_false_iff_eq.mpr c21
                  clear c21
                  (first | rw [c21b0] | (simp only [i64_w, i32_w]; rw [c21b0]) | rw [c21b1] | skip)
                  have H' := Aside0.mk H
                  clear H
                  go_wp2
                  go_meet
                  case rel => exact ⟨_, (true), (by first | rfl | (simp; done) | (simp [*]; done)), H', ⟨by have := HJ6.out; have := HJ15.out; first | omega | exact Nat.le_refl _⟩, ⟨by repeat (first | (with_reducible first | exact HB.out | apply below_alloc | apply pw_below_drewN | apply below_drew1) | exact HB.out)⟩⟩
                · rw [if_neg c21] at H
                  have c21b0 : (t954 == 0) = false := beq_eq_false_iff_ne.mpr c21
                  have c21b1 : (t954 != 0) = true := bne_iff_ne.mpr c21
                  (first | rw [c21b0] | (simp only [i64_w, i32_w]; rw [c21b0]) | rw [c21b1] | skip)
                  have H' := Aside0.mk H
                  clear H
                  go_wp2
                  go_meet
                  case rel => exact ⟨_, ((t955 == 3)), (by first | rfl | (simp; done) | (simp [*]; done)), H', ⟨by have := HJ6.out; have := HJ15.out; first | omega | exact Nat.le_refl _⟩, ⟨by repeat (first | (with_reducible first | exact HB.out | apply below_alloc | apply pw_below_drewN | apply below_drew1) | exact HB.out)⟩⟩
              case rest =>
                clear HC20
                try clear c1
                try clear c2
                try clear p2
                try clear c3
                try clear c4
                try clear c6
                try clear c8
                try clear c8b0
                try clear c8b1
                try clear c9
                try clear c9b0
                try clear c9b1
                try clear c10
                try clear c10b0
                try clear c10b1
                try clear c11
                try clear c11b0
                try clear c11b1
                try clear c12
                try clear c12b0
                try clear c12b1
                try clear c13
                try clear c13b0
                try clear c13b1
                try clear c14
                try clear c17
                try clear c17b0
                try clear c17b1
                try clear c18
                try clear c21
                try clear c21b0
                try clear c21b1
                try clear p2
                obtain ⟨kq, x60_19, rfl, HA, HJ19, HB⟩ := hcut
                cases kq with
                | zero => exact absurd HA.out (by simp [gradineref12_Div.j2])
                | succ kj19 =>
                  have H := HA.out
                  clear HA
                  simp only [gradineref12_Div.j2] at H
                  by_cases c22 : x60_19 = true
                  · subst c22
                    have H1 : ((gradineref09_Signed.f (!(t956 == t957)) 0).bind fun t960 => (some t960)) = some r := by rw [if_pos rfl] at H; exact H
                    clear H
                    have H := H1
                    clear H1
                    replace H := Option.bind_eq_some_iff.mp H
                    obtain ⟨t960, A230, H⟩ := H
                    replace H : (some t960) = some r := H
                    have A23 := Aside0.mk A230
                    clear A230
                    obtain rfl := Option.some.inj H
                    go_wp2_with (first | ((with_reducible refine gate_callee (f := 91) rfl ?_); refine goesL_ (some 62) rfl rfl Try.func91 (by kernel_rfl) rfl #[.bool (!(t956 == t957)), .int .u64 0] rfl (by (try simp only [List.map_toArray, List.map_cons, List.map_nil]); first | done | rfl | (simp only [List.length_drop, List.length_take]; rfl) | (simp only [*]; done)) ?_; (with_reducible refine (gradineref09_Signed.calls (!(t956 == t957)) 0 t960 _ A23.out).mono ?_); rintro e w' ⟨rfl, ⟨nd, rfl⟩⟩; refine ⟨_, rfl, ?_⟩))
                    go_ret
                    exact ⟨by first | rfl | (simp [errW_none, errW_some] <;> rfl) | (simp [*, errW_none, errW_some] <;> rfl), by repeat (first | (with_reducible first | exact HB.out | apply below_alloc | apply pw_below_drewN | apply below_drew1) | exact HB.out)⟩
                  · replace c22 := Bool.eq_false_iff.mpr c22
                    subst c22
                    have H1 : ((gradineref09_Parts.f a0).bind fun bt961 => ((gradineref09_Parts.f a1).bind fun bt963 => (gradineref12_Div.l0 kj19 (!(t956 == t957)) bt961.1 bt961.2 bt963.1 bt963.2))) = some r := by rw [if_neg (show ¬ (false = true) by decide)] at H; exact H
                    clear H
                    have H := H1
                    clear H1
                    replace H := Option.bind_eq_some_iff.mp H
                    obtain ⟨⟨t961, t962⟩, A240, H⟩ := H
                    replace H : ((gradineref09_Parts.f a1).bind fun bt963 => (gradineref12_Div.l0 kj19 (!(t956 == t957)) t961 t962 bt963.1 bt963.2)) = some r := H
                    have A24 := Aside0.mk A240
                    clear A240
                    replace H := Option.bind_eq_some_iff.mp H
                    obtain ⟨⟨t963, t964⟩, A250, H⟩ := H
                    replace H : (gradineref12_Div.l0 kj19 (!(t956 == t957)) t961 t962 t963 t964) = some r := H
                    have A25 := Aside0.mk A250
                    clear A250
                    have H' := Aside0.mk H
                    clear H
                    go_wp2_with (first | ((with_reducible refine gate_callee (f := 42) rfl ?_); refine goesL_ (some 65) rfl rfl Try.func42 (by kernel_rfl) rfl #[.int .u64 a0] rfl (by (try simp only [List.map_toArray, List.map_cons, List.map_nil]); first | done | rfl | (simp only [List.length_drop, List.length_take]; rfl) | (simp only [*]; done)) ?_; (with_reducible refine (gradineref09_Parts.calls a0 t961 t962 _ A24.out).mono ?_); rintro e w' ⟨rfl, ⟨nd, rfl⟩⟩; refine ⟨_, rfl, ?_⟩) | ((with_reducible refine gate_callee (f := 42) rfl ?_); refine goesL_ (some 70) rfl rfl Try.func42 (by kernel_rfl) rfl #[.int .u64 a1] rfl (by (try simp only [List.map_toArray, List.map_cons, List.map_nil]); first | done | rfl | (simp only [List.length_drop, List.length_take]; rfl) | (simp only [*]; done)) ?_; (with_reducible refine (gradineref09_Parts.calls a1 t963 t964 _ A25.out).mono ?_); rintro e w' ⟨rfl, ⟨nd, rfl⟩⟩; refine ⟨_, rfl, ?_⟩))
                    go_loopg [8, 9] kj19 (fun kq v8 v9 w' => ∃ (x8_4 : Int) (x9_4 : Int), v8 = .int .u64 x8_4 ∧ v9 = .int .i64 x9_4 ∧ Aside0 (gradineref12_Div.l0 kq (!(t956 == t957)) x8_4 x9_4 t963 t964 = some r) ∧ Aside0 (kq ≤ kj19) ∧ Aside0 (Below w.heap.size w w'))
                    case atStart => exact ⟨(t961), (t962), (by first | rfl | (simp; done) | (simp [*]; done)), (by first | rfl | (simp; done) | (simp [*]; done)), H', ⟨Nat.le_refl _⟩, ⟨by repeat (first | (with_reducible first | exact HB.out | apply below_alloc | apply pw_below_drewN | apply below_drew1) | exact HB.out)⟩⟩
                    case round =>
                      clear H'
                      try clear c1
                      try clear c2
                      try clear p2
                      try clear c3
                      try clear c4
                      try clear c6
                      try clear c8
                      try clear c8b0
                      try clear c8b1
                      try clear c9
                      try clear c9b0
                      try clear c9b1
                      try clear c10
                      try clear c10b0
                      try clear c10b1
                      try clear c11
                      try clear c11b0
                      try clear c11b1
                      try clear c12
                      try clear c12b0
                      try clear c12b1
                      try clear c13
                      try clear c13b0
                      try clear c13b1
                      try clear c14
                      try clear c17
                      try clear c17b0
                      try clear c17b1
                      try clear c18
                      try clear c21
                      try clear c21b0
                      try clear c21b1
                      try clear c22
                      try clear p2
                      obtain ⟨x8_4, x9_4, rfl, rfl, HA, HK4, HB⟩ := hrel
                      cases gk with
                      | zero => exact absurd HA.out (by simp [gradineref12_Div.l0])
                      | succ k4 =>
                        have H := HA.out
                        clear HA
                        simp only [gradineref12_Div.l0] at H
                        by_cases c26 : x8_4 < 4503599627370496
                        · rw [if_pos c26] at H
                          have c26b0 : decide (x8_4 < 4503599627370496) = true := decide_eq_true c26
                          clear c26
                          have H' := Aside0.mk H
                          clear H
                          go_wp2
                          go_roundg k4
                          case measure => have := HJ6.out; have := HJ15.out; have := HJ19.out; have := HK4.out; omega
                          case rel => exact ⟨(IntKind.u64.wrap (x8_4 * 2)), (wrap64 (x9_4 - 1)), (by first | rfl | (simp; done) | (simp [*]; done)), (by first | rfl | (simp; done) | (simp [*]; done)), H', ⟨by have := HJ6.out; have := HJ15.out; have := HJ19.out; have := HK4.out; omega⟩, ⟨by repeat (first | (with_reducible first | exact HB.out | apply below_alloc | apply pw_below_drewN | apply below_drew1) | exact HB.out)⟩⟩
                        · rw [if_neg c26] at H
                          have c26b0 : decide (x8_4 < 4503599627370496) = false := decide_eq_false c26
                          clear c26
                          have H' := Aside0.mk H
                          clear H
                          go_wp2
                          go_loopg [10, 11] k4 (fun kq v10 v11 w' => ∃ (x10_5 : Int) (x11_5 : Int), v10 = .int .u64 x10_5 ∧ v11 = .int .i64 x11_5 ∧ Aside0 (gradineref12_Div.l1 kq (!(t956 == t957)) x8_4 x9_4 x10_5 x11_5 = some r) ∧ Aside0 (kq ≤ k4) ∧ Aside0 (Below w.heap.size w w'))
                          case atStart => exact ⟨(t963), (t964), (by first | rfl | (simp; done) | (simp [*]; done)), (by first | rfl | (simp; done) | (simp [*]; done)), H', ⟨Nat.le_refl _⟩, ⟨by repeat (first | (with_reducible first | exact HB.out | apply below_alloc | apply pw_below_drewN | apply below_drew1) | exact HB.out)⟩⟩
                          case round =>
                            clear H'
                            try clear c1
                            try clear c2
                            try clear p2
                            try clear c3
                            try clear c4
                            try clear c6
                            try clear p6
                            try clear c8
                            try clear c8b0
                            try clear c8b1
                            try clear c9
                            try clear c9b0
                            try clear c9b1
                            try clear c10
                            try clear c10b0
                            try clear c10b1
                            try clear c11
                            try clear c11b0
                            try clear c11b1
                            try clear c12
                            try clear c12b0
                            try clear c12b1
                            try clear c13
                            try clear c13b0
                            try clear c13b1
                            try clear c14
                            try clear c17
                            try clear c17b0
                            try clear c17b1
                            try clear c18
                            try clear c21
                            try clear c21b0
                            try clear c21b1
                            try clear c22
                            try clear c26
                            try clear c26b0
                            try clear p2
                            obtain ⟨x10_5, x11_5, rfl, rfl, HA, HK5, HB⟩ := hrel
                            cases gk with
                            | zero => exact absurd HA.out (by simp [gradineref12_Div.l1])
                            | succ k5 =>
                              have H := HA.out
                              clear HA
                              simp only [gradineref12_Div.l1] at H
                              by_cases c27 : x10_5 < 4503599627370496
                              · rw [if_pos c27] at H
                                have c27b0 : decide (x10_5 < 4503599627370496) = true := decide_eq_true c27
                                clear c27
                                have H' := Aside0.mk H
                                clear H
                                go_wp2
                                go_roundg k5
                                case measure => have := HJ6.out; have := HJ15.out; have := HJ19.out; have := HK4.out; have := HK5.out; omega
                                case rel => exact ⟨(IntKind.u64.wrap (x10_5 * 2)), (wrap64 (x11_5 - 1)), (by first | rfl | (simp; done) | (simp [*]; done)), (by first | rfl | (simp; done) | (simp [*]; done)), H', ⟨by have := HJ6.out; have := HJ15.out; have := HJ19.out; have := HK4.out; have := HK5.out; omega⟩, ⟨by repeat (first | (with_reducible first | exact HB.out | apply below_alloc | apply pw_below_drewN | apply below_drew1) | exact HB.out)⟩⟩
                              · rw [if_neg c27] at H
                                have c27b0 : decide (x10_5 < 4503599627370496) = false := decide_eq_false c27
                                clear c27
                                replace H := Option.bind_eq_some_iff.mp H
                                obtain ⟨⟨t965, t966, t967⟩, A280, H⟩ := H
                                replace H : ((gradineref10_More.f k5 (!(t956 == t957)) (([t965] : List Int)) (wrap64 ((wrap64 (x9_4 - x11_5)) - 63)) (decide (t966 > 0))).bind fun t971 => (some t971)) = some r := H
                                have A28 := Aside0.mk A280
                                clear A280
                                obtain ⟨y968, hy968⟩ : ∃ y_ : List Int, y_ = (([t965] : List Int)) := ⟨_, rfl⟩
                                replace H : ((gradineref10_More.f k5 (!(t956 == t957)) y968 (wrap64 ((wrap64 (x9_4 - x11_5)) - 63)) (decide (t966 > 0))).bind fun t971 => (some t971)) = some r := by first | (rw [hy968]; with_reducible exact H) | (have H2_ := (Option.bind_some _ _).symm.trans H; rw [hy968]; with_reducible exact H2_) | (have H2_ := (Option.bind_some _ _).symm.trans H; with_reducible exact H2_) | with_reducible exact H | (rw [hy968]; exact H) | exact H
                                have Ny968 := Aside0.mk hy968
                                clear hy968
                                replace H := Option.bind_eq_some_iff.mp H
                                obtain ⟨t971, A290, H⟩ := H
                                replace H : (some t971) = some r := H
                                have A29 := Aside0.mk A290
                                clear A290
                                obtain rfl := Option.some.inj H
                                go_wp2_with (first | ((with_reducible refine gate_callee (f := 123) rfl ?_); refine goesL_ (some 90) rfl rfl Try.func123 (by kernel_rfl) rfl #[.int .u64 (IntKind.u64.wrap (x8_4 * 1024)), .int .u64 0, .int .u64 (IntKind.u64.wrap (x10_5 * 2048))] rfl (by (try simp only [List.map_toArray, List.map_cons, List.map_nil]); first | done | rfl | (simp only [List.length_drop, List.length_take]; rfl) | (simp only [*]; done)) ?_; (with_reducible refine (gradineref01_Div.calls k5 (IntKind.u64.wrap (x8_4 * 1024)) 0 (IntKind.u64.wrap (x10_5 * 2048)) t965 t966 t967 _ A28.out).mono ?_); rintro e w' ⟨rfl, ⟨nd, rfl⟩⟩; refine ⟨_, rfl, ?_⟩) | ((with_reducible refine gate_dst (N := 96) rfl ?_); refine Kd.R_lit (Kd.int .u64) _ 22 ?hg (N := 96) ?hd (xs := ([t965] : List Int)) (inner := [.int .u64 t965]) (ok := fun _ => True) (okp := fun _ => True) ?hr ?hp (fun _ hk => hk) trivial (Below.refl _ _) (Nat.le_refl _) (by simp) ?_; (case hd => rfl); (case hg => rfl); (case hr => first | (go_simp; done) | (go_simp; rfl)); (case hp => exact (Reps.one (show Kd.M (Kd.int .u64) _ _ _ t965 [.int .u64 t965] from rfl) (Reps.none _ _))); intro v969 w30 ho31 hb hg_ hnew_; clear hg_ hnew_; (first | rw [← Ny968.out] at ho31 | (simp only [Int.reduceToNat] at ho31; rw [← Ny968.out] at ho31)); have n0_ := Aside0.mk (Kd.R_lower ho31 (below_size (by repeat (first | (with_reducible first | exact HB.out | apply below_alloc | apply pw_below_drewN | apply below_drew1) | exact HB.out)))); have n1_ := Aside0.mk (below_step (by repeat (first | (with_reducible first | exact HB.out | apply below_alloc | apply pw_below_drewN | apply below_drew1) | exact HB.out)) hb); clear HB; have HO970 := n0_; have HB := n1_; clear n0_ n1_; clear hb ho31; obtain ⟨Ao32, co32, eo32⟩ := Kd.R_slice HO970.out; subst eo32) | ((with_reducible refine gate_callee (f := 37) rfl ?_); refine goesL_ (some 103) rfl rfl Try.func37 (by kernel_rfl) rfl #[.bool (!(t956 == t957)), .slice Ao32 y968.length co32, .int .i64 (wrap64 ((wrap64 (x9_4 - x11_5)) - 63)), .bool (decide (t966 > 0))] rfl (by (try simp only [List.map_toArray, List.map_cons, List.map_nil]); first | done | rfl | (simp only [List.length_drop, List.length_take]; rfl) | (simp only [*]; done)) ?_; (with_reducible refine (gradineref10_More.calls k5 (!(t956 == t957)) _ _ y968 (wrap64 ((wrap64 (x9_4 - x11_5)) - 63)) (decide (t966 > 0)) t971 _ ?side1 ?side2 A29.out).mono ?_); (case side1 => repeat (first | exact (Kd.R_reads' HO970.out).2.2 | (with_reducible refine Kd.C_alloc ?_ _) | (with_reducible refine Kd.C_drewN ?_ _) | (with_reducible refine Kd.C_drew ?_))); (case side2 => exact (Kd.R_reads' HO970.out).2.1); rintro e w33 ⟨rfl, hb⟩; refine ⟨_, rfl, ?_⟩; have n0_ := Aside0.mk (Kd.R_below (by (with_reducible repeat (first | apply Kd.R_alloc | apply Kd.R_drewN | apply Kd.R_drew)); exact HO970.out) hb); have n1_ := Aside0.mk (below_step (by repeat (first | (with_reducible first | exact HB.out | apply below_alloc | apply pw_below_drewN | apply below_drew1) | exact HB.out)) hb); clear HO970; clear HB; have HO970 := n0_; have HB := n1_; clear n0_ n1_; (try clear hb); (try clear hb2); (try clear hk); (try clear hi)))
                                go_ret
                                exact ⟨by first | rfl | (simp [errW_none, errW_some] <;> rfl) | (simp [*, errW_none, errW_some] <;> rfl), by repeat (first | (with_reducible first | exact HB.out | apply below_alloc | apply pw_below_drewN | apply below_drew1) | exact HB.out)⟩

end Go.Proofs.Ytbpggonjcnakgaa.P
