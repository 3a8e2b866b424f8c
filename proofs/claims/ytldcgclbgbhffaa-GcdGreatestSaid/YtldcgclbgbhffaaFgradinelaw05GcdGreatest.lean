/- Functions of the seat as Lean functions, and walks: written by a program for this claim. -/
import Derived.Test.YtldcgclbgbhffaaFbase
import Derived.Test.YtldcgclbgbhffaaBgradineplain
import Derived.Test.YtldcgclbgbhffaaBgradineref03
import Derived.Test.YtldcgclbgbhffaaBgcd
import Derived.Test.YtldcgclbgbhffaaFgradinelaw05same
import Derived.Test.YtldcgclbgbhffaaFgradinelaw05divides
namespace Go.Proofs.Ytldcgclbgbhffaa.P
open Go.RowKit Go.Proofs.YtldcgclbgbhffaaW.PrintWords Go.Proofs.YtldcgclbgbhffaaW.PrintLast Go.Proofs.YtldcgclbgbhffaaW.PrintMore
attribute [local go_sem] max2_int min2_int max_two min_two max_three min_three max_four min_four   -- for this text's walks alone
set_option linter.unusedVariables false
set_option linter.unusedSimpArgs false

/-! ### gradinelaw05_GcdGreatest: function 19 -/
mutual
def gradinelaw05_GcdGreatest.j0 : Nat → List Int → List Int → List Int → Bool → Option (Bool)
  | 0, _, _, _, _ => none
  | k + 1, x0, x1, x2, x20 => if x20 = true then ((gradinelaw05_same.f k).bind fun t1148 => (some t1148)) else ((gcd_Gcd.f k x0 x1).bind fun t1149 => ((gradinelaw05_divides.f k t1149 x0).bind fun t1152 => (if t1152 = true then ((gradinelaw05_divides.f k t1149 x1).bind fun t1153 => (if t1153 = true then ((gradinelaw05_divides.f k x2 x0).bind fun t1154 => (if t1154 = true then ((gradinelaw05_divides.f k x2 x1).bind fun t1155 => (if t1155 = true then ((gradinelaw05_divides.f k x2 t1149).bind fun t1156 => (gradinelaw05_GcdGreatest.j1 k x0 x1 x2 t1149 (!t1156))) else (gradinelaw05_GcdGreatest.j1 k x0 x1 x2 t1149 false))) else (gradinelaw05_GcdGreatest.j1 k x0 x1 x2 t1149 false))) else (gradinelaw05_GcdGreatest.j1 k x0 x1 x2 t1149 true))) else (gradinelaw05_GcdGreatest.j1 k x0 x1 x2 t1149 true))))
def gradinelaw05_GcdGreatest.j1 : Nat → List Int → List Int → List Int → List Int → Bool → Option (Bool)
  | 0, _, _, _, _, _ => none
  | k + 1, x0, x1, x2, x7, x50 => if x50 = true then (some false) else ((gradineref03_Mul.f k x0 x2).bind fun t1157 => ((gradineref03_Mul.f k x1 x2).bind fun t1160 => ((gcd_Gcd.f k t1157 t1160).bind fun t1163 => ((gradineref03_Mul.f k x7 x2).bind fun t1166 => ((gradineplain_Words.f k t1163 t1166).bind fun t1169 => (if t1169 = true then ((gradinelaw05_same.f k).bind fun t1170 => (some t1170)) else (some false)))))))
end
def gradinelaw05_GcdGreatest.f (k : Nat) (l0 : List Int) (l1 : List Int) (l2 : List Int) : Option (Bool) := if (l0.length : Int) > 5 then (gradinelaw05_GcdGreatest.j0 k l0 l1 l2 true) else (if (l1.length : Int) > 5 then (gradinelaw05_GcdGreatest.j0 k l0 l1 l2 true) else (gradinelaw05_GcdGreatest.j0 k l0 l1 l2 (decide ((l2.length : Int) > 3))))
set_option maxHeartbeats 8000000 in
set_option maxRecDepth 100000 in
theorem gradinelaw05_GcdGreatest.calls (k : Nat) (A0 : Option Addr) (c0 : Nat) (l0 : List Int) (A1 : Option Addr) (c1 : Nat) (l1 : List Int) (A2 : Option Addr) (c2 : Nat) (l2 : List Int) (r : Bool) (w : World) (hr0 : Kd.C (Kd.int .u64) w A0 l0.length l0) (hc0 : l0.length ≤ c0) (hr1 : Kd.C (Kd.int .u64) w A1 l1.length l1) (hc1 : l1.length ≤ c1) (hr2 : Kd.C (Kd.int .u64) w A2 l2.length l2) (hc2 : l2.length ≤ c2) (h : gradinelaw05_GcdGreatest.f k l0 l1 l2 = some r) :
    Calls Try.prog 19 #[.slice A0 l0.length c0, .slice A1 l1.length c1, .slice A2 l2.length c2] w fun e w' => e = .returned (.bool r) ∧ Below w.heap.size w w' := by
  have HR0 := Aside0.mk hr0
  have HC0 := Aside0.mk hc0
  clear hr0 hc0
  have HR1 := Aside0.mk hr1
  have HC1 := Aside0.mk hc1
  clear hr1 hc1
  have HR2 := Aside0.mk hr2
  have HC2 := Aside0.mk hc2
  clear hr2 hc2
  have HB := Aside0.mk (Below.refl w.heap.size w)
  have H : (if (l0.length : Int) > 5 then (gradinelaw05_GcdGreatest.j0 k l0 l1 l2 true) else (if (l1.length : Int) > 5 then (gradinelaw05_GcdGreatest.j0 k l0 l1 l2 true) else (gradinelaw05_GcdGreatest.j0 k l0 l1 l2 (decide ((l2.length : Int) > 3))))) = some r := h
  clear h
  have HC4 := Aside0.mk H
  clear H
  go_enter Try.func19, Try.ntmps19
  go_upto_region 1 with (fail)
  go_cut [20] (fun v20 wc => ∃ (kq : Nat) (x20_3 : Bool), v20 = .bool x20_3 ∧ Aside0 (gradinelaw05_GcdGreatest.j0 kq l0 l1 l2 x20_3 = some r) ∧ Aside0 (kq ≤ k) ∧ Aside0 (Below w.heap.size w wc))
  case first =>
    have H := HC4.out
    clear HC4
    by_cases c5 : (l0.length : Int) > 5
    · rw [if_pos c5] at H
      have c5b0 : decide (5 < (l0.length : Int)) = true := decide_eq_true c5
      have c5b1 : decide (5 < l0.length) = true := decide_eq_true (by omega)
      clear c5
      (first | rw [c5b0] | (simp only [i64_w, i32_w]; rw [c5b0]) | rw [c5b1] | skip)
      have H' := Aside0.mk H
      clear H
      go_wp2
      go_meet
      case rel => exact ⟨_, (true), (by first | rfl | (simp; done) | (simp [*]; done)), H', ⟨by first | omega | exact Nat.le_refl _⟩, ⟨bb HB.out⟩⟩
    · rw [if_neg c5] at H
      have c5b0 : decide (5 < (l0.length : Int)) = false := decide_eq_false c5
      have c5b1 : decide (5 < l0.length) = false := decide_eq_false (by omega)
      clear c5
      (first | rw [c5b0] | (simp only [i64_w, i32_w]; rw [c5b0]) | rw [c5b1] | skip)
      by_cases c6 : (l1.length : Int) > 5
      · rw [if_pos c6] at H
        have c6b0 : decide (5 < (l1.length : Int)) = true := decide_eq_true c6
        have c6b1 : decide (5 < l1.length) = true := decide_eq_true (by omega)
        clear c6
        have H' := Aside0.mk H
        clear H
        go_wp2
        go_meet
        case rel => exact ⟨_, (true), (by first | rfl | (simp; done) | (simp [*]; done)), H', ⟨by first | omega | exact Nat.le_refl _⟩, ⟨bb HB.out⟩⟩
      · rw [if_neg c6] at H
        have c6b0 : decide (5 < (l1.length : Int)) = false := decide_eq_false c6
        have c6b1 : decide (5 < l1.length) = false := decide_eq_false (by omega)
        clear c6
        have H' := Aside0.mk H
        clear H
        go_wp2
        go_meet
        case rel => exact ⟨_, (decide ((l2.length : Int) > 3)), (by first | rfl | (simp; done) | (simp [*]; done)), H', ⟨by first | omega | exact Nat.le_refl _⟩, ⟨bb HB.out⟩⟩
  case rest =>
    clear HC4
    try clear c1
    try clear c2
    try clear p2
    try clear c5
    try clear c5b0
    try clear c5b1
    try clear c6
    try clear c6b0
    try clear c6b1
    obtain ⟨kq, x20_3, rfl, HA, HJ3, HB⟩ := hcut
    cases kq with
    | zero => exact absurd HA.out (by simp [gradinelaw05_GcdGreatest.j0])
    | succ kj3 =>
      have H := HA.out
      clear HA
      simp only [gradinelaw05_GcdGreatest.j0] at H
      by_cases c7 : x20_3 = true
      · subst c7
        have H1 : ((gradinelaw05_same.f kj3).bind fun t1148 => (some t1148)) = some r := by rw [if_pos rfl] at H; exact H
        clear H
        have H := H1
        clear H1
        replace H := Option.bind_eq_some_iff.mp H
        obtain ⟨t1148, A80, H⟩ := H
        replace H : (some t1148) = some r := H
        have A8 := Aside0.mk A80
        clear A80
        obtain rfl := Option.some.inj H
        go_wp2_with (first | ((with_reducible refine gate_callee (f := 85) rfl ?_); refine goesL_ (some 21) rfl rfl Try.func85 (by kernel_rfl) rfl #[] rfl (by (try simp only [List.map_toArray, List.map_cons, List.map_nil]); first | done | rfl | (simp only [List.length_drop, List.length_take]; rfl) | (simp only [*]; done)) ?_; (with_reducible refine (gradinelaw05_same.calls kj3  t1148 _ A8.out).mono ?_); rintro e w9 ⟨rfl, hb⟩; refine ⟨_, rfl, ?_⟩; have n0_ := Aside0.mk (below_step (bb HB.out) hb); clear HB; have HB := n0_; clear n0_; (try clear hb); (try clear hb2); (try clear hk); (try clear hi)))
        go_ret
        exact ⟨by first | rfl | (simp [errW_none, errW_some] <;> rfl) | (simp [*, errW_none, errW_some] <;> rfl), by repeat (first | (with_reducible first | exact HB.out | apply below_alloc | apply pw_below_drewN | apply below_drew1) | exact HB.out)⟩
      · replace c7 := Bool.eq_false_iff.mpr c7
        subst c7
        have H1 : ((gcd_Gcd.f kj3 l0 l1).bind fun t1149 => ((gradinelaw05_divides.f kj3 t1149 l0).bind fun t1152 => (if t1152 = true then ((gradinelaw05_divides.f kj3 t1149 l1).bind fun t1153 => (if t1153 = true then ((gradinelaw05_divides.f kj3 l2 l0).bind fun t1154 => (if t1154 = true then ((gradinelaw05_divides.f kj3 l2 l1).bind fun t1155 => (if t1155 = true then ((gradinelaw05_divides.f kj3 l2 t1149).bind fun t1156 => (gradinelaw05_GcdGreatest.j1 kj3 l0 l1 l2 t1149 (!t1156))) else (gradinelaw05_GcdGreatest.j1 kj3 l0 l1 l2 t1149 false))) else (gradinelaw05_GcdGreatest.j1 kj3 l0 l1 l2 t1149 false))) else (gradinelaw05_GcdGreatest.j1 kj3 l0 l1 l2 t1149 true))) else (gradinelaw05_GcdGreatest.j1 kj3 l0 l1 l2 t1149 true)))) = some r := by rw [if_neg (show ¬ (false = true) by decide)] at H; exact H
        clear H
        have H := H1
        clear H1
        replace H := Option.bind_eq_some_iff.mp H
        obtain ⟨t1149, A100, H⟩ := H
        replace H : ((gradinelaw05_divides.f kj3 t1149 l0).bind fun t1152 => (if t1152 = true then ((gradinelaw05_divides.f kj3 t1149 l1).bind fun t1153 => (if t1153 = true then ((gradinelaw05_divides.f kj3 l2 l0).bind fun t1154 => (if t1154 = true then ((gradinelaw05_divides.f kj3 l2 l1).bind fun t1155 => (if t1155 = true then ((gradinelaw05_divides.f kj3 l2 t1149).bind fun t1156 => (gradinelaw05_GcdGreatest.j1 kj3 l0 l1 l2 t1149 (!t1156))) else (gradinelaw05_GcdGreatest.j1 kj3 l0 l1 l2 t1149 false))) else (gradinelaw05_GcdGreatest.j1 kj3 l0 l1 l2 t1149 false))) else (gradinelaw05_GcdGreatest.j1 kj3 l0 l1 l2 t1149 true))) else (gradinelaw05_GcdGreatest.j1 kj3 l0 l1 l2 t1149 true))) = some r := H
        have A10 := Aside0.mk A100
        clear A100
        have HC11 := Aside0.mk H
        clear H
        go_upto_region 4 with (first | ((with_reducible refine gate_callee (f := 86) rfl ?_); refine goesL_ (some 24) rfl rfl Try.func86 (by kernel_rfl) rfl #[.slice A0 l0.length c0, .slice A1 l1.length c1] rfl (by (try simp only [List.map_toArray, List.map_cons, List.map_nil]); first | done | rfl | (simp only [List.length_drop, List.length_take]; rfl) | (simp only [*]; done)) ?_; (with_reducible refine (gcd_Gcd.calls kj3 _ _ l0 _ _ l1 t1149 _ ?side1 ?side2 ?side3 ?side4 A10.out).mono ?_); (case side1 => exact cs (Kd.C_below HR0.out HB.out)); (case side2 => exact HC0.out); (case side3 => exact cs (Kd.C_below HR1.out HB.out)); (case side4 => exact HC1.out); rintro e w12 ⟨v1150, rfl, ho0, hb⟩; refine ⟨_, rfl, ?_⟩; have n0_ := Aside0.mk (Kd.R_lower ho0 (below_size (bb HB.out))); have n1_ := Aside0.mk (below_step (bb HB.out) hb); clear HB; have HO1151 := n0_; have HB := n1_; clear n0_ n1_; (try clear hb); (try clear hb2); (try clear hk); (try clear hi); (try clear ho0)))
        (try simp only [Act.put, List.setIfInBounds_toArray, List.set_cons_zero, List.set_cons_succ])
        go_cut [50] (fun v50 wc => ∃ (kq : Nat) (x50_10 : Bool), v50 = .bool x50_10 ∧ Aside0 (gradinelaw05_GcdGreatest.j1 kq l0 l1 l2 t1149 x50_10 = some r) ∧ Aside0 (kq ≤ kj3) ∧ Aside0 (Kd.R (Kd.int .u64) 22 wc w.heap.size (fun _ => True) v1150 t1149) ∧ Aside0 (Below w.heap.size w wc))
        case first =>
          have H := HC11.out
          clear HC11
          replace H := Option.bind_eq_some_iff.mp H
          obtain ⟨t1152, A130, H⟩ := H
          replace H : (if t1152 = true then ((gradinelaw05_divides.f kj3 t1149 l1).bind fun t1153 => (if t1153 = true then ((gradinelaw05_divides.f kj3 l2 l0).bind fun t1154 => (if t1154 = true then ((gradinelaw05_divides.f kj3 l2 l1).bind fun t1155 => (if t1155 = true then ((gradinelaw05_divides.f kj3 l2 t1149).bind fun t1156 => (gradinelaw05_GcdGreatest.j1 kj3 l0 l1 l2 t1149 (!t1156))) else (gradinelaw05_GcdGreatest.j1 kj3 l0 l1 l2 t1149 false))) else (gradinelaw05_GcdGreatest.j1 kj3 l0 l1 l2 t1149 false))) else (gradinelaw05_GcdGreatest.j1 kj3 l0 l1 l2 t1149 true))) else (gradinelaw05_GcdGreatest.j1 kj3 l0 l1 l2 t1149 true)) = some r := H
          have A13 := Aside0.mk A130
          clear A130
          by_cases c14 : t1152 = true
          · subst c14
            have H1 : ((gradinelaw05_divides.f kj3 t1149 l1).bind fun t1153 => (if t1153 = true then ((gradinelaw05_divides.f kj3 l2 l0).bind fun t1154 => (if t1154 = true then ((gradinelaw05_divides.f kj3 l2 l1).bind fun t1155 => (if t1155 = true then ((gradinelaw05_divides.f kj3 l2 t1149).bind fun t1156 => (gradinelaw05_GcdGreatest.j1 kj3 l0 l1 l2 t1149 (!t1156))) else (gradinelaw05_GcdGreatest.j1 kj3 l0 l1 l2 t1149 false))) else (gradinelaw05_GcdGreatest.j1 kj3 l0 l1 l2 t1149 false))) else (gradinelaw05_GcdGreatest.j1 kj3 l0 l1 l2 t1149 true))) = some r := by rw [if_pos rfl] at H; exact H
            clear H
            have H := H1
            clear H1
            replace H := Option.bind_eq_some_iff.mp H
            obtain ⟨t1153, A150, H⟩ := H
            replace H : (if t1153 = true then ((gradinelaw05_divides.f kj3 l2 l0).bind fun t1154 => (if t1154 = true then ((gradinelaw05_divides.f kj3 l2 l1).bind fun t1155 => (if t1155 = true then ((gradinelaw05_divides.f kj3 l2 t1149).bind fun t1156 => (gradinelaw05_GcdGreatest.j1 kj3 l0 l1 l2 t1149 (!t1156))) else (gradinelaw05_GcdGreatest.j1 kj3 l0 l1 l2 t1149 false))) else (gradinelaw05_GcdGreatest.j1 kj3 l0 l1 l2 t1149 false))) else (gradinelaw05_GcdGreatest.j1 kj3 l0 l1 l2 t1149 true)) = some r := H
            have A15 := Aside0.mk A150
            clear A150
            by_cases c16 : t1153 = true
            · subst c16
              have H1 : ((gradinelaw05_divides.f kj3 l2 l0).bind fun t1154 => (if t1154 = true then ((gradinelaw05_divides.f kj3 l2 l1).bind fun t1155 => (if t1155 = true then ((gradinelaw05_divides.f kj3 l2 t1149).bind fun t1156 => (gradinelaw05_GcdGreatest.j1 kj3 l0 l1 l2 t1149 (!t1156))) else (gradinelaw05_GcdGreatest.j1 kj3 l0 l1 l2 t1149 false))) else (gradinelaw05_GcdGreatest.j1 kj3 l0 l1 l2 t1149 false))) = some r := by rw [if_pos rfl] at H; exact H
              clear H
              have H := H1
              clear H1
              replace H := Option.bind_eq_some_iff.mp H
              obtain ⟨t1154, A170, H⟩ := H
              replace H : (if t1154 = true then ((gradinelaw05_divides.f kj3 l2 l1).bind fun t1155 => (if t1155 = true then ((gradinelaw05_divides.f kj3 l2 t1149).bind fun t1156 => (gradinelaw05_GcdGreatest.j1 kj3 l0 l1 l2 t1149 (!t1156))) else (gradinelaw05_GcdGreatest.j1 kj3 l0 l1 l2 t1149 false))) else (gradinelaw05_GcdGreatest.j1 kj3 l0 l1 l2 t1149 false)) = some r := H
              have A17 := Aside0.mk A170
              clear A170
              by_cases c18 : t1154 = true
              · subst c18
                have H1 : ((gradinelaw05_divides.f kj3 l2 l1).bind fun t1155 => (if t1155 = true then ((gradinelaw05_divides.f kj3 l2 t1149).bind fun t1156 => (gradinelaw05_GcdGreatest.j1 kj3 l0 l1 l2 t1149 (!t1156))) else (gradinelaw05_GcdGreatest.j1 kj3 l0 l1 l2 t1149 false))) = some r := by rw [if_pos rfl] at H; exact H
                clear H
                have H := H1
                clear H1
                replace H := Option.bind_eq_some_iff.mp H
                obtain ⟨t1155, A190, H⟩ := H
                replace H : (if t1155 = true then ((gradinelaw05_divides.f kj3 l2 t1149).bind fun t1156 => (gradinelaw05_GcdGreatest.j1 kj3 l0 l1 l2 t1149 (!t1156))) else (gradinelaw05_GcdGreatest.j1 kj3 l0 l1 l2 t1149 false)) = some r := H
                have A19 := Aside0.mk A190
                clear A190
                by_cases c20 : t1155 = true
                · subst c20
                  have H1 : ((gradinelaw05_divides.f kj3 l2 t1149).bind fun t1156 => (gradinelaw05_GcdGreatest.j1 kj3 l0 l1 l2 t1149 (!t1156))) = some r := by rw [if_pos rfl] at H; exact H
                  clear H
                  have H := H1
                  clear H1
                  replace H := Option.bind_eq_some_iff.mp H
                  obtain ⟨t1156, A210, H⟩ := H
                  replace H : (gradinelaw05_GcdGreatest.j1 kj3 l0 l1 l2 t1149 (!t1156)) = some r := H
                  have A21 := Aside0.mk A210
                  clear A210
                  have H' := Aside0.mk H
                  clear H
                  obtain ⟨Ao22, co22, eo22⟩ := Kd.R_slice HO1151.out
                  subst eo22
                  go_wp2_with (first | ((with_reducible refine gate_callee (f := 87) rfl ?_); refine goesL_ (some 27) rfl rfl Try.func87 (by kernel_rfl) rfl #[.slice Ao22 t1149.length co22, .slice A0 l0.length c0] rfl (by (try simp only [List.map_toArray, List.map_cons, List.map_nil]); first | done | rfl | (simp only [List.length_drop, List.length_take]; rfl) | (simp only [*]; done)) ?_; (with_reducible refine (gradinelaw05_divides.calls kj3 _ _ t1149 _ _ l0 true _ ?side1 ?side2 ?side3 ?side4 A13.out).mono ?_); (case side1 => exact cs (Kd.R_reads' HO1151.out).2.2); (case side2 => exact (Kd.R_reads' HO1151.out).2.1); (case side3 => exact cs (Kd.C_below HR0.out HB.out)); (case side4 => exact HC0.out); rintro e w23 ⟨rfl, hb⟩; refine ⟨_, rfl, ?_⟩; have n0_ := Aside0.mk (Kd.R_below (st HO1151.out) hb); have n1_ := Aside0.mk (below_step (bb HB.out) hb); clear HO1151; clear HB; have HO1151 := n0_; have HB := n1_; clear n0_ n1_; (try clear hb); (try clear hb2); (try clear hk); (try clear hi)) | (go_at_call 87; (with_reducible refine (gradinelaw05_divides.calls kj3 _ _ t1149 _ _ l1 true _ ?side1 ?side2 ?side3 ?side4 A15.out).mono ?_); (case side1 => exact cs (Kd.R_reads' HO1151.out).2.2); (case side2 => exact (Kd.R_reads' HO1151.out).2.1); (case side3 => exact cs (Kd.C_below HR1.out HB.out)); (case side4 => exact HC1.out); rintro e w24 ⟨rfl, hb⟩; have n0_ := Aside0.mk (Kd.R_below (st HO1151.out) hb); have n1_ := Aside0.mk (below_step (bb HB.out) hb); clear HO1151; clear HB; have HO1151 := n0_; have HB := n1_; clear n0_ n1_; (try clear hb); (try clear hb2); (try clear hk); (try clear hi)) | (go_at_call 87; (with_reducible refine (gradinelaw05_divides.calls kj3 _ _ l2 _ _ l0 true _ ?side1 ?side2 ?side3 ?side4 A17.out).mono ?_); (case side1 => exact cs (Kd.C_below HR2.out HB.out)); (case side2 => exact HC2.out); (case side3 => exact cs (Kd.C_below HR0.out HB.out)); (case side4 => exact HC0.out); rintro e w25 ⟨rfl, hb⟩; have n0_ := Aside0.mk (Kd.R_below (st HO1151.out) hb); have n1_ := Aside0.mk (below_step (bb HB.out) hb); clear HO1151; clear HB; have HO1151 := n0_; have HB := n1_; clear n0_ n1_; (try clear hb); (try clear hb2); (try clear hk); (try clear hi)) | (go_at_call 87; (with_reducible refine (gradinelaw05_divides.calls kj3 _ _ l2 _ _ l1 true _ ?side1 ?side2 ?side3 ?side4 A19.out).mono ?_); (case side1 => exact cs (Kd.C_below HR2.out HB.out)); (case side2 => exact HC2.out); (case side3 => exact cs (Kd.C_below HR1.out HB.out)); (case side4 => exact HC1.out); rintro e w26 ⟨rfl, hb⟩; have n0_ := Aside0.mk (Kd.R_below (st HO1151.out) hb); have n1_ := Aside0.mk (below_step (bb HB.out) hb); clear HO1151; clear HB; have HO1151 := n0_; have HB := n1_; clear n0_ n1_; (try clear hb); (try clear hb2); (try clear hk); (try clear hi)) | (go_at_call 87; (with_reducible refine (gradinelaw05_divides.calls kj3 _ _ l2 _ _ t1149 t1156 _ ?side1 ?side2 ?side3 ?side4 A21.out).mono ?_); (case side1 => exact cs (Kd.C_below HR2.out HB.out)); (case side2 => exact HC2.out); (case side3 => exact cs (Kd.R_reads' HO1151.out).2.2); (case side4 => exact (Kd.R_reads' HO1151.out).2.1); rintro e w27 ⟨rfl, hb⟩; have n0_ := Aside0.mk (Kd.R_below (st HO1151.out) hb); have n1_ := Aside0.mk (below_step (bb HB.out) hb); clear HO1151; clear HB; have HO1151 := n0_; have HB := n1_; clear n0_ n1_; (try clear hb); (try clear hb2); (try clear hk); (try clear hi)))
                  go_meet
                  case rel => exact ⟨_, (!t1156), (by first | rfl | (simp; done) | (simp [*]; done)), H', ⟨by have := HJ3.out; first | omega | exact Nat.le_refl _⟩, ⟨by (with_reducible repeat (first | apply Kd.R_alloc | apply Kd.R_drewN | apply Kd.R_drew)); exact HO1151.out⟩, ⟨bb HB.out⟩⟩
                · replace c20 := Bool.eq_false_iff.mpr c20
                  subst c20
                  have H1 : (gradinelaw05_GcdGreatest.j1 kj3 l0 l1 l2 t1149 false) = some r := by rw [if_neg (show ¬ (false = true) by decide)] at H; exact H
                  clear H
                  have H := H1
                  clear H1
                  have H' := Aside0.mk H
                  clear H
                  obtain ⟨Ao28, co28, eo28⟩ := Kd.R_slice HO1151.out
                  subst eo28
                  go_wp2_with (first | ((with_reducible refine gate_callee (f := 87) rfl ?_); refine goesL_ (some 27) rfl rfl Try.func87 (by kernel_rfl) rfl #[.slice Ao28 t1149.length co28, .slice A0 l0.length c0] rfl (by (try simp only [List.map_toArray, List.map_cons, List.map_nil]); first | done | rfl | (simp only [List.length_drop, List.length_take]; rfl) | (simp only [*]; done)) ?_; (with_reducible refine (gradinelaw05_divides.calls kj3 _ _ t1149 _ _ l0 true _ ?side1 ?side2 ?side3 ?side4 A13.out).mono ?_); (case side1 => exact cs (Kd.R_reads' HO1151.out).2.2); (case side2 => exact (Kd.R_reads' HO1151.out).2.1); (case side3 => exact cs (Kd.C_below HR0.out HB.out)); (case side4 => exact HC0.out); rintro e w29 ⟨rfl, hb⟩; refine ⟨_, rfl, ?_⟩; have n0_ := Aside0.mk (Kd.R_below (st HO1151.out) hb); have n1_ := Aside0.mk (below_step (bb HB.out) hb); clear HO1151; clear HB; have HO1151 := n0_; have HB := n1_; clear n0_ n1_; (try clear hb); (try clear hb2); (try clear hk); (try clear hi)) | (go_at_call 87; (with_reducible refine (gradinelaw05_divides.calls kj3 _ _ t1149 _ _ l1 true _ ?side1 ?side2 ?side3 ?side4 A15.out).mono ?_); (case side1 => exact cs (Kd.R_reads' HO1151.out).2.2); (case side2 => exact (Kd.R_reads' HO1151.out).2.1); (case side3 => exact cs (Kd.C_below HR1.out HB.out)); (case side4 => exact HC1.out); rintro e w30 ⟨rfl, hb⟩; have n0_ := Aside0.mk (Kd.R_below (st HO1151.out) hb); have n1_ := Aside0.mk (below_step (bb HB.out) hb); clear HO1151; clear HB; have HO1151 := n0_; have HB := n1_; clear n0_ n1_; (try clear hb); (try clear hb2); (try clear hk); (try clear hi)) | (go_at_call 87; (with_reducible refine (gradinelaw05_divides.calls kj3 _ _ l2 _ _ l0 true _ ?side1 ?side2 ?side3 ?side4 A17.out).mono ?_); (case side1 => exact cs (Kd.C_below HR2.out HB.out)); (case side2 => exact HC2.out); (case side3 => exact cs (Kd.C_below HR0.out HB.out)); (case side4 => exact HC0.out); rintro e w31 ⟨rfl, hb⟩; have n0_ := Aside0.mk (Kd.R_below (st HO1151.out) hb); have n1_ := Aside0.mk (below_step (bb HB.out) hb); clear HO1151; clear HB; have HO1151 := n0_; have HB := n1_; clear n0_ n1_; (try clear hb); (try clear hb2); (try clear hk); (try clear hi)) | (go_at_call 87; (with_reducible refine (gradinelaw05_divides.calls kj3 _ _ l2 _ _ l1 false _ ?side1 ?side2 ?side3 ?side4 A19.out).mono ?_); (case side1 => exact cs (Kd.C_below HR2.out HB.out)); (case side2 => exact HC2.out); (case side3 => exact cs (Kd.C_below HR1.out HB.out)); (case side4 => exact HC1.out); rintro e w32 ⟨rfl, hb⟩; have n0_ := Aside0.mk (Kd.R_below (st HO1151.out) hb); have n1_ := Aside0.mk (below_step (bb HB.out) hb); clear HO1151; clear HB; have HO1151 := n0_; have HB := n1_; clear n0_ n1_; (try clear hb); (try clear hb2); (try clear hk); (try clear hi)))
                  go_meet
                  case rel => exact ⟨_, (false), (by first | rfl | (simp; done) | (simp [*]; done)), H', ⟨by have := HJ3.out; first | omega | exact Nat.le_refl _⟩, ⟨by (with_reducible repeat (first | apply Kd.R_alloc | apply Kd.R_drewN | apply Kd.R_drew)); exact HO1151.out⟩, ⟨bb HB.out⟩⟩
              · replace c18 := Bool.eq_false_iff.mpr c18
                subst c18
                have H1 : (gradinelaw05_GcdGreatest.j1 kj3 l0 l1 l2 t1149 false) = some r := by rw [if_neg (show ¬ (false = true) by decide)] at H; exact H
                clear H
                have H := H1
                clear H1
                have H' := Aside0.mk H
                clear H
                obtain ⟨Ao33, co33, eo33⟩ := Kd.R_slice HO1151.out
                subst eo33
                go_wp2_with (first | ((with_reducible refine gate_callee (f := 87) rfl ?_); refine goesL_ (some 27) rfl rfl Try.func87 (by kernel_rfl) rfl #[.slice Ao33 t1149.length co33, .slice A0 l0.length c0] rfl (by (try simp only [List.map_toArray, List.map_cons, List.map_nil]); first | done | rfl | (simp only [List.length_drop, List.length_take]; rfl) | (simp only [*]; done)) ?_; (with_reducible refine (gradinelaw05_divides.calls kj3 _ _ t1149 _ _ l0 true _ ?side1 ?side2 ?side3 ?side4 A13.out).mono ?_); (case side1 => exact cs (Kd.R_reads' HO1151.out).2.2); (case side2 => exact (Kd.R_reads' HO1151.out).2.1); (case side3 => exact cs (Kd.C_below HR0.out HB.out)); (case side4 => exact HC0.out); rintro e w34 ⟨rfl, hb⟩; refine ⟨_, rfl, ?_⟩; have n0_ := Aside0.mk (Kd.R_below (st HO1151.out) hb); have n1_ := Aside0.mk (below_step (bb HB.out) hb); clear HO1151; clear HB; have HO1151 := n0_; have HB := n1_; clear n0_ n1_; (try clear hb); (try clear hb2); (try clear hk); (try clear hi)) | (go_at_call 87; (with_reducible refine (gradinelaw05_divides.calls kj3 _ _ t1149 _ _ l1 true _ ?side1 ?side2 ?side3 ?side4 A15.out).mono ?_); (case side1 => exact cs (Kd.R_reads' HO1151.out).2.2); (case side2 => exact (Kd.R_reads' HO1151.out).2.1); (case side3 => exact cs (Kd.C_below HR1.out HB.out)); (case side4 => exact HC1.out); rintro e w35 ⟨rfl, hb⟩; have n0_ := Aside0.mk (Kd.R_below (st HO1151.out) hb); have n1_ := Aside0.mk (below_step (bb HB.out) hb); clear HO1151; clear HB; have HO1151 := n0_; have HB := n1_; clear n0_ n1_; (try clear hb); (try clear hb2); (try clear hk); (try clear hi)) | (go_at_call 87; (with_reducible refine (gradinelaw05_divides.calls kj3 _ _ l2 _ _ l0 false _ ?side1 ?side2 ?side3 ?side4 A17.out).mono ?_); (case side1 => exact cs (Kd.C_below HR2.out HB.out)); (case side2 => exact HC2.out); (case side3 => exact cs (Kd.C_below HR0.out HB.out)); (case side4 => exact HC0.out); rintro e w36 ⟨rfl, hb⟩; have n0_ := Aside0.mk (Kd.R_below (st HO1151.out) hb); have n1_ := Aside0.mk (below_step (bb HB.out) hb); clear HO1151; clear HB; have HO1151 := n0_; have HB := n1_; clear n0_ n1_; (try clear hb); (try clear hb2); (try clear hk); (try clear hi)))
                go_meet
                case rel => exact ⟨_, (false), (by first | rfl | (simp; done) | (simp [*]; done)), H', ⟨by have := HJ3.out; first | omega | exact Nat.le_refl _⟩, ⟨by (with_reducible repeat (first | apply Kd.R_alloc | apply Kd.R_drewN | apply Kd.R_drew)); exact HO1151.out⟩, ⟨bb HB.out⟩⟩
            · replace c16 := Bool.eq_false_iff.mpr c16
              subst c16
              have H1 : (gradinelaw05_GcdGreatest.j1 kj3 l0 l1 l2 t1149 true) = some r := by rw [if_neg (show ¬ (false = true) by decide)] at H; exact H
              clear H
              have H := H1
              clear H1
              have H' := Aside0.mk H
              clear H
              obtain ⟨Ao37, co37, eo37⟩ := Kd.R_slice HO1151.out
              subst eo37
              go_wp2_with (first | ((with_reducible refine gate_callee (f := 87) rfl ?_); refine goesL_ (some 27) rfl rfl Try.func87 (by kernel_rfl) rfl #[.slice Ao37 t1149.length co37, .slice A0 l0.length c0] rfl (by (try simp only [List.map_toArray, List.map_cons, List.map_nil]); first | done | rfl | (simp only [List.length_drop, List.length_take]; rfl) | (simp only [*]; done)) ?_; (with_reducible refine (gradinelaw05_divides.calls kj3 _ _ t1149 _ _ l0 true _ ?side1 ?side2 ?side3 ?side4 A13.out).mono ?_); (case side1 => exact cs (Kd.R_reads' HO1151.out).2.2); (case side2 => exact (Kd.R_reads' HO1151.out).2.1); (case side3 => exact cs (Kd.C_below HR0.out HB.out)); (case side4 => exact HC0.out); rintro e w38 ⟨rfl, hb⟩; refine ⟨_, rfl, ?_⟩; have n0_ := Aside0.mk (Kd.R_below (st HO1151.out) hb); have n1_ := Aside0.mk (below_step (bb HB.out) hb); clear HO1151; clear HB; have HO1151 := n0_; have HB := n1_; clear n0_ n1_; (try clear hb); (try clear hb2); (try clear hk); (try clear hi)) | (go_at_call 87; (with_reducible refine (gradinelaw05_divides.calls kj3 _ _ t1149 _ _ l1 false _ ?side1 ?side2 ?side3 ?side4 A15.out).mono ?_); (case side1 => exact cs (Kd.R_reads' HO1151.out).2.2); (case side2 => exact (Kd.R_reads' HO1151.out).2.1); (case side3 => exact cs (Kd.C_below HR1.out HB.out)); (case side4 => exact HC1.out); rintro e w39 ⟨rfl, hb⟩; have n0_ := Aside0.mk (Kd.R_below (st HO1151.out) hb); have n1_ := Aside0.mk (below_step (bb HB.out) hb); clear HO1151; clear HB; have HO1151 := n0_; have HB := n1_; clear n0_ n1_; (try clear hb); (try clear hb2); (try clear hk); (try clear hi)))
              go_meet
              case rel => exact ⟨_, (true), (by first | rfl | (simp; done) | (simp [*]; done)), H', ⟨by have := HJ3.out; first | omega | exact Nat.le_refl _⟩, ⟨by (with_reducible repeat (first | apply Kd.R_alloc | apply Kd.R_drewN | apply Kd.R_drew)); exact HO1151.out⟩, ⟨bb HB.out⟩⟩
          · replace c14 := Bool.eq_false_iff.mpr c14
            subst c14
            have H1 : (gradinelaw05_GcdGreatest.j1 kj3 l0 l1 l2 t1149 true) = some r := by rw [if_neg (show ¬ (false = true) by decide)] at H; exact H
            clear H
            have H := H1
            clear H1
            have H' := Aside0.mk H
            clear H
            obtain ⟨Ao40, co40, eo40⟩ := Kd.R_slice HO1151.out
            subst eo40
            go_wp2_with (first | ((with_reducible refine gate_callee (f := 87) rfl ?_); refine goesL_ (some 27) rfl rfl Try.func87 (by kernel_rfl) rfl #[.slice Ao40 t1149.length co40, .slice A0 l0.length c0] rfl (by (try simp only [List.map_toArray, List.map_cons, List.map_nil]); first | done | rfl | (simp only [List.length_drop, List.length_take]; rfl) | (simp only [*]; done)) ?_; (with_reducible refine (gradinelaw05_divides.calls kj3 _ _ t1149 _ _ l0 false _ ?side1 ?side2 ?side3 ?side4 A13.out).mono ?_); (case side1 => exact cs (Kd.R_reads' HO1151.out).2.2); (case side2 => exact (Kd.R_reads' HO1151.out).2.1); (case side3 => exact cs (Kd.C_below HR0.out HB.out)); (case side4 => exact HC0.out); rintro e w41 ⟨rfl, hb⟩; refine ⟨_, rfl, ?_⟩; have n0_ := Aside0.mk (Kd.R_below (st HO1151.out) hb); have n1_ := Aside0.mk (below_step (bb HB.out) hb); clear HO1151; clear HB; have HO1151 := n0_; have HB := n1_; clear n0_ n1_; (try clear hb); (try clear hb2); (try clear hk); (try clear hi)))
            go_meet
            case rel => exact ⟨_, (true), (by first | rfl | (simp; done) | (simp [*]; done)), H', ⟨by have := HJ3.out; first | omega | exact Nat.le_refl _⟩, ⟨by (with_reducible repeat (first | apply Kd.R_alloc | apply Kd.R_drewN | apply Kd.R_drew)); exact HO1151.out⟩, ⟨bb HB.out⟩⟩
        case rest =>
          clear HC11
          try clear c1
          try clear c2
          try clear p2
          try clear c5
          try clear c5b0
          try clear c5b1
          try clear c6
          try clear c6b0
          try clear c6b1
          try clear c7
          try clear c8
          try clear c14
          try clear c16
          try clear c18
          try clear c19
          try clear c20
          try clear p2
          obtain ⟨kq, x50_10, rfl, HA, HJ10, HO_7, HB⟩ := hcut
          cases kq with
          | zero => exact absurd HA.out (by simp [gradinelaw05_GcdGreatest.j1])
          | succ kj10 =>
            have H := HA.out
            clear HA
            simp only [gradinelaw05_GcdGreatest.j1] at H
            by_cases c42 : x50_10 = true
            · subst c42
              have H1 : (some false) = some r := by rw [if_pos rfl] at H; exact H
              clear H
              have H := H1
              clear H1
              obtain rfl := Option.some.inj H
              go_wp2
              go_ret
              exact ⟨by first | rfl | (simp [errW_none, errW_some] <;> rfl) | (simp [*, errW_none, errW_some] <;> rfl), by repeat (first | (with_reducible first | exact HB.out | apply below_alloc | apply pw_below_drewN | apply below_drew1) | exact HB.out)⟩
            · replace c42 := Bool.eq_false_iff.mpr c42
              subst c42
              have H1 : ((gradineref03_Mul.f kj10 l0 l2).bind fun t1157 => ((gradineref03_Mul.f kj10 l1 l2).bind fun t1160 => ((gcd_Gcd.f kj10 t1157 t1160).bind fun t1163 => ((gradineref03_Mul.f kj10 t1149 l2).bind fun t1166 => ((gradineplain_Words.f kj10 t1163 t1166).bind fun t1169 => (if t1169 = true then ((gradinelaw05_same.f kj10).bind fun t1170 => (some t1170)) else (some false))))))) = some r := by rw [if_neg (show ¬ (false = true) by decide)] at H; exact H
              clear H
              have H := H1
              clear H1
              replace H := Option.bind_eq_some_iff.mp H
              obtain ⟨t1157, A430, H⟩ := H
              replace H : ((gradineref03_Mul.f kj10 l1 l2).bind fun t1160 => ((gcd_Gcd.f kj10 t1157 t1160).bind fun t1163 => ((gradineref03_Mul.f kj10 t1149 l2).bind fun t1166 => ((gradineplain_Words.f kj10 t1163 t1166).bind fun t1169 => (if t1169 = true then ((gradinelaw05_same.f kj10).bind fun t1170 => (some t1170)) else (some false)))))) = some r := H
              have A43 := Aside0.mk A430
              clear A430
              replace H := Option.bind_eq_some_iff.mp H
              obtain ⟨t1160, A440, H⟩ := H
              replace H : ((gcd_Gcd.f kj10 t1157 t1160).bind fun t1163 => ((gradineref03_Mul.f kj10 t1149 l2).bind fun t1166 => ((gradineplain_Words.f kj10 t1163 t1166).bind fun t1169 => (if t1169 = true then ((gradinelaw05_same.f kj10).bind fun t1170 => (some t1170)) else (some false))))) = some r := H
              have A44 := Aside0.mk A440
              clear A440
              replace H := Option.bind_eq_some_iff.mp H
              obtain ⟨t1163, A450, H⟩ := H
              replace H : ((gradineref03_Mul.f kj10 t1149 l2).bind fun t1166 => ((gradineplain_Words.f kj10 t1163 t1166).bind fun t1169 => (if t1169 = true then ((gradinelaw05_same.f kj10).bind fun t1170 => (some t1170)) else (some false)))) = some r := H
              have A45 := Aside0.mk A450
              clear A450
              replace H := Option.bind_eq_some_iff.mp H
              obtain ⟨t1166, A460, H⟩ := H
              replace H : ((gradineplain_Words.f kj10 t1163 t1166).bind fun t1169 => (if t1169 = true then ((gradinelaw05_same.f kj10).bind fun t1170 => (some t1170)) else (some false))) = some r := H
              have A46 := Aside0.mk A460
              clear A460
              replace H := Option.bind_eq_some_iff.mp H
              obtain ⟨t1169, A470, H⟩ := H
              replace H : (if t1169 = true then ((gradinelaw05_same.f kj10).bind fun t1170 => (some t1170)) else (some false)) = some r := H
              have A47 := Aside0.mk A470
              clear A470
              by_cases c48 : t1169 = true
              · subst c48
                have H1 : ((gradinelaw05_same.f kj10).bind fun t1170 => (some t1170)) = some r := by rw [if_pos rfl] at H; exact H
                clear H
                have H := H1
                clear H1
                replace H := Option.bind_eq_some_iff.mp H
                obtain ⟨t1170, A490, H⟩ := H
                replace H : (some t1170) = some r := H
                have A49 := Aside0.mk A490
                clear A490
                obtain rfl := Option.some.inj H
                go_wp2_with (first | ((with_reducible refine gate_callee (f := 77) rfl ?_); refine goesL_ (some 53) rfl rfl Try.func77 (by kernel_rfl) rfl #[.slice A0 l0.length c0, .slice A2 l2.length c2] rfl (by (try simp only [List.map_toArray, List.map_cons, List.map_nil]); first | done | rfl | (simp only [List.length_drop, List.length_take]; rfl) | (simp only [*]; done)) ?_; (with_reducible refine (gradineref03_Mul.calls kj10 _ _ l0 _ _ l2 t1157 _ ?side1 ?side2 ?side3 ?side4 A43.out).mono ?_); (case side1 => exact cs (Kd.C_below HR0.out HB.out)); (case side2 => exact HC0.out); (case side3 => exact cs (Kd.C_below HR2.out HB.out)); (case side4 => exact HC2.out); rintro e w50 ⟨v1158, rfl, ho0, hb⟩; refine ⟨_, rfl, ?_⟩; have n0_ := Aside0.mk (Kd.R_elder' (st HO_7.out) (Kd.R_base ho0) hb); have n1_ := Aside0.mk (Kd.R_lower (Kd.R_new' ho0 (Kd.R_lt (st HO_7.out))) (below_size (bb HB.out))); have n2_ := Aside0.mk (below_step (bb HB.out) hb); clear HO_7; clear HB; have HO_7 := n0_; have HO1159 := n1_; have HB := n2_; clear n0_ n1_ n2_; (try clear hb); (try clear hb2); (try clear hk); (try clear hi); (try clear ho0)) | ((with_reducible refine gate_callee (f := 77) rfl ?_); refine goesL_ (some 56) rfl rfl Try.func77 (by kernel_rfl) rfl #[.slice A1 l1.length c1, .slice A2 l2.length c2] rfl (by (try simp only [List.map_toArray, List.map_cons, List.map_nil]); first | done | rfl | (simp only [List.length_drop, List.length_take]; rfl) | (simp only [*]; done)) ?_; (with_reducible refine (gradineref03_Mul.calls kj10 _ _ l1 _ _ l2 t1160 _ ?side1 ?side2 ?side3 ?side4 A44.out).mono ?_); (case side1 => exact cs (Kd.C_below HR1.out HB.out)); (case side2 => exact HC1.out); (case side3 => exact cs (Kd.C_below HR2.out HB.out)); (case side4 => exact HC2.out); rintro e w51 ⟨v1161, rfl, ho0, hb⟩; refine ⟨_, rfl, ?_⟩; have n0_ := Aside0.mk (Kd.R_elder' (st HO_7.out) (Kd.R_base ho0) hb); have n1_ := Aside0.mk (Kd.R_elder' (st HO1159.out) (Kd.R_base ho0) hb); have n2_ := Aside0.mk (Kd.R_lower (Kd.R_new' (Kd.R_new' ho0 (Kd.R_lt (st HO_7.out))) (Kd.R_lt (st HO1159.out))) (below_size (bb HB.out))); have n3_ := Aside0.mk (below_step (bb HB.out) hb); clear HO_7; clear HO1159; clear HB; have HO_7 := n0_; have HO1159 := n1_; have HO1162 := n2_; have HB := n3_; clear n0_ n1_ n2_ n3_; (try clear hb); (try clear hb2); (try clear hk); (try clear hi); (try clear ho0); obtain ⟨Ao52, co52, eo52⟩ := Kd.R_slice HO1159.out; subst eo52; obtain ⟨Ao53, co53, eo53⟩ := Kd.R_slice HO1162.out; subst eo53) | ((with_reducible refine gate_callee (f := 86) rfl ?_); refine goesL_ (some 57) rfl rfl Try.func86 (by kernel_rfl) rfl #[.slice Ao52 t1157.length co52, .slice Ao53 t1160.length co53] rfl (by (try simp only [List.map_toArray, List.map_cons, List.map_nil]); first | done | rfl | (simp only [List.length_drop, List.length_take]; rfl) | (simp only [*]; done)) ?_; (with_reducible refine (gcd_Gcd.calls kj10 _ _ t1157 _ _ t1160 t1163 _ ?side1 ?side2 ?side3 ?side4 A45.out).mono ?_); (case side1 => exact cs (Kd.R_reads' HO1159.out).2.2); (case side2 => exact (Kd.R_reads' HO1159.out).2.1); (case side3 => exact cs (Kd.R_reads' HO1162.out).2.2); (case side4 => exact (Kd.R_reads' HO1162.out).2.1); rintro e w54 ⟨v1164, rfl, ho0, hb⟩; refine ⟨_, rfl, ?_⟩; have n0_ := Aside0.mk (Kd.R_elder' (st HO_7.out) (Kd.R_base ho0) hb); have n1_ := Aside0.mk (Kd.R_elder' (st HO1159.out) (Kd.R_base ho0) hb); have n2_ := Aside0.mk (Kd.R_elder' (st HO1162.out) (Kd.R_base ho0) hb); have n3_ := Aside0.mk (Kd.R_lower (Kd.R_new' (Kd.R_new' (Kd.R_new' ho0 (Kd.R_lt (st HO_7.out))) (Kd.R_lt (st HO1159.out))) (Kd.R_lt (st HO1162.out))) (below_size (bb HB.out))); have n4_ := Aside0.mk (below_step (bb HB.out) hb); clear HO_7; clear HO1159; clear HO1162; clear HB; have HO_7 := n0_; have HO1159 := n1_; have HO1162 := n2_; have HO1165 := n3_; have HB := n4_; clear n0_ n1_ n2_ n3_ n4_; (try clear hb); (try clear hb2); (try clear hk); (try clear hi); (try clear ho0); obtain ⟨Ao55, co55, eo55⟩ := Kd.R_slice HO_7.out; subst eo55) | ((with_reducible refine gate_callee (f := 77) rfl ?_); refine goesL_ (some 60) rfl rfl Try.func77 (by kernel_rfl) rfl #[.slice Ao55 t1149.length co55, .slice A2 l2.length c2] rfl (by (try simp only [List.map_toArray, List.map_cons, List.map_nil]); first | done | rfl | (simp only [List.length_drop, List.length_take]; rfl) | (simp only [*]; done)) ?_; (with_reducible refine (gradineref03_Mul.calls kj10 _ _ t1149 _ _ l2 t1166 _ ?side1 ?side2 ?side3 ?side4 A46.out).mono ?_); (case side1 => exact cs (Kd.R_reads' HO_7.out).2.2); (case side2 => exact (Kd.R_reads' HO_7.out).2.1); (case side3 => exact cs (Kd.C_below HR2.out HB.out)); (case side4 => exact HC2.out); rintro e w56 ⟨v1167, rfl, ho0, hb⟩; refine ⟨_, rfl, ?_⟩; have n0_ := Aside0.mk (Kd.R_elder' (st HO_7.out) (Kd.R_base ho0) hb); have n1_ := Aside0.mk (Kd.R_elder' (st HO1159.out) (Kd.R_base ho0) hb); have n2_ := Aside0.mk (Kd.R_elder' (st HO1162.out) (Kd.R_base ho0) hb); have n3_ := Aside0.mk (Kd.R_elder' (st HO1165.out) (Kd.R_base ho0) hb); have n4_ := Aside0.mk (Kd.R_lower (Kd.R_new' (Kd.R_new' (Kd.R_new' (Kd.R_new' ho0 (Kd.R_lt (st HO_7.out))) (Kd.R_lt (st HO1159.out))) (Kd.R_lt (st HO1162.out))) (Kd.R_lt (st HO1165.out))) (below_size (bb HB.out))); have n5_ := Aside0.mk (below_step (bb HB.out) hb); clear HO_7; clear HO1159; clear HO1162; clear HO1165; clear HB; have HO_7 := n0_; have HO1159 := n1_; have HO1162 := n2_; have HO1165 := n3_; have HO1168 := n4_; have HB := n5_; clear n0_ n1_ n2_ n3_ n4_ n5_; (try clear hb); (try clear hb2); (try clear hk); (try clear hi); (try clear ho0); obtain ⟨Ao57, co57, eo57⟩ := Kd.R_slice HO1165.out; subst eo57; obtain ⟨Ao58, co58, eo58⟩ := Kd.R_slice HO1168.out; subst eo58) | ((with_reducible refine gate_callee (f := 46) rfl ?_); refine goesL_ (some 61) rfl rfl Try.func46 (by kernel_rfl) rfl #[.slice Ao57 t1163.length co57, .slice Ao58 t1166.length co58] rfl (by (try simp only [List.map_toArray, List.map_cons, List.map_nil]); first | done | rfl | (simp only [List.length_drop, List.length_take]; rfl) | (simp only [*]; done)) ?_; (with_reducible refine (gradineplain_Words.calls kj10 _ _ t1163 _ _ t1166 true _ ?side1 ?side2 ?side3 ?side4 A47.out).mono ?_); (case side1 => exact cs (Kd.R_reads' HO1165.out).2.2); (case side2 => exact (Kd.R_reads' HO1165.out).2.1); (case side3 => exact cs (Kd.R_reads' HO1168.out).2.2); (case side4 => exact (Kd.R_reads' HO1168.out).2.1); rintro e w' ⟨rfl, ⟨nd, rfl⟩⟩; refine ⟨_, rfl, ?_⟩) | (go_at_call 85; (with_reducible refine (gradinelaw05_same.calls kj10  t1170 _ A49.out).mono ?_); rintro e w59 ⟨rfl, hb⟩; have n0_ := Aside0.mk (Kd.R_below (st HO_7.out) hb); have n1_ := Aside0.mk (Kd.R_below (st HO1159.out) hb); have n2_ := Aside0.mk (Kd.R_below (st HO1162.out) hb); have n3_ := Aside0.mk (Kd.R_below (st HO1165.out) hb); have n4_ := Aside0.mk (Kd.R_below (st HO1168.out) hb); have n5_ := Aside0.mk (below_step (bb HB.out) hb); clear HO_7; clear HO1159; clear HO1162; clear HO1165; clear HO1168; clear HB; have HO_7 := n0_; have HO1159 := n1_; have HO1162 := n2_; have HO1165 := n3_; have HO1168 := n4_; have HB := n5_; clear n0_ n1_ n2_ n3_ n4_ n5_; (try clear hb); (try clear hb2); (try clear hk); (try clear hi)))
                go_ret
                exact ⟨by first | rfl | (simp [errW_none, errW_some] <;> rfl) | (simp [*, errW_none, errW_some] <;> rfl), by repeat (first | (with_reducible first | exact HB.out | apply below_alloc | apply pw_below_drewN | apply below_drew1) | exact HB.out)⟩
              · replace c48 := Bool.eq_false_iff.mpr c48
                subst c48
                have H1 : (some false) = some r := by rw [if_neg (show ¬ (false = true) by decide)] at H; exact H
                clear H
                have H := H1
                clear H1
                obtain rfl := Option.some.inj H
                go_wp2_with (first | ((with_reducible refine gate_callee (f := 77) rfl ?_); refine goesL_ (some 53) rfl rfl Try.func77 (by kernel_rfl) rfl #[.slice A0 l0.length c0, .slice A2 l2.length c2] rfl (by (try simp only [List.map_toArray, List.map_cons, List.map_nil]); first | done | rfl | (simp only [List.length_drop, List.length_take]; rfl) | (simp only [*]; done)) ?_; (with_reducible refine (gradineref03_Mul.calls kj10 _ _ l0 _ _ l2 t1157 _ ?side1 ?side2 ?side3 ?side4 A43.out).mono ?_); (case side1 => exact cs (Kd.C_below HR0.out HB.out)); (case side2 => exact HC0.out); (case side3 => exact cs (Kd.C_below HR2.out HB.out)); (case side4 => exact HC2.out); rintro e w60 ⟨v1158, rfl, ho0, hb⟩; refine ⟨_, rfl, ?_⟩; have n0_ := Aside0.mk (Kd.R_elder' (st HO_7.out) (Kd.R_base ho0) hb); have n1_ := Aside0.mk (Kd.R_lower (Kd.R_new' ho0 (Kd.R_lt (st HO_7.out))) (below_size (bb HB.out))); have n2_ := Aside0.mk (below_step (bb HB.out) hb); clear HO_7; clear HB; have HO_7 := n0_; have HO1159 := n1_; have HB := n2_; clear n0_ n1_ n2_; (try clear hb); (try clear hb2); (try clear hk); (try clear hi); (try clear ho0)) | ((with_reducible refine gate_callee (f := 77) rfl ?_); refine goesL_ (some 56) rfl rfl Try.func77 (by kernel_rfl) rfl #[.slice A1 l1.length c1, .slice A2 l2.length c2] rfl (by (try simp only [List.map_toArray, List.map_cons, List.map_nil]); first | done | rfl | (simp only [List.length_drop, List.length_take]; rfl) | (simp only [*]; done)) ?_; (with_reducible refine (gradineref03_Mul.calls kj10 _ _ l1 _ _ l2 t1160 _ ?side1 ?side2 ?side3 ?side4 A44.out).mono ?_); (case side1 => exact cs (Kd.C_below HR1.out HB.out)); (case side2 => exact HC1.out); (case side3 => exact cs (Kd.C_below HR2.out HB.out)); (case side4 => exact HC2.out); rintro e w61 ⟨v1161, rfl, ho0, hb⟩; refine ⟨_, rfl, ?_⟩; have n0_ := Aside0.mk (Kd.R_elder' (st HO_7.out) (Kd.R_base ho0) hb); have n1_ := Aside0.mk (Kd.R_elder' (st HO1159.out) (Kd.R_base ho0) hb); have n2_ := Aside0.mk (Kd.R_lower (Kd.R_new' (Kd.R_new' ho0 (Kd.R_lt (st HO_7.out))) (Kd.R_lt (st HO1159.out))) (below_size (bb HB.out))); have n3_ := Aside0.mk (below_step (bb HB.out) hb); clear HO_7; clear HO1159; clear HB; have HO_7 := n0_; have HO1159 := n1_; have HO1162 := n2_; have HB := n3_; clear n0_ n1_ n2_ n3_; (try clear hb); (try clear hb2); (try clear hk); (try clear hi); (try clear ho0); obtain ⟨Ao62, co62, eo62⟩ := Kd.R_slice HO1159.out; subst eo62; obtain ⟨Ao63, co63, eo63⟩ := Kd.R_slice HO1162.out; subst eo63) | ((with_reducible refine gate_callee (f := 86) rfl ?_); refine goesL_ (some 57) rfl rfl Try.func86 (by kernel_rfl) rfl #[.slice Ao62 t1157.length co62, .slice Ao63 t1160.length co63] rfl (by (try simp only [List.map_toArray, List.map_cons, List.map_nil]); first | done | rfl | (simp only [List.length_drop, List.length_take]; rfl) | (simp only [*]; done)) ?_; (with_reducible refine (gcd_Gcd.calls kj10 _ _ t1157 _ _ t1160 t1163 _ ?side1 ?side2 ?side3 ?side4 A45.out).mono ?_); (case side1 => exact cs (Kd.R_reads' HO1159.out).2.2); (case side2 => exact (Kd.R_reads' HO1159.out).2.1); (case side3 => exact cs (Kd.R_reads' HO1162.out).2.2); (case side4 => exact (Kd.R_reads' HO1162.out).2.1); rintro e w64 ⟨v1164, rfl, ho0, hb⟩; refine ⟨_, rfl, ?_⟩; have n0_ := Aside0.mk (Kd.R_elder' (st HO_7.out) (Kd.R_base ho0) hb); have n1_ := Aside0.mk (Kd.R_elder' (st HO1159.out) (Kd.R_base ho0) hb); have n2_ := Aside0.mk (Kd.R_elder' (st HO1162.out) (Kd.R_base ho0) hb); have n3_ := Aside0.mk (Kd.R_lower (Kd.R_new' (Kd.R_new' (Kd.R_new' ho0 (Kd.R_lt (st HO_7.out))) (Kd.R_lt (st HO1159.out))) (Kd.R_lt (st HO1162.out))) (below_size (bb HB.out))); have n4_ := Aside0.mk (below_step (bb HB.out) hb); clear HO_7; clear HO1159; clear HO1162; clear HB; have HO_7 := n0_; have HO1159 := n1_; have HO1162 := n2_; have HO1165 := n3_; have HB := n4_; clear n0_ n1_ n2_ n3_ n4_; (try clear hb); (try clear hb2); (try clear hk); (try clear hi); (try clear ho0); obtain ⟨Ao65, co65, eo65⟩ := Kd.R_slice HO_7.out; subst eo65) | ((with_reducible refine gate_callee (f := 77) rfl ?_); refine goesL_ (some 60) rfl rfl Try.func77 (by kernel_rfl) rfl #[.slice Ao65 t1149.length co65, .slice A2 l2.length c2] rfl (by (try simp only [List.map_toArray, List.map_cons, List.map_nil]); first | done | rfl | (simp only [List.length_drop, List.length_take]; rfl) | (simp only [*]; done)) ?_; (with_reducible refine (gradineref03_Mul.calls kj10 _ _ t1149 _ _ l2 t1166 _ ?side1 ?side2 ?side3 ?side4 A46.out).mono ?_); (case side1 => exact cs (Kd.R_reads' HO_7.out).2.2); (case side2 => exact (Kd.R_reads' HO_7.out).2.1); (case side3 => exact cs (Kd.C_below HR2.out HB.out)); (case side4 => exact HC2.out); rintro e w66 ⟨v1167, rfl, ho0, hb⟩; refine ⟨_, rfl, ?_⟩; have n0_ := Aside0.mk (Kd.R_elder' (st HO_7.out) (Kd.R_base ho0) hb); have n1_ := Aside0.mk (Kd.R_elder' (st HO1159.out) (Kd.R_base ho0) hb); have n2_ := Aside0.mk (Kd.R_elder' (st HO1162.out) (Kd.R_base ho0) hb); have n3_ := Aside0.mk (Kd.R_elder' (st HO1165.out) (Kd.R_base ho0) hb); have n4_ := Aside0.mk (Kd.R_lower (Kd.R_new' (Kd.R_new' (Kd.R_new' (Kd.R_new' ho0 (Kd.R_lt (st HO_7.out))) (Kd.R_lt (st HO1159.out))) (Kd.R_lt (st HO1162.out))) (Kd.R_lt (st HO1165.out))) (below_size (bb HB.out))); have n5_ := Aside0.mk (below_step (bb HB.out) hb); clear HO_7; clear HO1159; clear HO1162; clear HO1165; clear HB; have HO_7 := n0_; have HO1159 := n1_; have HO1162 := n2_; have HO1165 := n3_; have HO1168 := n4_; have HB := n5_; clear n0_ n1_ n2_ n3_ n4_ n5_; (try clear hb); (try clear hb2); (try clear hk); (try clear hi); (try clear ho0); obtain ⟨Ao67, co67, eo67⟩ := Kd.R_slice HO1165.out; subst eo67; obtain ⟨Ao68, co68, eo68⟩ := Kd.R_slice HO1168.out; subst eo68) | ((with_reducible refine gate_callee (f := 46) rfl ?_); refine goesL_ (some 61) rfl rfl Try.func46 (by kernel_rfl) rfl #[.slice Ao67 t1163.length co67, .slice Ao68 t1166.length co68] rfl (by (try simp only [List.map_toArray, List.map_cons, List.map_nil]); first | done | rfl | (simp only [List.length_drop, List.length_take]; rfl) | (simp only [*]; done)) ?_; (with_reducible refine (gradineplain_Words.calls kj10 _ _ t1163 _ _ t1166 false _ ?side1 ?side2 ?side3 ?side4 A47.out).mono ?_); (case side1 => exact cs (Kd.R_reads' HO1165.out).2.2); (case side2 => exact (Kd.R_reads' HO1165.out).2.1); (case side3 => exact cs (Kd.R_reads' HO1168.out).2.2); (case side4 => exact (Kd.R_reads' HO1168.out).2.1); rintro e w' ⟨rfl, ⟨nd, rfl⟩⟩; refine ⟨_, rfl, ?_⟩))
                go_ret
                exact ⟨by first | rfl | (simp [errW_none, errW_some] <;> rfl) | (simp [*, errW_none, errW_some] <;> rfl), by repeat (first | (with_reducible first | exact HB.out | apply below_alloc | apply pw_below_drewN | apply below_drew1) | exact HB.out)⟩

/-- THE ONE PURE STATEMENT of gradinelaw05_GcdGreatest: yours. -/
def gradinelaw05_GcdGreatest.Pure : Prop := ∀ (l0 : List Int) (l1 : List Int) (l2 : List Int), l0.length ≤ maxLen → l0.length * 8 ≤ 140737488351232 → (∀ x ∈ l0, (Lit.int .u64 x).wf = true) → l1.length ≤ maxLen → l1.length * 8 ≤ 140737488351232 → (∀ x ∈ l1, (Lit.int .u64 x).wf = true) → l2.length ≤ maxLen → l2.length * 8 ≤ 140737488351232 → (∀ x ∈ l2, (Lit.int .u64 x).wf = true) → ∃ k, gradinelaw05_GcdGreatest.f k l0 l1 l2 = some true
theorem gradinelaw05_GcdGreatest.walk (P : gradinelaw05_GcdGreatest.Pure) (a0 : Option Addr) (len0 cap0 : Nat) (z0 : List Int) (a1 : Option Addr) (len1 cap1 : Nat) (z1 : List Int) (a2 : Option Addr) (len2 cap2 : Nat) (z2 : List Int) (w : World) (w0 : (a0 = none ∧ len0 = 0 ∧ cap0 = 0 ∧ z0 = []) ∨ ∃ x, a0 = some x ∧ len0 ≤ cap0 ∧ cap0 ≤ maxLen ∧ z0.length = cap0 ∧ (∀ i, i < z0.length → w.cell? (x.add i) = some (.int .u64 (z0.getD i 0))) ∧ ∀ n ∈ z0, (Lit.int .u64 n).wf = true) (y0 : len0 * 8 ≤ 140737488351232) (w1 : (a1 = none ∧ len1 = 0 ∧ cap1 = 0 ∧ z1 = []) ∨ ∃ x, a1 = some x ∧ len1 ≤ cap1 ∧ cap1 ≤ maxLen ∧ z1.length = cap1 ∧ (∀ i, i < z1.length → w.cell? (x.add i) = some (.int .u64 (z1.getD i 0))) ∧ ∀ n ∈ z1, (Lit.int .u64 n).wf = true) (y1 : len1 * 8 ≤ 140737488351232) (w2 : (a2 = none ∧ len2 = 0 ∧ cap2 = 0 ∧ z2 = []) ∨ ∃ x, a2 = some x ∧ len2 ≤ cap2 ∧ cap2 ≤ maxLen ∧ z2.length = cap2 ∧ (∀ i, i < z2.length → w.cell? (x.add i) = some (.int .u64 (z2.getD i 0))) ∧ ∀ n ∈ z2, (Lit.int .u64 n).wf = true) (y2 : len2 * 8 ≤ 140737488351232) :
    Calls Try.prog 19 #[.slice a0 len0 cap0, .slice a1 len1 cap1, .slice a2 len2 cap2] w fun e w' => e = .returned (.bool true) ∧ Below w.heap.size w w' := by
  obtain ⟨l0, rfl, hr0, hm0, hw0, hc0⟩ := ReadsInt.ofRowC w0
  obtain ⟨l1, rfl, hr1, hm1, hw1, hc1⟩ := ReadsInt.ofRowC w1
  obtain ⟨l2, rfl, hr2, hm2, hw2, hc2⟩ := ReadsInt.ofRowC w2
  obtain ⟨k, h⟩ := P l0 l1 l2 hm0 y0 hw0 hm1 y1 hw1 hm2 y2 hw2
  refine (gradinelaw05_GcdGreatest.calls k _ _ l0 _ _ l1 _ _ l2 true w (Kd.C_of_reads (d := (0 : Int)) (h1 := fun _ => rfl) hr0) hc0 (Kd.C_of_reads (d := (0 : Int)) (h1 := fun _ => rfl) hr1) hc1 (Kd.C_of_reads (d := (0 : Int)) (h1 := fun _ => rfl) hr2) hc2 h).mono ?_
  rintro e w' ⟨rfl, hd⟩
  exact ⟨rfl, hd⟩

end Go.Proofs.Ytldcgclbgbhffaa.P
