/- Functions of the seat as Lean functions, and walks: written by a program for this claim. -/
import Derived.Test.YtbpggonjcnakgaaFbase
import Derived.Test.YtbpggonjcnakgaaBgradineref09
import Derived.Test.YtbpggonjcnakgaaBfcmp
import Derived.Test.YtbpggonjcnakgaaFgradinelaw13same
namespace Go.Proofs.Ytbpggonjcnakgaa.P
open Go.RowKit Go.Proofs.YtbpggonjcnakgaaW.PrintWords Go.Proofs.YtbpggonjcnakgaaW.PrintLast Go.Proofs.YtbpggonjcnakgaaW.PrintMore
attribute [local go_sem] max2_int min2_int max_two min_two max_three min_three max_four min_four   -- for this text's walks alone
set_option linter.unusedVariables false
set_option linter.unusedSimpArgs false

/-! ### gradinelaw13_FcmpOrder: function 10 -/
mutual
def gradinelaw13_FcmpOrder.j0 : Nat → Int → Int → Int → Int → Option (Bool)
  | 0, _, _, _, _ => none
  | k + 1, x0, x1, x2, x7 => (fcmp_Less.f x1 x0).bind fun t728 => (if t728 = true then (gradinelaw13_FcmpOrder.j1 k x0 x1 x2 (wrap64 (x7 + 1))) else (gradinelaw13_FcmpOrder.j1 k x0 x1 x2 x7))
def gradinelaw13_FcmpOrder.j1 : Nat → Int → Int → Int → Int → Option (Bool)
  | 0, _, _, _, _ => none
  | k + 1, x0, x1, x2, x7 => (fcmp_Same.f x0 x1).bind fun t729 => (if t729 = true then (gradinelaw13_FcmpOrder.j2 k x0 x1 x2 (wrap64 (x7 + 1))) else (gradinelaw13_FcmpOrder.j2 k x0 x1 x2 x7))
def gradinelaw13_FcmpOrder.j2 : Nat → Int → Int → Int → Int → Option (Bool)
  | 0, _, _, _, _ => none
  | k + 1, x0, x1, x2, x7 => (gradineref09_Kind.f x0).bind fun t730 => (if t730 = 4 then (gradinelaw13_FcmpOrder.j3 k x0 x1 x2 x7 false) else ((gradineref09_Kind.f x1).bind fun t731 => (gradinelaw13_FcmpOrder.j3 k x0 x1 x2 x7 (t731 != 4))))
def gradinelaw13_FcmpOrder.j3 : Nat → Int → Int → Int → Int → Bool → Option (Bool)
  | 0, _, _, _, _, _ => none
  | k + 1, x0, x1, x2, x7, x8 => if x8 = true then (if x7 = 1 then ((fcmp_Same.f x0 x1).bind fun t732 => ((fcmp_Same.f x1 x0).bind fun t733 => (gradinelaw13_FcmpOrder.j4 k x0 x1 x2 (t732 != t733)))) else (gradinelaw13_FcmpOrder.j4 k x0 x1 x2 true)) else (if x7 = 0 then ((fcmp_Same.f x0 x1).bind fun t734 => ((fcmp_Same.f x1 x0).bind fun t735 => (gradinelaw13_FcmpOrder.j4 k x0 x1 x2 (t734 != t735)))) else (gradinelaw13_FcmpOrder.j4 k x0 x1 x2 true))
def gradinelaw13_FcmpOrder.j4 : Nat → Int → Int → Int → Bool → Option (Bool)
  | 0, _, _, _, _ => none
  | k + 1, x0, x1, x2, x53 => if x53 = true then (some false) else ((fcmp_Less.f x0 x1).bind fun t736 => (if t736 = true then ((fcmp_Less.f x1 x2).bind fun t737 => (if t737 = true then ((fcmp_Less.f x0 x2).bind fun t738 => (if t738 = true then ((gradinelaw13_same.f k).bind fun t739 => (some t739)) else (some false))) else ((gradinelaw13_same.f k).bind fun t740 => (some t740)))) else ((gradinelaw13_same.f k).bind fun t741 => (some t741))))
end
def gradinelaw13_FcmpOrder.f (k : Nat) (a0 : Int) (a1 : Int) (a2 : Int) : Option (Bool) := (fcmp_Less.f a0 a1).bind fun t727 => (if t727 = true then (gradinelaw13_FcmpOrder.j0 k a0 a1 a2 (0 + 1)) else (gradinelaw13_FcmpOrder.j0 k a0 a1 a2 0))
set_option maxHeartbeats 8000000 in
set_option maxRecDepth 100000 in
theorem gradinelaw13_FcmpOrder.calls (k : Nat) (a0 : Int) (a1 : Int) (a2 : Int) (r : Bool) (w : World) (h : gradinelaw13_FcmpOrder.f k a0 a1 a2 = some r) :
    Calls Try.prog 10 #[.int .u64 a0, .int .u64 a1, .int .u64 a2] w fun e w' => e = .returned (.bool r) ∧ Below w.heap.size w w' := by
  have HB := Aside0.mk (Below.refl w.heap.size w)
  have H : ((fcmp_Less.f a0 a1).bind fun t727 => (if t727 = true then (gradinelaw13_FcmpOrder.j0 k a0 a1 a2 (0 + 1)) else (gradinelaw13_FcmpOrder.j0 k a0 a1 a2 0))) = some r := h
  clear h
  replace H := Option.bind_eq_some_iff.mp H
  obtain ⟨t727, A40, H⟩ := H
  replace H : (if t727 = true then (gradinelaw13_FcmpOrder.j0 k a0 a1 a2 (0 + 1)) else (gradinelaw13_FcmpOrder.j0 k a0 a1 a2 0)) = some r := H
  have A4 := Aside0.mk A40
  clear A40
  have HC5 := Aside0.mk H
  clear H
  go_enter Try.func10, Try.ntmps10
  go_upto_if 11 with (first | ((with_reducible refine gate_callee (f := 48) rfl ?_); refine goesL_ (some 11) rfl rfl Try.func48 (by kernel_rfl) rfl #[.int .u64 a0, .int .u64 a1] rfl (by (try simp only [List.map_toArray, List.map_cons, List.map_nil]); first | done | rfl | (simp only [List.length_drop, List.length_take]; rfl) | (simp only [*]; done)) ?_; (with_reducible refine (fcmp_Less.calls a0 a1 t727 _ A4.out).mono ?_); rintro e w' ⟨rfl, ⟨nd, rfl⟩⟩; refine ⟨_, rfl, ?_⟩))
  (try simp only [Act.put, List.setIfInBounds_toArray, List.set_cons_zero, List.set_cons_succ])
  go_cut [7] (fun v7 wc => ∃ (kq : Nat) (x7_4 : Int), v7 = .int .i64 x7_4 ∧ Aside0 (gradinelaw13_FcmpOrder.j0 kq a0 a1 a2 x7_4 = some r) ∧ Aside0 (kq ≤ k) ∧ Aside0 (Below w.heap.size w wc))
  case first =>
    have H := HC5.out
    clear HC5
    by_cases c6 : t727 = true
    · subst c6
      have H1 : (gradinelaw13_FcmpOrder.j0 k a0 a1 a2 (0 + 1)) = some r := by rw [if_pos rfl] at H; exact H
      clear H
      have H := H1
      clear H1
      have H' := Aside0.mk H
      clear H
      go_wp2
      go_meet
      case rel => exact ⟨_, (0 + 1), (by first | rfl | (simp; done) | (simp [*]; done)), H', ⟨by first | omega | exact Nat.le_refl _⟩, ⟨by repeat (first | (with_reducible first | exact HB.out | apply below_alloc | apply pw_below_drewN | apply below_drew1) | exact HB.out)⟩⟩
    · replace c6 := Bool.eq_false_iff.mpr c6
      subst c6
      have H1 : (gradinelaw13_FcmpOrder.j0 k a0 a1 a2 0) = some r := by rw [if_neg (show ¬ (false = true) by decide)] at H; exact H
      clear H
      have H := H1
      clear H1
      have H' := Aside0.mk H
      clear H
      go_wp2
      go_meet
      case rel => exact ⟨_, (0), (by first | rfl | (simp; done) | (simp [*]; done)), H', ⟨by first | omega | exact Nat.le_refl _⟩, ⟨by repeat (first | (with_reducible first | exact HB.out | apply below_alloc | apply pw_below_drewN | apply below_drew1) | exact HB.out)⟩⟩
  case rest =>
    clear HC5
    try clear c1
    try clear p2
    try clear c4
    try clear c6
    obtain ⟨kq, x7_4, rfl, HA, HJ4, HB⟩ := hcut
    cases kq with
    | zero => exact absurd HA.out (by simp [gradinelaw13_FcmpOrder.j0])
    | succ kj4 =>
      have H := HA.out
      clear HA
      simp only [gradinelaw13_FcmpOrder.j0] at H
      replace H := Option.bind_eq_some_iff.mp H
      obtain ⟨t728, A70, H⟩ := H
      replace H : (if t728 = true then (gradinelaw13_FcmpOrder.j1 kj4 a0 a1 a2 (wrap64 (x7_4 + 1))) else (gradinelaw13_FcmpOrder.j1 kj4 a0 a1 a2 x7_4)) = some r := H
      have A7 := Aside0.mk A70
      clear A70
      have HC8 := Aside0.mk H
      clear H
      go_upto_if 16 with (first | ((with_reducible refine gate_callee (f := 48) rfl ?_); refine goesL_ (some 16) rfl rfl Try.func48 (by kernel_rfl) rfl #[.int .u64 a1, .int .u64 a0] rfl (by (try simp only [List.map_toArray, List.map_cons, List.map_nil]); first | done | rfl | (simp only [List.length_drop, List.length_take]; rfl) | (simp only [*]; done)) ?_; (with_reducible refine (fcmp_Less.calls a1 a0 t728 _ A7.out).mono ?_); rintro e w' ⟨rfl, ⟨nd, rfl⟩⟩; refine ⟨_, rfl, ?_⟩))
      (try simp only [Act.put, List.setIfInBounds_toArray, List.set_cons_zero, List.set_cons_succ])
      go_cut [7] (fun v7 wc => ∃ (kq : Nat) (x7_7 : Int), v7 = .int .i64 x7_7 ∧ Aside0 (gradinelaw13_FcmpOrder.j1 kq a0 a1 a2 x7_7 = some r) ∧ Aside0 (kq ≤ kj4) ∧ Aside0 (Below w.heap.size w wc))
      case first =>
        have H := HC8.out
        clear HC8
        by_cases c9 : t728 = true
        · subst c9
          have H1 : (gradinelaw13_FcmpOrder.j1 kj4 a0 a1 a2 (wrap64 (x7_4 + 1))) = some r := by rw [if_pos rfl] at H; exact H
          clear H
          have H := H1
          clear H1
          have H' := Aside0.mk H
          clear H
          go_wp2
          go_meet
          case rel => exact ⟨_, (wrap64 (x7_4 + 1)), (by first | rfl | (simp; done) | (simp [*]; done)), H', ⟨by have := HJ4.out; first | omega | exact Nat.le_refl _⟩, ⟨by repeat (first | (with_reducible first | exact HB.out | apply below_alloc | apply pw_below_drewN | apply below_drew1) | exact HB.out)⟩⟩
        · replace c9 := Bool.eq_false_iff.mpr c9
          subst c9
          have H1 : (gradinelaw13_FcmpOrder.j1 kj4 a0 a1 a2 x7_4) = some r := by rw [if_neg (show ¬ (false = true) by decide)] at H; exact H
          clear H
          have H := H1
          clear H1
          have H' := Aside0.mk H
          clear H
          go_wp2
          go_meet
          case rel => exact ⟨_, (x7_4), (by first | rfl | (simp; done) | (simp [*]; done)), H', ⟨by have := HJ4.out; first | omega | exact Nat.le_refl _⟩, ⟨by repeat (first | (with_reducible first | exact HB.out | apply below_alloc | apply pw_below_drewN | apply below_drew1) | exact HB.out)⟩⟩
      case rest =>
        clear HC8
        try clear c1
        try clear p2
        try clear c4
        try clear c6
        try clear p6
        try clear c9
        try clear p2
        obtain ⟨kq, x7_7, rfl, HA, HJ7, HB⟩ := hcut
        cases kq with
        | zero => exact absurd HA.out (by simp [gradinelaw13_FcmpOrder.j1])
        | succ kj7 =>
          have H := HA.out
          clear HA
          simp only [gradinelaw13_FcmpOrder.j1] at H
          replace H := Option.bind_eq_some_iff.mp H
          obtain ⟨t729, A100, H⟩ := H
          replace H : (if t729 = true then (gradinelaw13_FcmpOrder.j2 kj7 a0 a1 a2 (wrap64 (x7_7 + 1))) else (gradinelaw13_FcmpOrder.j2 kj7 a0 a1 a2 x7_7)) = some r := H
          have A10 := Aside0.mk A100
          clear A100
          have HC11 := Aside0.mk H
          clear H
          go_upto_if 21 with (first | ((with_reducible refine gate_callee (f := 49) rfl ?_); refine goesL_ (some 21) rfl rfl Try.func49 (by kernel_rfl) rfl #[.int .u64 a0, .int .u64 a1] rfl (by (try simp only [List.map_toArray, List.map_cons, List.map_nil]); first | done | rfl | (simp only [List.length_drop, List.length_take]; rfl) | (simp only [*]; done)) ?_; (with_reducible refine (fcmp_Same.calls a0 a1 t729 _ A10.out).mono ?_); rintro e w' ⟨rfl, ⟨nd, rfl⟩⟩; refine ⟨_, rfl, ?_⟩))
          (try simp only [Act.put, List.setIfInBounds_toArray, List.set_cons_zero, List.set_cons_succ])
          go_cut [7] (fun v7 wc => ∃ (kq : Nat) (x7_10 : Int), v7 = .int .i64 x7_10 ∧ Aside0 (gradinelaw13_FcmpOrder.j2 kq a0 a1 a2 x7_10 = some r) ∧ Aside0 (kq ≤ kj7) ∧ Aside0 (Below w.heap.size w wc))
          case first =>
            have H := HC11.out
            clear HC11
            by_cases c12 : t729 = true
            · subst c12
              have H1 : (gradinelaw13_FcmpOrder.j2 kj7 a0 a1 a2 (wrap64 (x7_7 + 1))) = some r := by rw [if_pos rfl] at H; exact H
              clear H
              have H := H1
              clear H1
              have H' := Aside0.mk H
              clear H
              go_wp2
              go_meet
              case rel => exact ⟨_, (wrap64 (x7_7 + 1)), (by first | rfl | (simp; done) | (simp [*]; done)), H', ⟨by have := HJ4.out; have := HJ7.out; first | omega | exact Nat.le_refl _⟩, ⟨by repeat (first | (with_reducible first | exact HB.out | apply below_alloc | apply pw_below_drewN | apply below_drew1) | exact HB.out)⟩⟩
            · replace c12 := Bool.eq_false_iff.mpr c12
              subst c12
              have H1 : (gradinelaw13_FcmpOrder.j2 kj7 a0 a1 a2 x7_7) = some r := by rw [if_neg (show ¬ (false = true) by decide)] at H; exact H
              clear H
              have H := H1
              clear H1
              have H' := Aside0.mk H
              clear H
              go_wp2
              go_meet
              case rel => exact ⟨_, (x7_7), (by first | rfl | (simp; done) | (simp [*]; done)), H', ⟨by have := HJ4.out; have := HJ7.out; first | omega | exact Nat.le_refl _⟩, ⟨by repeat (first | (with_reducible first | exact HB.out | apply below_alloc | apply pw_below_drewN | apply below_drew1) | exact HB.out)⟩⟩
          case rest =>
            clear HC11
            try clear c1
            try clear p2
            try clear c4
            try clear c6
            try clear p6
            try clear c9
            try clear c10
            try clear c12
            try clear p2
            try clear p6
            obtain ⟨kq, x7_10, rfl, HA, HJ10, HB⟩ := hcut
            cases kq with
            | zero => exact absurd HA.out (by simp [gradinelaw13_FcmpOrder.j2])
            | succ kj10 =>
              have H := HA.out
              clear HA
              simp only [gradinelaw13_FcmpOrder.j2] at H
              have HC13 := Aside0.mk H
              clear H
              go_upto_region 8 with (fail)
              go_cut [8] (fun v8 wc => ∃ (kq : Nat) (x8_12 : Bool), v8 = .bool x8_12 ∧ Aside0 (gradinelaw13_FcmpOrder.j3 kq a0 a1 a2 x7_10 x8_12 = some r) ∧ Aside0 (kq ≤ kj10) ∧ Aside0 (Below w.heap.size w wc))
              case first =>
                have H := HC13.out
                clear HC13
                replace H := Option.bind_eq_some_iff.mp H
                obtain ⟨t730, A140, H⟩ := H
                replace H : (if t730 = 4 then (gradinelaw13_FcmpOrder.j3 kj10 a0 a1 a2 x7_10 false) else ((gradineref09_Kind.f a1).bind fun t731 => (gradinelaw13_FcmpOrder.j3 kj10 a0 a1 a2 x7_10 (t731 != 4)))) = some r := H
                have A14 := Aside0.mk A140
                clear A140
                by_cases c15 : t730 = 4
                · rw [if_pos c15] at H
                  have c15b0 : (t730 == 4) = true := beq_iff_eq.mpr c15
                  have c15b1 : (t730 != 4) = false := bne_eq_false_iff_eq.mpr c15
                  clear c15
                  (first | rw [c15b0] | (simp only [i64_w, i32_w]; rw [c15b0]) | rw [c15b1] | skip)
                  have H' := Aside0.mk H
                  clear H
                  go_wp2_with (first | ((with_reducible refine gate_callee (f := 40) rfl ?_); refine goesL_ (some 25) rfl rfl Try.func40 (by kernel_rfl) rfl #[.int .u64 a0] rfl (by (try simp only [List.map_toArray, List.map_cons, List.map_nil]); first | done | rfl | (simp only [List.length_drop, List.length_take]; rfl) | (simp only [*]; done)) ?_; (with_reducible refine (gradineref09_Kind.calls a0 t730 _ A14.out).mono ?_); rintro e w' ⟨rfl, ⟨nd, rfl⟩⟩; refine ⟨_, rfl, ?_⟩))
                  go_meet
                  case rel => exact ⟨_, (false), (by first | rfl | (simp; done) | (simp [*]; done)), H', ⟨by have := HJ4.out; have := HJ7.out; have := HJ10.out; first | omega | exact Nat.le_refl _⟩, ⟨by repeat (first | (with_reducible first | exact HB.out | apply below_alloc | apply pw_below_drewN | apply below_drew1) | exact HB.out)⟩⟩
                · rw [if_neg c15] at H
                  have c15b0 : (t730 == 4) = false := beq_eq_false_iff_ne.mpr c15
                  have c15b1 : (t730 != 4) = true := bne_iff_ne.mpr c15
                  (first | rw [c15b0] | (simp only [i64_w, i32_w]; rw [c15b0]) | rw [c15b1] | skip)
                  replace H := Option.bind_eq_some_iff.mp H
                  obtain ⟨t731, A160, H⟩ := H
                  replace H : (gradinelaw13_FcmpOrder.j3 kj10 a0 a1 a2 x7_10 (t731 != 4)) = some r := H
                  have A16 := Aside0.mk A160
                  clear A160
                  have H' := Aside0.mk H
                  clear H
                  go_wp2_with (first | ((with_reducible refine gate_callee (f := 40) rfl ?_); refine goesL_ (some 25) rfl rfl Try.func40 (by kernel_rfl) rfl #[.int .u64 a0] rfl (by (try simp only [List.map_toArray, List.map_cons, List.map_nil]); first | done | rfl | (simp only [List.length_drop, List.length_take]; rfl) | (simp only [*]; done)) ?_; (with_reducible refine (gradineref09_Kind.calls a0 t730 _ A14.out).mono ?_); rintro e w' ⟨rfl, ⟨nd, rfl⟩⟩; refine ⟨_, rfl, ?_⟩) | (go_at_call 40; (with_reducible refine (gradineref09_Kind.calls a1 t731 _ A16.out).mono ?_); rintro e w' ⟨rfl, ⟨nd, rfl⟩⟩))
                  go_meet
                  case rel => exact ⟨_, ((t731 != 4)), (by first | rfl | (simp; done) | (simp [*]; done)), H', ⟨by have := HJ4.out; have := HJ7.out; have := HJ10.out; first | omega | exact Nat.le_refl _⟩, ⟨by repeat (first | (with_reducible first | exact HB.out | apply below_alloc | apply pw_below_drewN | apply below_drew1) | exact HB.out)⟩⟩
              case rest =>
                clear HC13
                try clear c1
                try clear p2
                try clear c4
                try clear c6
                try clear p6
                try clear c9
                try clear c10
                try clear c12
                try clear c15
                try clear c15b0
                try clear c15b1
                try clear p2
                try clear p6
                obtain ⟨kq, x8_12, rfl, HA, HJ12, HB⟩ := hcut
                cases kq with
                | zero => exact absurd HA.out (by simp [gradinelaw13_FcmpOrder.j3])
                | succ kj12 =>
                  have H := HA.out
                  clear HA
                  simp only [gradinelaw13_FcmpOrder.j3] at H
                  have HC17 := Aside0.mk H
                  clear H
                  go_upto_region 9 with (fail)
                  go_cut [53] (fun v53 wc => ∃ (kq : Nat) (x53_16 : Bool), v53 = .bool x53_16 ∧ Aside0 (gradinelaw13_FcmpOrder.j4 kq a0 a1 a2 x53_16 = some r) ∧ Aside0 (kq ≤ kj12) ∧ Aside0 (Below w.heap.size w wc))
                  case first =>
                    have H := HC17.out
                    clear HC17
                    by_cases c18 : x8_12 = true
                    · subst c18
                      have H1 : (if x7_10 = 1 then ((fcmp_Same.f a0 a1).bind fun t732 => ((fcmp_Same.f a1 a0).bind fun t733 => (gradinelaw13_FcmpOrder.j4 kj12 a0 a1 a2 (t732 != t733)))) else (gradinelaw13_FcmpOrder.j4 kj12 a0 a1 a2 true)) = some r := by rw [if_pos rfl] at H; exact H
                      clear H
                      have H := H1
                      clear H1
                      by_cases c19 : x7_10 = 1
                      · rw [if_pos c19] at H
                        have c19b0 : (x7_10 == 1) = true := beq_iff_eq.mpr c19
                        have c19b1 : (x7_10 != 1) = false := bne_eq_false_iff_eq.mpr c19
                        clear c19
                        (first | rw [c19b0] | (simp only [i64_w, i32_w]; rw [c19b0]) | rw [c19b1] | skip)
                        replace H := Option.bind_eq_some_iff.mp H
                        obtain ⟨t732, A200, H⟩ := H
                        replace H : ((fcmp_Same.f a1 a0).bind fun t733 => (gradinelaw13_FcmpOrder.j4 kj12 a0 a1 a2 (t732 != t733))) = some r := H
                        have A20 := Aside0.mk A200
                        clear A200
                        replace H := Option.bind_eq_some_iff.mp H
                        obtain ⟨t733, A210, H⟩ := H
                        replace H : (gradinelaw13_FcmpOrder.j4 kj12 a0 a1 a2 (t732 != t733)) = some r := H
                        have A21 := Aside0.mk A210
                        clear A210
                        have H' := Aside0.mk H
                        clear H
                        go_wp2_with (first | (go_at_call 49; (with_reducible refine (fcmp_Same.calls a0 a1 t732 _ A20.out).mono ?_); rintro e w' ⟨rfl, ⟨nd, rfl⟩⟩) | (go_at_call 49; (with_reducible refine (fcmp_Same.calls a1 a0 t733 _ A21.out).mono ?_); rintro e w' ⟨rfl, ⟨nd, rfl⟩⟩))
                        go_meet
                        case rel => exact ⟨_, ((t732 != t733)), (by first | rfl | (simp; done) | (simp [*]; done)), H', ⟨by have := HJ4.out; have := HJ7.out; have := HJ10.out; have := HJ12.out; first | omega | exact Nat.le_refl _⟩, ⟨by repeat (first | (with_reducible first | exact HB.out | apply below_alloc | apply pw_below_drewN | apply below_drew1) | exact HB.out)⟩⟩
                      · rw [if_neg c19] at H
                        have c19b0 : (x7_10 == 1) = false := beq_eq_false_iff_ne.mpr c19
                        have c19b1 : (x7_10 != 1) = true := bne_iff_ne.mpr c19
                        (first | rw [c19b0] | (simp only [i64_w, i32_w]; rw [c19b0]) | rw [c19b1] | skip)
                        have H' := Aside0.mk H
                        clear H
                        go_wp2
                        go_meet
                        case rel => exact ⟨_, (true), (by first | rfl | (simp; done) | (simp [*]; done)), H', ⟨by have := HJ4.out; have := HJ7.out; have := HJ10.out; have := HJ12.out; first | omega | exact Nat.le_refl _⟩, ⟨by repeat (first | (with_reducible first | exact HB.out | apply below_alloc | apply pw_below_drewN | apply below_drew1) | exact HB.out)⟩⟩
                    · replace c18 := Bool.eq_false_iff.mpr c18
                      subst c18
                      have H1 : (if x7_10 = 0 then ((fcmp_Same.f a0 a1).bind fun t734 => ((fcmp_Same.f a1 a0).bind fun t735 => (gradinelaw13_FcmpOrder.j4 kj12 a0 a1 a2 (t734 != t735)))) else (gradinelaw13_FcmpOrder.j4 kj12 a0 a1 a2 true)) = some r := by rw [if_neg (show ¬ (false = true) by decide)] at H; exact H
                      clear H
                      have H := H1
                      clear H1
                      by_cases c22 : x7_10 = 0
                      · rw [if_pos c22] at H
                        have c22b0 : (x7_10 == 0) = true := beq_iff_eq.mpr c22
                        have c22b1 : (x7_10 != 0) = false := bne_eq_false_iff_eq.mpr c22
                        clear c22
                        replace H := Option.bind_eq_some_iff.mp H
                        obtain ⟨t734, A230, H⟩ := H
                        replace H : ((fcmp_Same.f a1 a0).bind fun t735 => (gradinelaw13_FcmpOrder.j4 kj12 a0 a1 a2 (t734 != t735))) = some r := H
                        have A23 := Aside0.mk A230
                        clear A230
                        replace H := Option.bind_eq_some_iff.mp H
                        obtain ⟨t735, A240, H⟩ := H
                        replace H : (gradinelaw13_FcmpOrder.j4 kj12 a0 a1 a2 (t734 != t735)) = some r := H
                        have A24 := Aside0.mk A240
                        clear A240
                        have H' := Aside0.mk H
                        clear H
                        go_wp2_with (first | (go_at_call 49; (with_reducible refine (fcmp_Same.calls a0 a1 t734 _ A23.out).mono ?_); rintro e w' ⟨rfl, ⟨nd, rfl⟩⟩) | (go_at_call 49; (with_reducible refine (fcmp_Same.calls a1 a0 t735 _ A24.out).mono ?_); rintro e w' ⟨rfl, ⟨nd, rfl⟩⟩))
                        go_meet
                        case rel => exact ⟨_, ((t734 != t735)), (by first | rfl | (simp; done) | (simp [*]; done)), H', ⟨by have := HJ4.out; have := HJ7.out; have := HJ10.out; have := HJ12.out; first | omega | exact Nat.le_refl _⟩, ⟨by repeat (first | (with_reducible first | exact HB.out | apply below_alloc | apply pw_below_drewN | apply below_drew1) | exact HB.out)⟩⟩
                      · rw [if_neg c22] at H
                        have c22b0 : (x7_10 == 0) = false := beq_eq_false_iff_ne.mpr c22
                        have c22b1 : (x7_10 != 0) = true := bne_iff_ne.mpr c22
                        have H' := Aside0.mk H
                        clear H
                        go_wp2
                        go_meet
                        case rel => exact ⟨_, (true), (by first | rfl | (simp; done) | (simp [*]; done)), H', ⟨by have := HJ4.out; have := HJ7.out; have := HJ10.out; have := HJ12.out; first | omega | exact Nat.le_refl _⟩, ⟨by repeat (first | (with_reducible first | exact HB.out | apply below_alloc | apply pw_below_drewN | apply below_drew1) | exact HB.out)⟩⟩
                  case rest =>
                    clear HC17
                    try clear c1
                    try clear c2
                    try clear p2
                    try clear c4
                    try clear c6
                    try clear p6
                    try clear c9
                    try clear c10
                    try clear c12
                    try clear c15
                    try clear c15b0
                    try clear c15b1
                    try clear c18
                    try clear c19
                    try clear c19b0
                    try clear c19b1
                    try clear c22
                    try clear c22b0
                    try clear c22b1
                    try clear p2
                    try clear p6
                    obtain ⟨kq, x53_16, rfl, HA, HJ16, HB⟩ := hcut
                    cases kq with
                    | zero => exact absurd HA.out (by simp [gradinelaw13_FcmpOrder.j4])
                    | succ kj16 =>
                      have H := HA.out
                      clear HA
                      simp only [gradinelaw13_FcmpOrder.j4] at H
                      by_cases c25 : x53_16 = true
                      · subst c25
                        have H1 : (some false) = some r := by rw [if_pos rfl] at H; exact H
                        clear H
                        have H := H1
                        clear H1
                        obtain rfl := Option.some.inj H
                        go_wp2
                        go_ret
                        exact ⟨by first | rfl | (simp [errW_none, errW_some] <;> rfl) | (simp [*, errW_none, errW_some] <;> rfl), by repeat (first | (with_reducible first | exact HB.out | apply below_alloc | apply pw_below_drewN | apply below_drew1) | exact HB.out)⟩
                      · replace c25 := Bool.eq_false_iff.mpr c25
                        subst c25
                        have H1 : ((fcmp_Less.f a0 a1).bind fun t736 => (if t736 = true then ((fcmp_Less.f a1 a2).bind fun t737 => (if t737 = true then ((fcmp_Less.f a0 a2).bind fun t738 => (if t738 = true then ((gradinelaw13_same.f kj16).bind fun t739 => (some t739)) else (some false))) else ((gradinelaw13_same.f kj16).bind fun t740 => (some t740)))) else ((gradinelaw13_same.f kj16).bind fun t741 => (some t741)))) = some r := by rw [if_neg (show ¬ (false = true) by decide)] at H; exact H
                        clear H
                        have H := H1
                        clear H1
                        replace H := Option.bind_eq_some_iff.mp H
                        obtain ⟨t736, A260, H⟩ := H
                        replace H : (if t736 = true then ((fcmp_Less.f a1 a2).bind fun t737 => (if t737 = true then ((fcmp_Less.f a0 a2).bind fun t738 => (if t738 = true then ((gradinelaw13_same.f kj16).bind fun t739 => (some t739)) else (some false))) else ((gradinelaw13_same.f kj16).bind fun t740 => (some t740)))) else ((gradinelaw13_same.f kj16).bind fun t741 => (some t741))) = some r := H
                        have A26 := Aside0.mk A260
                        clear A260
                        by_cases c27 : t736 = true
                        · subst c27
                          have H1 : ((fcmp_Less.f a1 a2).bind fun t737 => (if t737 = true then ((fcmp_Less.f a0 a2).bind fun t738 => (if t738 = true then ((gradinelaw13_same.f kj16).bind fun t739 => (some t739)) else (some false))) else ((gradinelaw13_same.f kj16).bind fun t740 => (some t740)))) = some r := by rw [if_pos rfl] at H; exact H
                          clear H
                          have H := H1
                          clear H1
                          replace H := Option.bind_eq_some_iff.mp H
                          obtain ⟨t737, A280, H⟩ := H
                          replace H : (if t737 = true then ((fcmp_Less.f a0 a2).bind fun t738 => (if t738 = true then ((gradinelaw13_same.f kj16).bind fun t739 => (some t739)) else (some false))) else ((gradinelaw13_same.f kj16).bind fun t740 => (some t740))) = some r := H
                          have A28 := Aside0.mk A280
                          clear A280
                          by_cases c29 : t737 = true
                          · subst c29
                            have H1 : ((fcmp_Less.f a0 a2).bind fun t738 => (if t738 = true then ((gradinelaw13_same.f kj16).bind fun t739 => (some t739)) else (some false))) = some r := by rw [if_pos rfl] at H; exact H
                            clear H
                            have H := H1
                            clear H1
                            replace H := Option.bind_eq_some_iff.mp H
                            obtain ⟨t738, A300, H⟩ := H
                            replace H : (if t738 = true then ((gradinelaw13_same.f kj16).bind fun t739 => (some t739)) else (some false)) = some r := H
                            have A30 := Aside0.mk A300
                            clear A300
                            by_cases c31 : t738 = true
                            · subst c31
                              have H1 : ((gradinelaw13_same.f kj16).bind fun t739 => (some t739)) = some r := by rw [if_pos rfl] at H; exact H
                              clear H
                              have H := H1
                              clear H1
                              replace H := Option.bind_eq_some_iff.mp H
                              obtain ⟨t739, A320, H⟩ := H
                              replace H : (some t739) = some r := H
                              have A32 := Aside0.mk A320
                              clear A320
                              obtain rfl := Option.some.inj H
                              go_wp2_with (first | ((with_reducible refine gate_callee (f := 48) rfl ?_); refine goesL_ (some 56) rfl rfl Try.func48 (by kernel_rfl) rfl #[.int .u64 a0, .int .u64 a1] rfl (by (try simp only [List.map_toArray, List.map_cons, List.map_nil]); first | done | rfl | (simp only [List.length_drop, List.length_take]; rfl) | (simp only [*]; done)) ?_; (with_reducible refine (fcmp_Less.calls a0 a1 true _ A26.out).mono ?_); rintro e w' ⟨rfl, ⟨nd, rfl⟩⟩; refine ⟨_, rfl, ?_⟩) | (go_at_call 48; (with_reducible refine (fcmp_Less.calls a1 a2 true _ A28.out).mono ?_); rintro e w' ⟨rfl, ⟨nd, rfl⟩⟩) | (go_at_call 48; (with_reducible refine (fcmp_Less.calls a0 a2 true _ A30.out).mono ?_); rintro e w' ⟨rfl, ⟨nd, rfl⟩⟩) | (go_at_call 50; (with_reducible refine (gradinelaw13_same.calls kj16  t739 _ A32.out).mono ?_); rintro e w33 ⟨rfl, hb⟩; have n0_ := Aside0.mk (below_step (by repeat (first | (with_reducible first | exact HB.out | apply below_alloc | apply pw_below_drewN | apply below_drew1) | exact HB.out)) hb); clear HB; have HB := n0_; clear n0_; (try clear hb); (try clear hb2); (try clear hk); (try clear hi)))
                              go_ret
                              exact ⟨by first | rfl | (simp [errW_none, errW_some] <;> rfl) | (simp [*, errW_none, errW_some] <;> rfl), by repeat (first | (with_reducible first | exact HB.out | apply below_alloc | apply pw_below_drewN | apply below_drew1) | exact HB.out)⟩
                            · replace c31 := Bool.eq_false_iff.mpr c31
                              subst c31
                              have H1 : (some false) = some r := by rw [if_neg (show ¬ (false = true) by decide)] at H; exact H
                              clear H
                              have H := H1
                              clear H1
                              obtain rfl := Option.some.inj H
                              go_wp2_with (first | ((with_reducible refine gate_callee (f := 48) rfl ?_); refine goesL_ (some 56) rfl rfl Try.func48 (by kernel_rfl) rfl #[.int .u64 a0, .int .u64 a1] rfl (by (try simp only [List.map_toArray, List.map_cons, List.map_nil]); first | done | rfl | (simp only [List.length_drop, List.length_take]; rfl) | (simp only [*]; done)) ?_; (with_reducible refine (fcmp_Less.calls a0 a1 true _ A26.out).mono ?_); rintro e w' ⟨rfl, ⟨nd, rfl⟩⟩; refine ⟨_, rfl, ?_⟩) | (go_at_call 48; (with_reducible refine (fcmp_Less.calls a1 a2 true _ A28.out).mono ?_); rintro e w' ⟨rfl, ⟨nd, rfl⟩⟩) | (go_at_call 48; (with_reducible refine (fcmp_Less.calls a0 a2 false _ A30.out).mono ?_); rintro e w' ⟨rfl, ⟨nd, rfl⟩⟩))
                              go_ret
                              exact ⟨by first | rfl | (simp [errW_none, errW_some] <;> rfl) | (simp [*, errW_none, errW_some] <;> rfl), by repeat (first | (with_reducible first | exact HB.out | apply below_alloc | apply pw_below_drewN | apply below_drew1) | exact HB.out)⟩
                          · replace c29 := Bool.eq_false_iff.mpr c29
                            subst c29
                            have H1 : ((gradinelaw13_same.f kj16).bind fun t740 => (some t740)) = some r := by rw [if_neg (show ¬ (false = true) by decide)] at H; exact H
                            clear H
                            have H := H1
                            clear H1
                            replace H := Option.bind_eq_some_iff.mp H
                            obtain ⟨t740, A340, H⟩ := H
                            replace H : (some t740) = some r := H
                            have A34 := Aside0.mk A340
                            clear A340
                            obtain rfl := Option.some.inj H
                            go_wp2_with (first | ((with_reducible refine gate_callee (f := 48) rfl ?_); refine goesL_ (some 56) rfl rfl Try.func48 (by kernel_rfl) rfl #[.int .u64 a0, .int .u64 a1] rfl (by (try simp only [List.map_toArray, List.map_cons, List.map_nil]); first | done | rfl | (simp only [List.length_drop, List.length_take]; rfl) | (simp only [*]; done)) ?_; (with_reducible refine (fcmp_Less.calls a0 a1 true _ A26.out).mono ?_); rintro e w' ⟨rfl, ⟨nd, rfl⟩⟩; refine ⟨_, rfl, ?_⟩) | (go_at_call 48; (with_reducible refine (fcmp_Less.calls a1 a2 false _ A28.out).mono ?_); rintro e w' ⟨rfl, ⟨nd, rfl⟩⟩) | (go_at_call 50; (with_reducible refine (gradinelaw13_same.calls kj16  t740 _ A34.out).mono ?_); rintro e w35 ⟨rfl, hb⟩; have n0_ := Aside0.mk (below_step (by repeat (first | (with_reducible first | exact HB.out | apply below_alloc | apply pw_below_drewN | apply below_drew1) | exact HB.out)) hb); clear HB; have HB := n0_; clear n0_; (try clear hb); (try clear hb2); (try clear hk); (try clear hi)))
                            go_ret
                            exact ⟨by first | rfl | (simp [errW_none, errW_some] <;> rfl) | (simp [*, errW_none, errW_some] <;> rfl), by repeat (first | (with_reducible first | exact HB.out | apply below_alloc | apply pw_below_drewN | apply below_drew1) | exact HB.out)⟩
                        · replace c27 := Bool.eq_false_iff.mpr c27
                          subst c27
                          have H1 : ((gradinelaw13_same.f kj16).bind fun t741 => (some t741)) = some r := by rw [if_neg (show ¬ (false = true) by decide)] at H; exact H
                          clear H
                          have H := H1
                          clear H1
                          replace H := Option.bind_eq_some_iff.mp H
                          obtain ⟨t741, A360, H⟩ := H
                          replace H : (some t741) = some r := H
                          have A36 := Aside0.mk A360
                          clear A360
                          obtain rfl := Option.some.inj H
                          go_wp2_with (first | ((with_reducible refine gate_callee (f := 48) rfl ?_); refine goesL_ (some 56) rfl rfl Try.func48 (by kernel_rfl) rfl #[.int .u64 a0, .int .u64 a1] rfl (by (try simp only [List.map_toArray, List.map_cons, List.map_nil]); first | done | rfl | (simp only [List.length_drop, List.length_take]; rfl) | (simp only [*]; done)) ?_; (with_reducible refine (fcmp_Less.calls a0 a1 false _ A26.out).mono ?_); rintro e w' ⟨rfl, ⟨nd, rfl⟩⟩; refine ⟨_, rfl, ?_⟩) | (go_at_call 50; (with_reducible refine (gradinelaw13_same.calls kj16  t741 _ A36.out).mono ?_); rintro e w37 ⟨rfl, hb⟩; have n0_ := Aside0.mk (below_step (by repeat (first | (with_reducible first | exact HB.out | apply below_alloc | apply pw_below_drewN | apply below_drew1) | exact HB.out)) hb); clear HB; have HB := n0_; clear n0_; (try clear hb); (try clear hb2); (try clear hk); (try clear hi)))
                          go_ret
                          exact ⟨by first | rfl | (simp [errW_none, errW_some] <;> rfl) | (simp [*, errW_none, errW_some] <;> rfl), by repeat (first | (with_reducible first | exact HB.out | apply below_alloc | apply pw_below_drewN | apply below_drew1) | exact HB.out)⟩

/-- THE ONE PURE STATEMENT of gradinelaw13_FcmpOrder: yours. -/
def gradinelaw13_FcmpOrder.Pure : Prop := ∀ (a0 : Int) (a1 : Int) (a2 : Int), (Lit.int .u64 a0).wf = true → (Lit.int .u64 a1).wf = true → (Lit.int .u64 a2).wf = true → ∃ k, gradinelaw13_FcmpOrder.f k a0 a1 a2 = some true
theorem gradinelaw13_FcmpOrder.walk (P : gradinelaw13_FcmpOrder.Pure) (a0 : Int) (a1 : Int) (a2 : Int) (w : World) (w0 : (Lit.int .u64 a0).wf = true) (w1 : (Lit.int .u64 a1).wf = true) (w2 : (Lit.int .u64 a2).wf = true) :
    Calls Try.prog 10 #[.int .u64 a0, .int .u64 a1, .int .u64 a2] w fun e w' => e = .returned (.bool true) ∧ Below w.heap.size w w' := by
  obtain ⟨k, h⟩ := P a0 a1 a2 w0 w1 w2
  refine (gradinelaw13_FcmpOrder.calls k a0 a1 a2 true w h).mono ?_
  rintro e w' ⟨rfl, hd⟩
  exact ⟨rfl, hd⟩

end Go.Proofs.Ytbpggonjcnakgaa.P
