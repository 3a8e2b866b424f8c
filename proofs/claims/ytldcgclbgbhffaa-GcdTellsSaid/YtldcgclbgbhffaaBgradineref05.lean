/- Functions of one package as Lean functions, and walks: written by a program for this claim. -/
import Derived.Test.YtldcgclbgbhffaaFbase
import Derived.Test.YtldcgclbgbhffaaBgradineref02
import Derived.Test.YtldcgclbgbhffaaBgradineref04
import Derived.Test.YtldcgclbgbhffaaBgradineref03
namespace Go.Proofs.Ytldcgclbgbhffaa.P
open Go.RowKit Go.Proofs.YtldcgclbgbhffaaW.PrintWords Go.Proofs.YtldcgclbgbhffaaW.PrintLast Go.Proofs.YtldcgclbgbhffaaW.PrintMore
attribute [local go_sem] max2_int min2_int max_two min_two max_three min_three max_four min_four   -- for this text's walks alone
set_option linter.unusedVariables false
set_option linter.unusedSimpArgs false

mutual
def gradineref05_Gcd.j0 : Nat → List Int → List Int → Bool → Option (List Int)
 | 0, _, _, _ => none
 | k + 1, x0, x1, x28 => if x28 = true then (if 0 < (x0.length : Int) then (if 0 < (x1.length : Int) then (gradineref05_Gcd.l0 k (rd x0 0) (rd x1 0)) else (none)) else (none)) else ((gradineref02_Even.f k x0).bind fun t1257 => ((gradineref02_Even.f k x1).bind fun t1258 => ((gradineref02_Even.f k x0).bind fun t1259 => ((gradineref02_Shr.f k x0 t1259).bind fun t1260 => ((gradineref02_Even.f k x1).bind fun t1263 => ((gradineref02_Shr.f k x1 t1263).bind fun t1264 => (gradineref05_Gcd.l1 k (mn t1257 t1258) t1260 t1264)))))))
def gradineref05_Gcd.l0 : Nat → Int → Int → Option (List Int)
 | 0, _, _ => none
 | k + 1, x5, x6 => if x6 > 0 then (if x6 = 0 then (none) else (gradineref05_Gcd.l0 k x6 (Int.tmod x5 x6))) else (some (([x5] : List Int)))
def gradineref05_Gcd.l1 : Nat → Int → List Int → List Int → Option (List Int)
 | 0, _, _, _ => none
 | k + 1, x7, x8, x9 => (gradineref02_Cmp.f k x8 x9).bind fun t1267 => (if t1267 = 0 then ((gradineref02_Shl.f k x8 x7).bind fun t1268 => (some t1268)) else (if t1267 < 0 then ((gradineref02_Sub.f k x9 x8).bind fun t1271 => ((gradineref02_Even.f k t1271).bind fun t1274 => ((gradineref02_Shr.f k t1271 t1274).bind fun t1275 => (gradineref05_Gcd.l1 k x7 t1275 x8)))) else ((gradineref02_Sub.f k x8 x9).bind fun t1278 => ((gradineref02_Even.f k t1278).bind fun t1281 => ((gradineref02_Shr.f k t1278 t1281).bind fun t1282 => (gradineref05_Gcd.l1 k x7 t1282 x9))))))
end
def gradineref05_Gcd.f (k : Nat) (l0 : List Int) (l1 : List Int) : Option (List Int) := (gradineref02_Size.f k l0).bind fun t1242 => (if t1242 = 0 then ((gradineref02_Trim.f k l1).bind fun t1243 => (some t1243)) else ((gradineref02_Size.f k l1).bind fun t1246 => (if t1246 = 0 then ((gradineref02_Trim.f k l0).bind fun t1247 => (some t1247)) else ((gradineref02_Size.f k l0).bind fun t1250 => (if t1250 = 1 then ((gradineref02_Size.f k l1).bind fun t1251 => (gradineref05_Gcd.j0 k l0 l1 (t1251 == 1))) else (gradineref05_Gcd.j0 k l0 l1 false))))))
set_option maxHeartbeats 8000000 in
set_option maxRecDepth 100000 in
theorem gradineref05_Gcd.calls (k : Nat) (A0 : Option Addr) (c0 : Nat) (l0 : List Int) (A1 : Option Addr) (c1 : Nat) (l1 : List Int) (r : List Int) (w : World) (hr0 : Kd.C (Kd.int .u64) w A0 l0.length l0) (hc0 : l0.length ≤ c0) (hr1 : Kd.C (Kd.int .u64) w A1 l1.length l1) (hc1 : l1.length ≤ c1) (h : gradineref05_Gcd.f k l0 l1 = some r) :
  Calls Try.prog 91 #[.slice A0 l0.length c0, .slice A1 l1.length c1] w fun e w' => ∃ v0_ : Value, e = .returned (v0_) ∧ Kd.R (Kd.int .u64) 22 w' w.heap.size (fun _ => True) v0_ r ∧ Below w.heap.size w w' := by
 have HR0 := Aside0.mk hr0
 have HC0 := Aside0.mk hc0
 clear hr0 hc0
 have HR1 := Aside0.mk hr1
 have HC1 := Aside0.mk hc1
 clear hr1 hc1
 have HB := Aside0.mk (Below.refl w.heap.size w)
 have H : ((gradineref02_Size.f k l0).bind fun t1242 => (if t1242 = 0 then ((gradineref02_Trim.f k l1).bind fun t1243 => (some t1243)) else ((gradineref02_Size.f k l1).bind fun t1246 => (if t1246 = 0 then ((gradineref02_Trim.f k l0).bind fun t1247 => (some t1247)) else ((gradineref02_Size.f k l0).bind fun t1250 => (if t1250 = 1 then ((gradineref02_Size.f k l1).bind fun t1251 => (gradineref05_Gcd.j0 k l0 l1 (t1251 == 1))) else (gradineref05_Gcd.j0 k l0 l1 false))))))) = some r := h
 clear h
 replace H := Option.bind_eq_some_iff.mp H
 obtain ⟨t1242, A30, H⟩ := H
 replace H : (if t1242 = 0 then ((gradineref02_Trim.f k l1).bind fun t1243 => (some t1243)) else ((gradineref02_Size.f k l1).bind fun t1246 => (if t1246 = 0 then ((gradineref02_Trim.f k l0).bind fun t1247 => (some t1247)) else ((gradineref02_Size.f k l0).bind fun t1250 => (if t1250 = 1 then ((gradineref02_Size.f k l1).bind fun t1251 => (gradineref05_Gcd.j0 k l0 l1 (t1251 == 1))) else (gradineref05_Gcd.j0 k l0 l1 false)))))) = some r := H
 have A3 := Aside0.mk A30
 clear A30
 by_cases c4 : t1242 = 0
 ·rw [if_pos c4] at H
  have c4b0 : (t1242 == 0) = true := beq_iff_eq.mpr c4
  have c4b1 : (t1242 != 0) = false := bne_eq_false_iff_eq.mpr c4
  clear c4
  replace H := Option.bind_eq_some_iff.mp H
  obtain ⟨t1243, A50, H⟩ := H
  replace H : (some t1243) = some r := H
  have A5 := Aside0.mk A50
  clear A50
  obtain rfl := Option.some.inj H
  go_enter Try.func91, Try.ntmps91
  iterate 6 (first | go_quiet (first | (go_at_call 83; (with_reducible refine (gradineref02_Size.calls k _ _ l0 t1242 _ ?side1 ?side2 A3.out).mono ?_); (case side1 => exact cs HR0.out); (case side2 => exact HC0.out); rintro e w' ⟨rfl, ⟨nd, rfl⟩⟩) | (go_at_call 52; (with_reducible refine (gradineref02_Trim.calls k _ _ l1 t1243 _ ?side1 ?side2 A5.out).mono ?_); (case side1 => exact cs HR1.out); (case side2 => exact HC1.out); rintro e w6 ⟨v1244, rfl, ho0, hb⟩; have n0_ := Aside0.mk (Kd.R_lower ho0 (below_size (bb HB.out))); have n1_ := Aside0.mk (below_step (bb HB.out) hb); clear HB; have HO1245 := n0_; have HB := n1_; clear n0_ n1_)) | go_wp2_with (first | (go_at_call 83; (with_reducible refine (gradineref02_Size.calls k _ _ l0 t1242 _ ?side1 ?side2 A3.out).mono ?_); (case side1 => exact cs HR0.out); (case side2 => exact HC0.out); rintro e w' ⟨rfl, ⟨nd, rfl⟩⟩) | (go_at_call 52; (with_reducible refine (gradineref02_Trim.calls k _ _ l1 t1243 _ ?side1 ?side2 A5.out).mono ?_); (case side1 => exact cs HR1.out); (case side2 => exact HC1.out); rintro e w6 ⟨v1244, rfl, ho0, hb⟩; have n0_ := Aside0.mk (Kd.R_lower ho0 (below_size (bb HB.out))); have n1_ := Aside0.mk (below_step (bb HB.out) hb); clear HB; have HO1245 := n0_; have HB := n1_; clear n0_ n1_)) | skip)
  go_ret
  exact ⟨_, by first | rfl | (simp [errW_none, errW_some] <;> rfl) | (simp [*, errW_none, errW_some] <;> rfl), by (with_reducible repeat (first | apply Kd.R_alloc | apply Kd.R_drewN | apply Kd.R_drew)); exact HO1245.out, by repeat (first | (with_reducible first | exact HB.out | apply below_alloc | apply pw_below_drewN | apply below_drew1) | exact HB.out)⟩
 ·rw [if_neg c4] at H
  have c4b0 : (t1242 == 0) = false := beq_eq_false_iff_ne.mpr c4
  have c4b1 : (t1242 != 0) = true := bne_iff_ne.mpr c4
  replace H := Option.bind_eq_some_iff.mp H
  obtain ⟨t1246, A70, H⟩ := H
  replace H : (if t1246 = 0 then ((gradineref02_Trim.f k l0).bind fun t1247 => (some t1247)) else ((gradineref02_Size.f k l0).bind fun t1250 => (if t1250 = 1 then ((gradineref02_Size.f k l1).bind fun t1251 => (gradineref05_Gcd.j0 k l0 l1 (t1251 == 1))) else (gradineref05_Gcd.j0 k l0 l1 false)))) = some r := H
  have A7 := Aside0.mk A70
  clear A70
  by_cases c8 : t1246 = 0
  ·rw [if_pos c8] at H
   have c8b0 : (t1246 == 0) = true := beq_iff_eq.mpr c8
   have c8b1 : (t1246 != 0) = false := bne_eq_false_iff_eq.mpr c8
   clear c8
   replace H := Option.bind_eq_some_iff.mp H
   obtain ⟨t1247, A90, H⟩ := H
   replace H : (some t1247) = some r := H
   have A9 := Aside0.mk A90
   clear A90
   obtain rfl := Option.some.inj H
   go_enter Try.func91, Try.ntmps91
   iterate 6 (first | go_quiet (first | (go_at_call 83; (with_reducible refine (gradineref02_Size.calls k _ _ l0 t1242 _ ?side1 ?side2 A3.out).mono ?_); (case side1 => exact cs HR0.out); (case side2 => exact HC0.out); rintro e w' ⟨rfl, ⟨nd, rfl⟩⟩) | (go_at_call 83; (with_reducible refine (gradineref02_Size.calls k _ _ l1 t1246 _ ?side1 ?side2 A7.out).mono ?_); (case side1 => exact cs HR1.out); (case side2 => exact HC1.out); rintro e w' ⟨rfl, ⟨nd, rfl⟩⟩) | (go_at_call 52; (with_reducible refine (gradineref02_Trim.calls k _ _ l0 t1247 _ ?side1 ?side2 A9.out).mono ?_); (case side1 => exact cs HR0.out); (case side2 => exact HC0.out); rintro e w10 ⟨v1248, rfl, ho0, hb⟩; have n0_ := Aside0.mk (Kd.R_lower ho0 (below_size (bb HB.out))); have n1_ := Aside0.mk (below_step (bb HB.out) hb); clear HB; have HO1249 := n0_; have HB := n1_; clear n0_ n1_)) | go_wp2_with (first | (go_at_call 83; (with_reducible refine (gradineref02_Size.calls k _ _ l0 t1242 _ ?side1 ?side2 A3.out).mono ?_); (case side1 => exact cs HR0.out); (case side2 => exact HC0.out); rintro e w' ⟨rfl, ⟨nd, rfl⟩⟩) | (go_at_call 83; (with_reducible refine (gradineref02_Size.calls k _ _ l1 t1246 _ ?side1 ?side2 A7.out).mono ?_); (case side1 => exact cs HR1.out); (case side2 => exact HC1.out); rintro e w' ⟨rfl, ⟨nd, rfl⟩⟩) | (go_at_call 52; (with_reducible refine (gradineref02_Trim.calls k _ _ l0 t1247 _ ?side1 ?side2 A9.out).mono ?_); (case side1 => exact cs HR0.out); (case side2 => exact HC0.out); rintro e w10 ⟨v1248, rfl, ho0, hb⟩; have n0_ := Aside0.mk (Kd.R_lower ho0 (below_size (bb HB.out))); have n1_ := Aside0.mk (below_step (bb HB.out) hb); clear HB; have HO1249 := n0_; have HB := n1_; clear n0_ n1_)) | skip)
   go_ret
   exact ⟨_, by first | rfl | (simp [errW_none, errW_some] <;> rfl) | (simp [*, errW_none, errW_some] <;> rfl), by (with_reducible repeat (first | apply Kd.R_alloc | apply Kd.R_drewN | apply Kd.R_drew)); exact HO1249.out, by repeat (first | (with_reducible first | exact HB.out | apply below_alloc | apply pw_below_drewN | apply below_drew1) | exact HB.out)⟩
  ·rw [if_neg c8] at H
   have c8b0 : (t1246 == 0) = false := beq_eq_false_iff_ne.mpr c8
   have c8b1 : (t1246 != 0) = true := bne_iff_ne.mpr c8
   have HC11 := Aside0.mk H
   clear H
   go_enter Try.func91, Try.ntmps91
   go_upto_region 5 with (first | (go_at_call 83; (with_reducible refine (gradineref02_Size.calls k _ _ l0 t1242 _ ?side1 ?side2 A3.out).mono ?_); (case side1 => exact cs HR0.out); (case side2 => exact HC0.out); rintro e w' ⟨rfl, ⟨nd, rfl⟩⟩) | (go_at_call 83; (with_reducible refine (gradineref02_Size.calls k _ _ l1 t1246 _ ?side1 ?side2 A7.out).mono ?_); (case side1 => exact cs HR1.out); (case side2 => exact HC1.out); rintro e w' ⟨rfl, ⟨nd, rfl⟩⟩))
   repeat (go_quiet (first | (go_at_call 83; (with_reducible refine (gradineref02_Size.calls k _ _ l0 t1242 _ ?side1 ?side2 A3.out).mono ?_); (case side1 => exact cs HR0.out); (case side2 => exact HC0.out); rintro e w' ⟨rfl, ⟨nd, rfl⟩⟩) | (go_at_call 83; (with_reducible refine (gradineref02_Size.calls k _ _ l1 t1246 _ ?side1 ?side2 A7.out).mono ?_); (case side1 => exact cs HR1.out); (case side2 => exact HC1.out); rintro e w' ⟨rfl, ⟨nd, rfl⟩⟩)); go_upto_region 5 with (first | (go_at_call 83; (with_reducible refine (gradineref02_Size.calls k _ _ l0 t1242 _ ?side1 ?side2 A3.out).mono ?_); (case side1 => exact cs HR0.out); (case side2 => exact HC0.out); rintro e w' ⟨rfl, ⟨nd, rfl⟩⟩) | (go_at_call 83; (with_reducible refine (gradineref02_Size.calls k _ _ l1 t1246 _ ?side1 ?side2 A7.out).mono ?_); (case side1 => exact cs HR1.out); (case side2 => exact HC1.out); rintro e w' ⟨rfl, ⟨nd, rfl⟩⟩)))
   (try simp only [Act.put, List.setIfInBounds_toArray, List.set_cons_zero, List.set_cons_succ])
   go_cut [28] (fun v28 wc => ∃ (kq : Nat) (x28_10 : Bool), v28 = .bool x28_10 ∧ Aside0 (gradineref05_Gcd.j0 kq l0 l1 x28_10 = some r) ∧ Aside0 (kq ≤ k) ∧ Aside0 (Below w.heap.size w wc))
   case first =>
    have H := HC11.out
    clear HC11
    replace H := Option.bind_eq_some_iff.mp H
    obtain ⟨t1250, A120, H⟩ := H
    replace H : (if t1250 = 1 then ((gradineref02_Size.f k l1).bind fun t1251 => (gradineref05_Gcd.j0 k l0 l1 (t1251 == 1))) else (gradineref05_Gcd.j0 k l0 l1 false)) = some r := H
    have A12 := Aside0.mk A120
    clear A120
    obtain rfl : t1242 = t1250 := Option.some.inj (A3.out.symm.trans A12.out) -- both are one
    by_cases c13 : t1242 = 1
    ·rw [if_pos c13] at H
     have c13b0 : (t1242 == 1) = true := beq_iff_eq.mpr c13
     have c13b1 : (t1242 != 1) = false := bne_eq_false_iff_eq.mpr c13
     clear c13
     (first | rw [c13b0] | (simp only [i64_w, i32_w]; rw [c13b0]) | rw [c13b1] | skip)
     replace H := Option.bind_eq_some_iff.mp H
     obtain ⟨t1251, A140, H⟩ := H
     replace H : (gradineref05_Gcd.j0 k l0 l1 (t1251 == 1)) = some r := H
     have A14 := Aside0.mk A140
     clear A140
     obtain rfl : t1246 = t1251 := Option.some.inj (A7.out.symm.trans A14.out) -- both are one
     have H' := Aside0.mk H
     clear H
     iterate 6 (first | go_quiet (first | (go_at_call 83; (with_reducible refine (gradineref02_Size.calls k _ _ l0 t1242 _ ?side1 ?side2 A12.out).mono ?_); (case side1 => exact cs (Kd.C_below HR0.out HB.out)); (case side2 => exact HC0.out); rintro e w' ⟨rfl, ⟨nd, rfl⟩⟩) | (go_at_call 83; (with_reducible refine (gradineref02_Size.calls k _ _ l1 t1246 _ ?side1 ?side2 A14.out).mono ?_); (case side1 => repeat (first | exact (Kd.C_below HR1.out (bb HB.out)) | (with_reducible refine Kd.C_alloc ?_ _) | (with_reducible refine Kd.C_drewN ?_ _) | (with_reducible refine Kd.C_drew ?_))); (case side2 => exact HC1.out); rintro e w' ⟨rfl, ⟨nd, rfl⟩⟩)) | go_wp2_with (first | (go_at_call 83; (with_reducible refine (gradineref02_Size.calls k _ _ l0 t1242 _ ?side1 ?side2 A12.out).mono ?_); (case side1 => exact cs (Kd.C_below HR0.out HB.out)); (case side2 => exact HC0.out); rintro e w' ⟨rfl, ⟨nd, rfl⟩⟩) | (go_at_call 83; (with_reducible refine (gradineref02_Size.calls k _ _ l1 t1246 _ ?side1 ?side2 A14.out).mono ?_); (case side1 => repeat (first | exact (Kd.C_below HR1.out (bb HB.out)) | (with_reducible refine Kd.C_alloc ?_ _) | (with_reducible refine Kd.C_drewN ?_ _) | (with_reducible refine Kd.C_drew ?_))); (case side2 => exact HC1.out); rintro e w' ⟨rfl, ⟨nd, rfl⟩⟩)) | skip)
     go_meet
     case rel => exact ⟨_, ((t1246 == 1)), (by first | rfl | (simp; done) | (simp [*]; done)), H', ⟨by first | omega | exact Nat.le_refl _⟩, ⟨bb HB.out⟩⟩
    ·rw [if_neg c13] at H
     have c13b0 : (t1242 == 1) = false := beq_eq_false_iff_ne.mpr c13
     have c13b1 : (t1242 != 1) = true := bne_iff_ne.mpr c13
     (first | rw [c13b0] | (simp only [i64_w, i32_w]; rw [c13b0]) | rw [c13b1] | skip)
     have H' := Aside0.mk H
     clear H
     iterate 6 (first | go_quiet (first | (go_at_call 83; (with_reducible refine (gradineref02_Size.calls k _ _ l0 t1242 _ ?side1 ?side2 A12.out).mono ?_); (case side1 => exact cs (Kd.C_below HR0.out HB.out)); (case side2 => exact HC0.out); rintro e w' ⟨rfl, ⟨nd, rfl⟩⟩)) | go_wp2_with (first | (go_at_call 83; (with_reducible refine (gradineref02_Size.calls k _ _ l0 t1242 _ ?side1 ?side2 A12.out).mono ?_); (case side1 => exact cs (Kd.C_below HR0.out HB.out)); (case side2 => exact HC0.out); rintro e w' ⟨rfl, ⟨nd, rfl⟩⟩)) | skip)
     go_meet
     case rel => exact ⟨_, (false), (by first | rfl | (simp; done) | (simp [*]; done)), H', ⟨by first | omega | exact Nat.le_refl _⟩, ⟨bb HB.out⟩⟩
   case rest =>
    clear HC11
    try clear c1
    try clear p2
    try clear c4
    try clear c4b0
    try clear c4b1
    try clear c8
    try clear c8b0
    try clear c8b1
    try clear c9
    try clear c13
    try clear c13b0
    try clear c13b1
    obtain ⟨kq, x28_10, rfl, HA, HJ10, HB⟩ := hcut
    cases kq with
    | zero => exact absurd HA.out (by simp [gradineref05_Gcd.j0])
    | succ kj10 =>
     have H := HA.out
     clear HA
     simp only [gradineref05_Gcd.j0] at H
     by_cases c15 : x28_10 = true
     ·subst c15
      have H1 : (if 0 < (l0.length : Int) then (if 0 < (l1.length : Int) then (gradineref05_Gcd.l0 kj10 (rd l0 0) (rd l1 0)) else (none)) else (none)) = some r := by rw [if_pos rfl] at H; exact H
      clear H
      have H := H1
      clear H1
      by_cases c16 : 0 < (l0.length : Int)
      ·rw [if_pos c16] at H
       have c16b0 : decide (0 < (l0.length : Int)) = true := decide_eq_true c16
       have c16b1 : decide (0 < l0.length) = true := decide_eq_true (by omega)
       clear c16
       by_cases c17 : 0 < (l1.length : Int)
       ·rw [if_pos c17] at H
        have c17b0 : decide (0 < (l1.length : Int)) = true := decide_eq_true c17
        have c17b1 : decide (0 < l1.length) = true := decide_eq_true (by omega)
        clear c17
        have H' := Aside0.mk H
        clear H
        have p1252 : 0 ≤ (0 : Int) := (by omega)
        have q1252 : 0 < (l0.length : Int) := of_decide_eq_true (by first | (with_reducible assumption) | assumption)
        obtain ⟨ad1252, e1252, hx1252_0⟩ := Kd.at_int HR0.out 0 p1252 q1252
        cases e1252
        have qi1252 : (0 < l0.length) = True := eq_true (by omega)
        (try rw [show ((0 : Int)).toNat = 0 from rfl] at hx1252_0)
        (try rw [Addr.add_zero'] at hx1252_0)
        replace hx1252_0 := (HB.out.cell (World.block_lt_of_cell? w _ hx1252_0)).trans hx1252_0
        replace p1252 := eq_true p1252
        replace q1252 := eq_true q1252
        have p1253 : 0 ≤ (0 : Int) := (by omega)
        have q1253 : 0 < (l1.length : Int) := of_decide_eq_true (by first | (with_reducible assumption) | assumption)
        obtain ⟨ad1253, e1253, hx1253_0⟩ := Kd.at_int HR1.out 0 p1253 q1253
        cases e1253
        have qi1253 : (0 < l1.length) = True := eq_true (by omega)
        (try rw [show ((0 : Int)).toNat = 0 from rfl] at hx1253_0)
        (try rw [Addr.add_zero'] at hx1253_0)
        replace hx1253_0 := (HB.out.cell (World.block_lt_of_cell? w _ hx1253_0)).trans hx1253_0
        replace p1253 := eq_true p1253
        replace q1253 := eq_true q1253
        go_wp2
        repeat (go_quiet (fail); try go_wp2)
        go_loopg [5, 6] kj10 (fun kq v5 v6 w' => ∃ (x5_2 : Int) (x6_2 : Int), v5 = .int .u64 x5_2 ∧ v6 = .int .u64 x6_2 ∧ Aside0 (gradineref05_Gcd.l0 kq x5_2 x6_2 = some r) ∧ Aside0 (kq ≤ kj10) ∧ Aside0 (Below w.heap.size w w'))
        case atStart => exact ⟨(rd l0 0), (rd l1 0), (by first | rfl | (simp; done) | (simp [*]; done)), (by first | rfl | (simp; done) | (simp [*]; done)), H', ⟨Nat.le_refl _⟩, ⟨bb HB.out⟩⟩
        case round =>
         clear H'
         try clear c1
         try clear p1
         try clear q1
         try clear hx1
         try clear qi1
         try clear p2
         try clear c4
         try clear c4b0
         try clear c4b1
         try clear c8
         try clear c8b0
         try clear c8b1
         try clear c9
         try clear p12
         try clear q12
         try clear hx12
         try clear qi12
         try clear c13
         try clear c13b0
         try clear c13b1
         try clear c15
         try clear c16
         try clear c16b0
         try clear c16b1
         try clear c17
         try clear c17b0
         try clear c17b1
         try clear hx1252_0
         try clear hx1253_0
         try clear p1252
         try clear p1253
         try clear p2
         try clear q1252
         try clear q1253
         obtain ⟨x5_2, x6_2, rfl, rfl, HA, HK2, HB⟩ := hrel
         cases gk with
         | zero => exact absurd HA.out (by simp [gradineref05_Gcd.l0])
         | succ k2 =>
          have H := HA.out
          clear HA
          simp only [gradineref05_Gcd.l0] at H
          by_cases c18 : x6_2 > 0
          ·rw [if_pos c18] at H
           have c18b0 : decide (0 < x6_2) = true := decide_eq_true c18
           clear c18
           by_cases c19 : x6_2 = 0
           ·rw [if_pos c19] at H
            exact absurd H (by simp)
           ·rw [if_neg c19] at H
            have c19b0 : (x6_2 == 0) = false := beq_eq_false_iff_ne.mpr c19
            have c19b1 : (x6_2 != 0) = true := bne_iff_ne.mpr c19
            have H' := Aside0.mk H
            clear H
            go_wp2
            repeat (go_quiet (fail); try go_wp2)
            go_roundg k2
            case measure => have := HJ10.out; have := HK2.out; omega
            case rel => exact ⟨(x6_2), (Int.tmod x5_2 x6_2), (by first | rfl | (simp; done) | (simp [*]; done)), (by first | rfl | (simp; done) | (simp [*]; done)), H', ⟨by have := HJ10.out; have := HK2.out; omega⟩, ⟨bb HB.out⟩⟩
          ·rw [if_neg c18] at H
           have c18b0 : decide (0 < x6_2) = false := decide_eq_false c18
           clear c18
           obtain ⟨y1254, hy1254⟩ : ∃ y_ : List Int, y_ = (([x5_2] : List Int)) := ⟨_, rfl⟩
           replace H : (some y1254) = some r := by first | (rw [hy1254]; with_reducible exact H) | (have H2_ := (Option.bind_some _ _).symm.trans H; rw [hy1254]; with_reducible exact H2_) | (have H2_ := (Option.bind_some _ _).symm.trans H; with_reducible exact H2_) | with_reducible exact H | (rw [hy1254]; exact H) | exact H
           have Ny1254 := Aside0.mk hy1254
           clear hy1254
           obtain rfl := Option.some.inj H
           iterate 6 (first | go_quiet (first | ((with_reducible refine gate_dst (N := 42) rfl ?_); refine Kd.R_lit (Kd.int .u64) _ 22 ?hg (N := 42) ?hd (xs := ([x5_2] : List Int)) (inner := [.int .u64 x5_2]) (ok := fun _ => True) (okp := fun _ => True) ?hr ?hp (fun _ hk => hk) trivial (Below.refl _ _) (Nat.le_refl _) (by simp) ?_; (case hd => rfl); (case hg => rfl); (case hr => first | (go_simp; done) | (go_simp; rfl)); (case hp => exact (Reps.one (show Kd.M (Kd.int .u64) _ _ _ x5_2 [.int .u64 x5_2] from rfl) (Reps.none _ _))); intro v1255 w20 ho21 hb hg_ hnew_; clear hg_ hnew_; (first | rw [← Ny1254.out] at ho21 | (simp only [Int.reduceToNat] at ho21; rw [← Ny1254.out] at ho21)); have n0_ := Aside0.mk (Kd.R_lower ho21 (below_size (bb HB.out))); have n1_ := Aside0.mk (below_step (bb HB.out) hb); clear HB; have HO1256 := n0_; have HB := n1_; clear n0_ n1_; clear hb ho21)) | go_wp2_with (first | ((with_reducible refine gate_dst (N := 42) rfl ?_); refine Kd.R_lit (Kd.int .u64) _ 22 ?hg (N := 42) ?hd (xs := ([x5_2] : List Int)) (inner := [.int .u64 x5_2]) (ok := fun _ => True) (okp := fun _ => True) ?hr ?hp (fun _ hk => hk) trivial (Below.refl _ _) (Nat.le_refl _) (by simp) ?_; (case hd => rfl); (case hg => rfl); (case hr => first | (go_simp; done) | (go_simp; rfl)); (case hp => exact (Reps.one (show Kd.M (Kd.int .u64) _ _ _ x5_2 [.int .u64 x5_2] from rfl) (Reps.none _ _))); intro v1255 w20 ho21 hb hg_ hnew_; clear hg_ hnew_; (first | rw [← Ny1254.out] at ho21 | (simp only [Int.reduceToNat] at ho21; rw [← Ny1254.out] at ho21)); have n0_ := Aside0.mk (Kd.R_lower ho21 (below_size (bb HB.out))); have n1_ := Aside0.mk (below_step (bb HB.out) hb); clear HB; have HO1256 := n0_; have HB := n1_; clear n0_ n1_; clear hb ho21)) | skip)
           go_ret
           exact ⟨_, by first | rfl | (simp [errW_none, errW_some] <;> rfl) | (simp [*, errW_none, errW_some] <;> rfl), by (with_reducible repeat (first | apply Kd.R_alloc | apply Kd.R_drewN | apply Kd.R_drew)); exact HO1256.out, by repeat (first | (with_reducible first | exact HB.out | apply below_alloc | apply pw_below_drewN | apply below_drew1) | exact HB.out)⟩
       ·rw [if_neg c17] at H
        exact absurd H (by simp)
      ·rw [if_neg c16] at H
       exact absurd H (by simp)
     ·replace c15 := Bool.eq_false_iff.mpr c15
      subst c15
      have H1 : ((gradineref02_Even.f kj10 l0).bind fun t1257 => ((gradineref02_Even.f kj10 l1).bind fun t1258 => ((gradineref02_Even.f kj10 l0).bind fun t1259 => ((gradineref02_Shr.f kj10 l0 t1259).bind fun t1260 => ((gradineref02_Even.f kj10 l1).bind fun t1263 => ((gradineref02_Shr.f kj10 l1 t1263).bind fun t1264 => (gradineref05_Gcd.l1 kj10 (mn t1257 t1258) t1260 t1264))))))) = some r := by rw [if_neg (show ¬ (false = true) by decide)] at H; exact H
      clear H
      have H := H1
      clear H1
      replace H := Option.bind_eq_some_iff.mp H
      obtain ⟨t1257, A220, H⟩ := H
      replace H : ((gradineref02_Even.f kj10 l1).bind fun t1258 => ((gradineref02_Even.f kj10 l0).bind fun t1259 => ((gradineref02_Shr.f kj10 l0 t1259).bind fun t1260 => ((gradineref02_Even.f kj10 l1).bind fun t1263 => ((gradineref02_Shr.f kj10 l1 t1263).bind fun t1264 => (gradineref05_Gcd.l1 kj10 (mn t1257 t1258) t1260 t1264)))))) = some r := H
      have A22 := Aside0.mk A220
      clear A220
      replace H := Option.bind_eq_some_iff.mp H
      obtain ⟨t1258, A230, H⟩ := H
      replace H : ((gradineref02_Even.f kj10 l0).bind fun t1259 => ((gradineref02_Shr.f kj10 l0 t1259).bind fun t1260 => ((gradineref02_Even.f kj10 l1).bind fun t1263 => ((gradineref02_Shr.f kj10 l1 t1263).bind fun t1264 => (gradineref05_Gcd.l1 kj10 (mn t1257 t1258) t1260 t1264))))) = some r := H
      have A23 := Aside0.mk A230
      clear A230
      obtain ⟨ji24, hji24⟩ : ∃ j_ : Int, (mn t1257 t1258) = j_ := ⟨_, rfl⟩
      replace H : ((gradineref02_Even.f kj10 l0).bind fun t1259 => ((gradineref02_Shr.f kj10 l0 t1259).bind fun t1260 => ((gradineref02_Even.f kj10 l1).bind fun t1263 => ((gradineref02_Shr.f kj10 l1 t1263).bind fun t1264 => (gradineref05_Gcd.l1 kj10 ji24 t1260 t1264))))) = some r := by first | (rw [hji24] at H; exact H) | (simp only [hji24] at H ⊢; exact H)
      (try rw [hji24] at A22)
      (try rw [hji24] at A23)
      have hji24_ : (if t1258 < t1257 then t1258 else t1257) = ji24 := hji24
      replace H := Option.bind_eq_some_iff.mp H
      obtain ⟨t1259, A250, H⟩ := H
      replace H : ((gradineref02_Shr.f kj10 l0 t1259).bind fun t1260 => ((gradineref02_Even.f kj10 l1).bind fun t1263 => ((gradineref02_Shr.f kj10 l1 t1263).bind fun t1264 => (gradineref05_Gcd.l1 kj10 ji24 t1260 t1264)))) = some r := H
      have A25 := Aside0.mk A250
      clear A250
      obtain rfl : t1257 = t1259 := Option.some.inj (A22.out.symm.trans A25.out) -- both are one
      replace H := Option.bind_eq_some_iff.mp H
      obtain ⟨t1260, A260, H⟩ := H
      replace H : ((gradineref02_Even.f kj10 l1).bind fun t1263 => ((gradineref02_Shr.f kj10 l1 t1263).bind fun t1264 => (gradineref05_Gcd.l1 kj10 ji24 t1260 t1264))) = some r := H
      have A26 := Aside0.mk A260
      clear A260
      replace H := Option.bind_eq_some_iff.mp H
      obtain ⟨t1263, A270, H⟩ := H
      replace H : ((gradineref02_Shr.f kj10 l1 t1263).bind fun t1264 => (gradineref05_Gcd.l1 kj10 ji24 t1260 t1264)) = some r := H
      have A27 := Aside0.mk A270
      clear A270
      obtain rfl : t1258 = t1263 := Option.some.inj (A23.out.symm.trans A27.out) -- both are one
      replace H := Option.bind_eq_some_iff.mp H
      obtain ⟨t1264, A280, H⟩ := H
      replace H : (gradineref05_Gcd.l1 kj10 ji24 t1260 t1264) = some r := H
      have A28 := Aside0.mk A280
      clear A280
      have H' := Aside0.mk H
      clear H
      iterate 6 (first | go_quiet (first | (go_at_call 61; (with_reducible refine (gradineref02_Even.calls kj10 _ _ l0 t1257 _ ?side1 ?side2 A22.out).mono ?_); (case side1 => exact cs (Kd.C_below HR0.out HB.out)); (case side2 => exact HC0.out); rintro e w' ⟨rfl, ⟨nd, rfl⟩⟩) | (go_at_call 61; (with_reducible refine (gradineref02_Even.calls kj10 _ _ l1 t1258 _ ?side1 ?side2 A23.out).mono ?_); (case side1 => repeat (first | exact (Kd.C_below HR1.out (bb HB.out)) | (with_reducible refine Kd.C_alloc ?_ _) | (with_reducible refine Kd.C_drewN ?_ _) | (with_reducible refine Kd.C_drew ?_))); (case side2 => exact HC1.out); rintro e w' ⟨rfl, ⟨nd, rfl⟩⟩) | (go_at_call 61; (with_reducible refine (gradineref02_Even.calls kj10 _ _ l0 t1257 _ ?side1 ?side2 A25.out).mono ?_); (case side1 => repeat (first | exact (Kd.C_below HR0.out (bb HB.out)) | (with_reducible refine Kd.C_alloc ?_ _) | (with_reducible refine Kd.C_drewN ?_ _) | (with_reducible refine Kd.C_drew ?_))); (case side2 => exact HC0.out); rintro e w' ⟨rfl, ⟨nd, rfl⟩⟩) | (go_at_call 67; (with_reducible refine (gradineref02_Shr.calls kj10 _ _ l0 t1257 t1260 _ ?side1 ?side2 A26.out).mono ?_); (case side1 => repeat (first | exact (Kd.C_below HR0.out (bb HB.out)) | (with_reducible refine Kd.C_alloc ?_ _) | (with_reducible refine Kd.C_drewN ?_ _) | (with_reducible refine Kd.C_drew ?_))); (case side2 => exact HC0.out); rintro e w29 ⟨v1261, rfl, ho0, hb⟩; have n0_ := Aside0.mk (Kd.R_lower ho0 (below_size (bb HB.out))); have n1_ := Aside0.mk (below_step (bb HB.out) hb); clear HB; have HO1262 := n0_; have HB := n1_; clear n0_ n1_) | (go_at_call 61; (with_reducible refine (gradineref02_Even.calls kj10 _ _ l1 t1258 _ ?side1 ?side2 A27.out).mono ?_); (case side1 => exact cs (Kd.C_below HR1.out HB.out)); (case side2 => exact HC1.out); rintro e w' ⟨rfl, ⟨nd, rfl⟩⟩) | (go_at_call 67; (with_reducible refine (gradineref02_Shr.calls kj10 _ _ l1 t1258 t1264 _ ?side1 ?side2 A28.out).mono ?_); (case side1 => repeat (first | exact (Kd.C_below HR1.out (bb HB.out)) | (with_reducible refine Kd.C_alloc ?_ _) | (with_reducible refine Kd.C_drewN ?_ _) | (with_reducible refine Kd.C_drew ?_))); (case side2 => exact HC1.out); rintro e w30 ⟨v1265, rfl, ho0, hb⟩; have n0_ := Aside0.mk (Kd.R_elder' (st HO1262.out) (Kd.R_base ho0) hb); have n1_ := Aside0.mk (Kd.R_lower (Kd.R_new' ho0 (Kd.R_lt (st HO1262.out))) (below_size (bb HB.out))); have n2_ := Aside0.mk (below_step (bb HB.out) hb); clear HO1262; clear HB; have HO1262 := n0_; have HO1266 := n1_; have HB := n2_; clear n0_ n1_ n2_)) | go_wp2_with (first | (go_at_call 61; (with_reducible refine (gradineref02_Even.calls kj10 _ _ l0 t1257 _ ?side1 ?side2 A22.out).mono ?_); (case side1 => exact cs (Kd.C_below HR0.out HB.out)); (case side2 => exact HC0.out); rintro e w' ⟨rfl, ⟨nd, rfl⟩⟩) | (go_at_call 61; (with_reducible refine (gradineref02_Even.calls kj10 _ _ l1 t1258 _ ?side1 ?side2 A23.out).mono ?_); (case side1 => repeat (first | exact (Kd.C_below HR1.out (bb HB.out)) | (with_reducible refine Kd.C_alloc ?_ _) | (with_reducible refine Kd.C_drewN ?_ _) | (with_reducible refine Kd.C_drew ?_))); (case side2 => exact HC1.out); rintro e w' ⟨rfl, ⟨nd, rfl⟩⟩) | (go_at_call 61; (with_reducible refine (gradineref02_Even.calls kj10 _ _ l0 t1257 _ ?side1 ?side2 A25.out).mono ?_); (case side1 => repeat (first | exact (Kd.C_below HR0.out (bb HB.out)) | (with_reducible refine Kd.C_alloc ?_ _) | (with_reducible refine Kd.C_drewN ?_ _) | (with_reducible refine Kd.C_drew ?_))); (case side2 => exact HC0.out); rintro e w' ⟨rfl, ⟨nd, rfl⟩⟩) | (go_at_call 67; (with_reducible refine (gradineref02_Shr.calls kj10 _ _ l0 t1257 t1260 _ ?side1 ?side2 A26.out).mono ?_); (case side1 => repeat (first | exact (Kd.C_below HR0.out (bb HB.out)) | (with_reducible refine Kd.C_alloc ?_ _) | (with_reducible refine Kd.C_drewN ?_ _) | (with_reducible refine Kd.C_drew ?_))); (case side2 => exact HC0.out); rintro e w29 ⟨v1261, rfl, ho0, hb⟩; have n0_ := Aside0.mk (Kd.R_lower ho0 (below_size (bb HB.out))); have n1_ := Aside0.mk (below_step (bb HB.out) hb); clear HB; have HO1262 := n0_; have HB := n1_; clear n0_ n1_) | (go_at_call 61; (with_reducible refine (gradineref02_Even.calls kj10 _ _ l1 t1258 _ ?side1 ?side2 A27.out).mono ?_); (case side1 => exact cs (Kd.C_below HR1.out HB.out)); (case side2 => exact HC1.out); rintro e w' ⟨rfl, ⟨nd, rfl⟩⟩) | (go_at_call 67; (with_reducible refine (gradineref02_Shr.calls kj10 _ _ l1 t1258 t1264 _ ?side1 ?side2 A28.out).mono ?_); (case side1 => repeat (first | exact (Kd.C_below HR1.out (bb HB.out)) | (with_reducible refine Kd.C_alloc ?_ _) | (with_reducible refine Kd.C_drewN ?_ _) | (with_reducible refine Kd.C_drew ?_))); (case side2 => exact HC1.out); rintro e w30 ⟨v1265, rfl, ho0, hb⟩; have n0_ := Aside0.mk (Kd.R_elder' (st HO1262.out) (Kd.R_base ho0) hb); have n1_ := Aside0.mk (Kd.R_lower (Kd.R_new' ho0 (Kd.R_lt (st HO1262.out))) (below_size (bb HB.out))); have n2_ := Aside0.mk (below_step (bb HB.out) hb); clear HO1262; clear HB; have HO1262 := n0_; have HO1266 := n1_; have HB := n2_; clear n0_ n1_ n2_)) | skip)
      go_loopg [8, 9] kj10 (fun kq v8 v9 w' => ∃ (x8_2 : List Int) (x9_2 : List Int), Aside0 (gradineref05_Gcd.l1 kq ji24 x8_2 x9_2 = some r) ∧ Aside0 (kq ≤ kj10) ∧ Aside0 (Kd.R (Kd.int .u64) 22 w' w.heap.size (fun k_ => some k_ ≠ (v9 : Value).ownBlock) v8 x8_2) ∧ Aside0 (Kd.R (Kd.int .u64) 22 w' w.heap.size (fun k_ => some k_ ≠ (v8 : Value).ownBlock) v9 x9_2) ∧ Aside0 (Below w.heap.size w w'))
      case atStart => exact ⟨(t1260), (t1264), H', ⟨Nat.le_refl _⟩, ⟨by (with_reducible repeat (first | apply Kd.R_alloc | apply Kd.R_drewN | apply Kd.R_drew)); exact Kd.R_mono HO1262.out (fun _ hk => hk.2)⟩, ⟨by (with_reducible repeat (first | apply Kd.R_alloc | apply Kd.R_drewN | apply Kd.R_drew)); exact Kd.R_mono HO1266.out (fun _ hk => hk.2)⟩, ⟨bb HB.out⟩⟩
      case round =>
       clear H'
       try clear c1
       try clear p1
       try clear q1
       try clear hx1
       try clear qi1
       try clear p2
       try clear c4
       try clear c4b0
       try clear c4b1
       try clear c8
       try clear c8b0
       try clear c8b1
       try clear c9
       try clear p12
       try clear q12
       try clear hx12
       try clear qi12
       try clear c13
       try clear c13b0
       try clear c13b1
       try clear c15
       try clear c16
       try clear c16b0
       try clear c16b1
       try clear c17
       try clear c17b0
       try clear c17b1
       try clear c18
       try clear c18b0
       try clear c19
       try clear c19b0
       try clear c19b1
       try clear hx1252_0
       try clear hx1253_0
       try clear p1
       try clear p12
       try clear p1252
       try clear p1253
       try clear p2
       try clear q1
       try clear q12
       try clear q1252
       try clear q1253
       obtain ⟨x8_2, x9_2, HA, HK2, HO_8, HO_9, HB⟩ := hrel
       cases gk with
       | zero => exact absurd HA.out (by simp [gradineref05_Gcd.l1])
       | succ k2 =>
        have H := HA.out
        clear HA
        simp only [gradineref05_Gcd.l1] at H
        replace H := Option.bind_eq_some_iff.mp H
        obtain ⟨t1267, A310, H⟩ := H
        replace H : (if t1267 = 0 then ((gradineref02_Shl.f k2 x8_2 ji24).bind fun t1268 => (some t1268)) else (if t1267 < 0 then ((gradineref02_Sub.f k2 x9_2 x8_2).bind fun t1271 => ((gradineref02_Even.f k2 t1271).bind fun t1274 => ((gradineref02_Shr.f k2 t1271 t1274).bind fun t1275 => (gradineref05_Gcd.l1 k2 ji24 t1275 x8_2)))) else ((gradineref02_Sub.f k2 x8_2 x9_2).bind fun t1278 => ((gradineref02_Even.f k2 t1278).bind fun t1281 => ((gradineref02_Shr.f k2 t1278 t1281).bind fun t1282 => (gradineref05_Gcd.l1 k2 ji24 t1282 x9_2)))))) = some r := H
        have A31 := Aside0.mk A310
        clear A310
        by_cases c32 : t1267 = 0
        ·rw [if_pos c32] at H
         have c32b0 : (t1267 == 0) = true := beq_iff_eq.mpr c32
         have c32b1 : (t1267 != 0) = false := bne_eq_false_iff_eq.mpr c32
         clear c32
         replace H := Option.bind_eq_some_iff.mp H
         obtain ⟨t1268, A330, H⟩ := H
         replace H : (some t1268) = some r := H
         have A33 := Aside0.mk A330
         clear A330
         obtain rfl := Option.some.inj H
         obtain ⟨Ao34, co34, eo34⟩ := Kd.R_slice HO_8.out
         subst eo34
         obtain ⟨Ao35, co35, eo35⟩ := Kd.R_slice HO_9.out
         subst eo35
         iterate 6 (first | go_quiet (first | (go_at_call 57; (with_reducible refine (gradineref02_Cmp.calls k2 _ _ x8_2 _ _ x9_2 t1267 _ ?side1 ?side2 ?side3 ?side4 A31.out).mono ?_); (case side1 => exact cs (Kd.R_reads' HO_8.out).2.2); (case side2 => exact (Kd.R_reads' HO_8.out).2.1); (case side3 => exact cs (Kd.R_reads' HO_9.out).2.2); (case side4 => exact (Kd.R_reads' HO_9.out).2.1); rintro e w36 ⟨rfl, hb⟩; have n0_ := Aside0.mk (Kd.R_below (st HO_8.out) hb); have n1_ := Aside0.mk (Kd.R_below (st HO_9.out) hb); have n2_ := Aside0.mk (below_step (bb HB.out) hb); clear HO_8; clear HO_9; clear HB; have HO_8 := n0_; have HO_9 := n1_; have HB := n2_; clear n0_ n1_ n2_) | (go_at_call 66; (with_reducible refine (gradineref02_Shl.calls k2 _ _ x8_2 ji24 t1268 _ ?side1 ?side2 A33.out).mono ?_); (case side1 => exact cs (Kd.R_reads' HO_8.out).2.2); (case side2 => exact (Kd.R_reads' HO_8.out).2.1); rintro e w37 ⟨v1269, rfl, ho0, hb⟩; have n0_ := Aside0.mk (Kd.R_elder' (st HO_8.out) (Kd.R_base ho0) hb); have n1_ := Aside0.mk (Kd.R_elder' (st HO_9.out) (Kd.R_base ho0) hb); have n2_ := Aside0.mk (Kd.R_lower (Kd.R_new' (Kd.R_new' ho0 (Kd.R_lt (st HO_8.out))) (Kd.R_lt (st HO_9.out))) (below_size (bb HB.out))); have n3_ := Aside0.mk (below_step (bb HB.out) hb); clear HO_8; clear HO_9; clear HB; have HO_8 := n0_; have HO_9 := n1_; have HO1270 := n2_; have HB := n3_; clear n0_ n1_ n2_ n3_)) | go_wp2_with (first | (go_at_call 57; (with_reducible refine (gradineref02_Cmp.calls k2 _ _ x8_2 _ _ x9_2 t1267 _ ?side1 ?side2 ?side3 ?side4 A31.out).mono ?_); (case side1 => exact cs (Kd.R_reads' HO_8.out).2.2); (case side2 => exact (Kd.R_reads' HO_8.out).2.1); (case side3 => exact cs (Kd.R_reads' HO_9.out).2.2); (case side4 => exact (Kd.R_reads' HO_9.out).2.1); rintro e w36 ⟨rfl, hb⟩; have n0_ := Aside0.mk (Kd.R_below (st HO_8.out) hb); have n1_ := Aside0.mk (Kd.R_below (st HO_9.out) hb); have n2_ := Aside0.mk (below_step (bb HB.out) hb); clear HO_8; clear HO_9; clear HB; have HO_8 := n0_; have HO_9 := n1_; have HB := n2_; clear n0_ n1_ n2_) | (go_at_call 66; (with_reducible refine (gradineref02_Shl.calls k2 _ _ x8_2 ji24 t1268 _ ?side1 ?side2 A33.out).mono ?_); (case side1 => exact cs (Kd.R_reads' HO_8.out).2.2); (case side2 => exact (Kd.R_reads' HO_8.out).2.1); rintro e w37 ⟨v1269, rfl, ho0, hb⟩; have n0_ := Aside0.mk (Kd.R_elder' (st HO_8.out) (Kd.R_base ho0) hb); have n1_ := Aside0.mk (Kd.R_elder' (st HO_9.out) (Kd.R_base ho0) hb); have n2_ := Aside0.mk (Kd.R_lower (Kd.R_new' (Kd.R_new' ho0 (Kd.R_lt (st HO_8.out))) (Kd.R_lt (st HO_9.out))) (below_size (bb HB.out))); have n3_ := Aside0.mk (below_step (bb HB.out) hb); clear HO_8; clear HO_9; clear HB; have HO_8 := n0_; have HO_9 := n1_; have HO1270 := n2_; have HB := n3_; clear n0_ n1_ n2_ n3_)) | skip)
         go_ret
         exact ⟨_, by first | rfl | (simp [errW_none, errW_some] <;> rfl) | (simp only [← hji24]; first | rfl | (simp [errW_none, errW_some] <;> rfl)) | (simp [*, errW_none, errW_some] <;> rfl), by (with_reducible repeat (first | apply Kd.R_alloc | apply Kd.R_drewN | apply Kd.R_drew)); exact Kd.R_mono HO1270.out (fun _ hk => trivial), by repeat (first | (with_reducible first | exact HB.out | apply below_alloc | apply pw_below_drewN | apply below_drew1) | exact HB.out)⟩
        ·rw [if_neg c32] at H
         have c32b0 : (t1267 == 0) = false := beq_eq_false_iff_ne.mpr c32
         have c32b1 : (t1267 != 0) = true := bne_iff_ne.mpr c32
         by_cases c38 : t1267 < 0
         ·rw [if_pos c38] at H
          have c38b0 : decide (t1267 < 0) = true := decide_eq_true c38
          clear c38
          replace H := Option.bind_eq_some_iff.mp H
          obtain ⟨t1271, A390, H⟩ := H
          replace H : ((gradineref02_Even.f k2 t1271).bind fun t1274 => ((gradineref02_Shr.f k2 t1271 t1274).bind fun t1275 => (gradineref05_Gcd.l1 k2 ji24 t1275 x8_2))) = some r := H
          have A39 := Aside0.mk A390
          clear A390
          replace H := Option.bind_eq_some_iff.mp H
          obtain ⟨t1274, A400, H⟩ := H
          replace H : ((gradineref02_Shr.f k2 t1271 t1274).bind fun t1275 => (gradineref05_Gcd.l1 k2 ji24 t1275 x8_2)) = some r := H
          have A40 := Aside0.mk A400
          clear A400
          replace H := Option.bind_eq_some_iff.mp H
          obtain ⟨t1275, A410, H⟩ := H
          replace H : (gradineref05_Gcd.l1 k2 ji24 t1275 x8_2) = some r := H
          have A41 := Aside0.mk A410
          clear A410
          have H' := Aside0.mk H
          clear H
          obtain ⟨Ao42, co42, eo42⟩ := Kd.R_slice HO_8.out
          subst eo42
          obtain ⟨Ao43, co43, eo43⟩ := Kd.R_slice HO_9.out
          subst eo43
          iterate 6 (first | go_quiet (first | (go_at_call 57; (with_reducible refine (gradineref02_Cmp.calls k2 _ _ x8_2 _ _ x9_2 t1267 _ ?side1 ?side2 ?side3 ?side4 A31.out).mono ?_); (case side1 => exact cs (Kd.R_reads' HO_8.out).2.2); (case side2 => exact (Kd.R_reads' HO_8.out).2.1); (case side3 => exact cs (Kd.R_reads' HO_9.out).2.2); (case side4 => exact (Kd.R_reads' HO_9.out).2.1); rintro e w44 ⟨rfl, hb⟩; have n0_ := Aside0.mk (Kd.R_below (st HO_8.out) hb); have n1_ := Aside0.mk (Kd.R_below (st HO_9.out) hb); have n2_ := Aside0.mk (below_step (bb HB.out) hb); clear HO_8; clear HO_9; clear HB; have HO_8 := n0_; have HO_9 := n1_; have HB := n2_; clear n0_ n1_ n2_) | (go_at_call 64; (with_reducible refine (gradineref02_Sub.calls k2 _ _ x9_2 _ _ x8_2 t1271 _ ?side1 ?side2 ?side3 ?side4 A39.out).mono ?_); (case side1 => exact cs (Kd.R_reads' HO_9.out).2.2); (case side2 => exact (Kd.R_reads' HO_9.out).2.1); (case side3 => exact cs (Kd.R_reads' HO_8.out).2.2); (case side4 => exact (Kd.R_reads' HO_8.out).2.1); rintro e w45 ⟨v1272, rfl, ho0, hb⟩; have n0_ := Aside0.mk (Kd.R_elder' (st HO_8.out) (Kd.R_base ho0) hb); have n1_ := Aside0.mk (Kd.R_elder' (st HO_9.out) (Kd.R_base ho0) hb); have n2_ := Aside0.mk (Kd.R_lower (Kd.R_new' (Kd.R_new' ho0 (Kd.R_lt (st HO_8.out))) (Kd.R_lt (st HO_9.out))) (below_size (bb HB.out))); have n3_ := Aside0.mk (below_step (bb HB.out) hb); clear HO_8; clear HO_9; clear HB; have HO_8 := n0_; have HO_9 := n1_; have HO1273 := n2_; have HB := n3_; clear n0_ n1_ n2_ n3_; (try clear hb); (try clear hb2); (try clear hk); (try clear hi); (try clear ho0); obtain ⟨Ao46, co46, eo46⟩ := Kd.R_slice HO1273.out; subst eo46) | (go_at_call 61; (with_reducible refine (gradineref02_Even.calls k2 _ _ t1271 t1274 _ ?side1 ?side2 A40.out).mono ?_); (case side1 => exact cs (Kd.R_reads' HO1273.out).2.2); (case side2 => exact (Kd.R_reads' HO1273.out).2.1); rintro e w' ⟨rfl, ⟨nd, rfl⟩⟩) | (go_at_call 67; (with_reducible refine (gradineref02_Shr.calls k2 _ _ t1271 t1274 t1275 _ ?side1 ?side2 A41.out).mono ?_); (case side1 => exact cs (Kd.R_reads' HO1273.out).2.2); (case side2 => exact (Kd.R_reads' HO1273.out).2.1); rintro e w47 ⟨v1276, rfl, ho0, hb⟩; have n0_ := Aside0.mk (Kd.R_elder' (st HO_8.out) (Kd.R_base ho0) hb); have n1_ := Aside0.mk (Kd.R_elder' (st HO_9.out) (Kd.R_base ho0) hb); have n2_ := Aside0.mk (Kd.R_elder' (st HO1273.out) (Kd.R_base ho0) hb); have n3_ := Aside0.mk (Kd.R_lower (Kd.R_new' (Kd.R_new' (Kd.R_new' ho0 (Kd.R_lt (st HO_8.out))) (Kd.R_lt (st HO_9.out))) (Kd.R_lt (st HO1273.out))) (below_size (bb HB.out))); have n4_ := Aside0.mk (below_step (bb HB.out) hb); clear HO_8; clear HO_9; clear HO1273; clear HB; have HO_8 := n0_; have HO_9 := n1_; have HO1273 := n2_; have HO1277 := n3_; have HB := n4_; clear n0_ n1_ n2_ n3_ n4_)) | go_wp2_with (first | (go_at_call 57; (with_reducible refine (gradineref02_Cmp.calls k2 _ _ x8_2 _ _ x9_2 t1267 _ ?side1 ?side2 ?side3 ?side4 A31.out).mono ?_); (case side1 => exact cs (Kd.R_reads' HO_8.out).2.2); (case side2 => exact (Kd.R_reads' HO_8.out).2.1); (case side3 => exact cs (Kd.R_reads' HO_9.out).2.2); (case side4 => exact (Kd.R_reads' HO_9.out).2.1); rintro e w44 ⟨rfl, hb⟩; have n0_ := Aside0.mk (Kd.R_below (st HO_8.out) hb); have n1_ := Aside0.mk (Kd.R_below (st HO_9.out) hb); have n2_ := Aside0.mk (below_step (bb HB.out) hb); clear HO_8; clear HO_9; clear HB; have HO_8 := n0_; have HO_9 := n1_; have HB := n2_; clear n0_ n1_ n2_) | (go_at_call 64; (with_reducible refine (gradineref02_Sub.calls k2 _ _ x9_2 _ _ x8_2 t1271 _ ?side1 ?side2 ?side3 ?side4 A39.out).mono ?_); (case side1 => exact cs (Kd.R_reads' HO_9.out).2.2); (case side2 => exact (Kd.R_reads' HO_9.out).2.1); (case side3 => exact cs (Kd.R_reads' HO_8.out).2.2); (case side4 => exact (Kd.R_reads' HO_8.out).2.1); rintro e w45 ⟨v1272, rfl, ho0, hb⟩; have n0_ := Aside0.mk (Kd.R_elder' (st HO_8.out) (Kd.R_base ho0) hb); have n1_ := Aside0.mk (Kd.R_elder' (st HO_9.out) (Kd.R_base ho0) hb); have n2_ := Aside0.mk (Kd.R_lower (Kd.R_new' (Kd.R_new' ho0 (Kd.R_lt (st HO_8.out))) (Kd.R_lt (st HO_9.out))) (below_size (bb HB.out))); have n3_ := Aside0.mk (below_step (bb HB.out) hb); clear HO_8; clear HO_9; clear HB; have HO_8 := n0_; have HO_9 := n1_; have HO1273 := n2_; have HB := n3_; clear n0_ n1_ n2_ n3_; (try clear hb); (try clear hb2); (try clear hk); (try clear hi); (try clear ho0); obtain ⟨Ao46, co46, eo46⟩ := Kd.R_slice HO1273.out; subst eo46) | (go_at_call 61; (with_reducible refine (gradineref02_Even.calls k2 _ _ t1271 t1274 _ ?side1 ?side2 A40.out).mono ?_); (case side1 => exact cs (Kd.R_reads' HO1273.out).2.2); (case side2 => exact (Kd.R_reads' HO1273.out).2.1); rintro e w' ⟨rfl, ⟨nd, rfl⟩⟩) | (go_at_call 67; (with_reducible refine (gradineref02_Shr.calls k2 _ _ t1271 t1274 t1275 _ ?side1 ?side2 A41.out).mono ?_); (case side1 => exact cs (Kd.R_reads' HO1273.out).2.2); (case side2 => exact (Kd.R_reads' HO1273.out).2.1); rintro e w47 ⟨v1276, rfl, ho0, hb⟩; have n0_ := Aside0.mk (Kd.R_elder' (st HO_8.out) (Kd.R_base ho0) hb); have n1_ := Aside0.mk (Kd.R_elder' (st HO_9.out) (Kd.R_base ho0) hb); have n2_ := Aside0.mk (Kd.R_elder' (st HO1273.out) (Kd.R_base ho0) hb); have n3_ := Aside0.mk (Kd.R_lower (Kd.R_new' (Kd.R_new' (Kd.R_new' ho0 (Kd.R_lt (st HO_8.out))) (Kd.R_lt (st HO_9.out))) (Kd.R_lt (st HO1273.out))) (below_size (bb HB.out))); have n4_ := Aside0.mk (below_step (bb HB.out) hb); clear HO_8; clear HO_9; clear HO1273; clear HB; have HO_8 := n0_; have HO_9 := n1_; have HO1273 := n2_; have HO1277 := n3_; have HB := n4_; clear n0_ n1_ n2_ n3_ n4_)) | skip)
          go_roundg k2
          case measure => have := HJ10.out; have := HK2.out; omega
          case rel => exact ⟨(t1275), (x8_2), H', ⟨by have := HJ10.out; have := HK2.out; omega⟩, ⟨by (with_reducible repeat (first | apply Kd.R_alloc | apply Kd.R_drewN | apply Kd.R_drew)); exact Kd.R_mono HO1277.out (fun _ hk => hk.1.1.2)⟩, ⟨by (with_reducible repeat (first | apply Kd.R_alloc | apply Kd.R_drewN | apply Kd.R_drew)); exact Kd.R_mono HO_8.out (fun _ hk => hk.2)⟩, ⟨bb HB.out⟩⟩
         ·rw [if_neg c38] at H
          have c38b0 : decide (t1267 < 0) = false := decide_eq_false c38
          clear c38
          replace H := Option.bind_eq_some_iff.mp H
          obtain ⟨t1278, A480, H⟩ := H
          replace H : ((gradineref02_Even.f k2 t1278).bind fun t1281 => ((gradineref02_Shr.f k2 t1278 t1281).bind fun t1282 => (gradineref05_Gcd.l1 k2 ji24 t1282 x9_2))) = some r := H
          have A48 := Aside0.mk A480
          clear A480
          replace H := Option.bind_eq_some_iff.mp H
          obtain ⟨t1281, A490, H⟩ := H
          replace H : ((gradineref02_Shr.f k2 t1278 t1281).bind fun t1282 => (gradineref05_Gcd.l1 k2 ji24 t1282 x9_2)) = some r := H
          have A49 := Aside0.mk A490
          clear A490
          replace H := Option.bind_eq_some_iff.mp H
          obtain ⟨t1282, A500, H⟩ := H
          replace H : (gradineref05_Gcd.l1 k2 ji24 t1282 x9_2) = some r := H
          have A50 := Aside0.mk A500
          clear A500
          have H' := Aside0.mk H
          clear H
          obtain ⟨Ao51, co51, eo51⟩ := Kd.R_slice HO_8.out
          subst eo51
          obtain ⟨Ao52, co52, eo52⟩ := Kd.R_slice HO_9.out
          subst eo52
          iterate 6 (first | go_quiet (first | (go_at_call 57; (with_reducible refine (gradineref02_Cmp.calls k2 _ _ x8_2 _ _ x9_2 t1267 _ ?side1 ?side2 ?side3 ?side4 A31.out).mono ?_); (case side1 => exact cs (Kd.R_reads' HO_8.out).2.2); (case side2 => exact (Kd.R_reads' HO_8.out).2.1); (case side3 => exact cs (Kd.R_reads' HO_9.out).2.2); (case side4 => exact (Kd.R_reads' HO_9.out).2.1); rintro e w53 ⟨rfl, hb⟩; have n0_ := Aside0.mk (Kd.R_below (st HO_8.out) hb); have n1_ := Aside0.mk (Kd.R_below (st HO_9.out) hb); have n2_ := Aside0.mk (below_step (bb HB.out) hb); clear HO_8; clear HO_9; clear HB; have HO_8 := n0_; have HO_9 := n1_; have HB := n2_; clear n0_ n1_ n2_) | (go_at_call 64; (with_reducible refine (gradineref02_Sub.calls k2 _ _ x8_2 _ _ x9_2 t1278 _ ?side1 ?side2 ?side3 ?side4 A48.out).mono ?_); (case side1 => exact cs (Kd.R_reads' HO_8.out).2.2); (case side2 => exact (Kd.R_reads' HO_8.out).2.1); (case side3 => exact cs (Kd.R_reads' HO_9.out).2.2); (case side4 => exact (Kd.R_reads' HO_9.out).2.1); rintro e w54 ⟨v1279, rfl, ho0, hb⟩; have n0_ := Aside0.mk (Kd.R_elder' (st HO_8.out) (Kd.R_base ho0) hb); have n1_ := Aside0.mk (Kd.R_elder' (st HO_9.out) (Kd.R_base ho0) hb); have n2_ := Aside0.mk (Kd.R_lower (Kd.R_new' (Kd.R_new' ho0 (Kd.R_lt (st HO_8.out))) (Kd.R_lt (st HO_9.out))) (below_size (bb HB.out))); have n3_ := Aside0.mk (below_step (bb HB.out) hb); clear HO_8; clear HO_9; clear HB; have HO_8 := n0_; have HO_9 := n1_; have HO1280 := n2_; have HB := n3_; clear n0_ n1_ n2_ n3_; (try clear hb); (try clear hb2); (try clear hk); (try clear hi); (try clear ho0); obtain ⟨Ao55, co55, eo55⟩ := Kd.R_slice HO1280.out; subst eo55) | (go_at_call 61; (with_reducible refine (gradineref02_Even.calls k2 _ _ t1278 t1281 _ ?side1 ?side2 A49.out).mono ?_); (case side1 => exact cs (Kd.R_reads' HO1280.out).2.2); (case side2 => exact (Kd.R_reads' HO1280.out).2.1); rintro e w' ⟨rfl, ⟨nd, rfl⟩⟩) | (go_at_call 67; (with_reducible refine (gradineref02_Shr.calls k2 _ _ t1278 t1281 t1282 _ ?side1 ?side2 A50.out).mono ?_); (case side1 => exact cs (Kd.R_reads' HO1280.out).2.2); (case side2 => exact (Kd.R_reads' HO1280.out).2.1); rintro e w56 ⟨v1283, rfl, ho0, hb⟩; have n0_ := Aside0.mk (Kd.R_elder' (st HO_8.out) (Kd.R_base ho0) hb); have n1_ := Aside0.mk (Kd.R_elder' (st HO_9.out) (Kd.R_base ho0) hb); have n2_ := Aside0.mk (Kd.R_elder' (st HO1280.out) (Kd.R_base ho0) hb); have n3_ := Aside0.mk (Kd.R_lower (Kd.R_new' (Kd.R_new' (Kd.R_new' ho0 (Kd.R_lt (st HO_8.out))) (Kd.R_lt (st HO_9.out))) (Kd.R_lt (st HO1280.out))) (below_size (bb HB.out))); have n4_ := Aside0.mk (below_step (bb HB.out) hb); clear HO_8; clear HO_9; clear HO1280; clear HB; have HO_8 := n0_; have HO_9 := n1_; have HO1280 := n2_; have HO1284 := n3_; have HB := n4_; clear n0_ n1_ n2_ n3_ n4_)) | go_wp2_with (first | (go_at_call 57; (with_reducible refine (gradineref02_Cmp.calls k2 _ _ x8_2 _ _ x9_2 t1267 _ ?side1 ?side2 ?side3 ?side4 A31.out).mono ?_); (case side1 => exact cs (Kd.R_reads' HO_8.out).2.2); (case side2 => exact (Kd.R_reads' HO_8.out).2.1); (case side3 => exact cs (Kd.R_reads' HO_9.out).2.2); (case side4 => exact (Kd.R_reads' HO_9.out).2.1); rintro e w53 ⟨rfl, hb⟩; have n0_ := Aside0.mk (Kd.R_below (st HO_8.out) hb); have n1_ := Aside0.mk (Kd.R_below (st HO_9.out) hb); have n2_ := Aside0.mk (below_step (bb HB.out) hb); clear HO_8; clear HO_9; clear HB; have HO_8 := n0_; have HO_9 := n1_; have HB := n2_; clear n0_ n1_ n2_) | (go_at_call 64; (with_reducible refine (gradineref02_Sub.calls k2 _ _ x8_2 _ _ x9_2 t1278 _ ?side1 ?side2 ?side3 ?side4 A48.out).mono ?_); (case side1 => exact cs (Kd.R_reads' HO_8.out).2.2); (case side2 => exact (Kd.R_reads' HO_8.out).2.1); (case side3 => exact cs (Kd.R_reads' HO_9.out).2.2); (case side4 => exact (Kd.R_reads' HO_9.out).2.1); rintro e w54 ⟨v1279, rfl, ho0, hb⟩; have n0_ := Aside0.mk (Kd.R_elder' (st HO_8.out) (Kd.R_base ho0) hb); have n1_ := Aside0.mk (Kd.R_elder' (st HO_9.out) (Kd.R_base ho0) hb); have n2_ := Aside0.mk (Kd.R_lower (Kd.R_new' (Kd.R_new' ho0 (Kd.R_lt (st HO_8.out))) (Kd.R_lt (st HO_9.out))) (below_size (bb HB.out))); have n3_ := Aside0.mk (below_step (bb HB.out) hb); clear HO_8; clear HO_9; clear HB; have HO_8 := n0_; have HO_9 := n1_; have HO1280 := n2_; have HB := n3_; clear n0_ n1_ n2_ n3_; (try clear hb); (try clear hb2); (try clear hk); (try clear hi); (try clear ho0); obtain ⟨Ao55, co55, eo55⟩ := Kd.R_slice HO1280.out; subst eo55) | (go_at_call 61; (with_reducible refine (gradineref02_Even.calls k2 _ _ t1278 t1281 _ ?side1 ?side2 A49.out).mono ?_); (case side1 => exact cs (Kd.R_reads' HO1280.out).2.2); (case side2 => exact (Kd.R_reads' HO1280.out).2.1); rintro e w' ⟨rfl, ⟨nd, rfl⟩⟩) | (go_at_call 67; (with_reducible refine (gradineref02_Shr.calls k2 _ _ t1278 t1281 t1282 _ ?side1 ?side2 A50.out).mono ?_); (case side1 => exact cs (Kd.R_reads' HO1280.out).2.2); (case side2 => exact (Kd.R_reads' HO1280.out).2.1); rintro e w56 ⟨v1283, rfl, ho0, hb⟩; have n0_ := Aside0.mk (Kd.R_elder' (st HO_8.out) (Kd.R_base ho0) hb); have n1_ := Aside0.mk (Kd.R_elder' (st HO_9.out) (Kd.R_base ho0) hb); have n2_ := Aside0.mk (Kd.R_elder' (st HO1280.out) (Kd.R_base ho0) hb); have n3_ := Aside0.mk (Kd.R_lower (Kd.R_new' (Kd.R_new' (Kd.R_new' ho0 (Kd.R_lt (st HO_8.out))) (Kd.R_lt (st HO_9.out))) (Kd.R_lt (st HO1280.out))) (below_size (bb HB.out))); have n4_ := Aside0.mk (below_step (bb HB.out) hb); clear HO_8; clear HO_9; clear HO1280; clear HB; have HO_8 := n0_; have HO_9 := n1_; have HO1280 := n2_; have HO1284 := n3_; have HB := n4_; clear n0_ n1_ n2_ n3_ n4_)) | skip)
          go_roundg k2
          case measure => have := HJ10.out; have := HK2.out; omega
          case rel => exact ⟨(t1282), (x9_2), H', ⟨by have := HJ10.out; have := HK2.out; omega⟩, ⟨by (with_reducible repeat (first | apply Kd.R_alloc | apply Kd.R_drewN | apply Kd.R_drew)); exact Kd.R_mono HO1284.out (fun _ hk => hk.1.2)⟩, ⟨by (with_reducible repeat (first | apply Kd.R_alloc | apply Kd.R_drewN | apply Kd.R_drew)); exact Kd.R_mono HO_9.out (fun _ hk => hk.2)⟩, ⟨bb HB.out⟩⟩

def gradineref05_Part.f (k : Nat) (l0 : List Int) (l1 : List Int) : Option (List Int) := (gradineref02_Size.f k l1).bind fun t1294 => (if t1294 = 0 then (some ([] : List Int)) else ((gradineref02_Cmp.f k l1 (([1] : List Int))).bind fun t1298 => (if t1298 = 0 then ((gradineref02_Trim.f k l0).bind fun t1299 => (some t1299)) else ((gradineref04_Div.f k l0 l1).bind fun bt1302 => (some bt1302.1)))))
set_option maxHeartbeats 8000000 in
set_option maxRecDepth 100000 in
theorem gradineref05_Part.calls (k : Nat) (A0 : Option Addr) (c0 : Nat) (l0 : List Int) (A1 : Option Addr) (c1 : Nat) (l1 : List Int) (r : List Int) (w : World) (hr0 : Kd.C (Kd.int .u64) w A0 l0.length l0) (hc0 : l0.length ≤ c0) (hr1 : Kd.C (Kd.int .u64) w A1 l1.length l1) (hc1 : l1.length ≤ c1) (h : gradineref05_Part.f k l0 l1 = some r) :
  Calls Try.prog 95 #[.slice A0 l0.length c0, .slice A1 l1.length c1] w fun e w' => ∃ v0_ : Value, e = .returned (v0_) ∧ Kd.R (Kd.int .u64) 22 w' w.heap.size (fun _ => True) v0_ r ∧ Below w.heap.size w w' := by
 have HR0 := Aside0.mk hr0
 have HC0 := Aside0.mk hc0
 clear hr0 hc0
 have HR1 := Aside0.mk hr1
 have HC1 := Aside0.mk hc1
 clear hr1 hc1
 have HB := Aside0.mk (Below.refl w.heap.size w)
 have H : ((gradineref02_Size.f k l1).bind fun t1294 => (if t1294 = 0 then (some ([] : List Int)) else ((gradineref02_Cmp.f k l1 (([1] : List Int))).bind fun t1298 => (if t1298 = 0 then ((gradineref02_Trim.f k l0).bind fun t1299 => (some t1299)) else ((gradineref04_Div.f k l0 l1).bind fun bt1302 => (some bt1302.1)))))) = some r := h
 clear h
 replace H := Option.bind_eq_some_iff.mp H
 obtain ⟨t1294, A30, H⟩ := H
 replace H : (if t1294 = 0 then (some ([] : List Int)) else ((gradineref02_Cmp.f k l1 (([1] : List Int))).bind fun t1298 => (if t1298 = 0 then ((gradineref02_Trim.f k l0).bind fun t1299 => (some t1299)) else ((gradineref04_Div.f k l0 l1).bind fun bt1302 => (some bt1302.1))))) = some r := H
 have A3 := Aside0.mk A30
 clear A30
 by_cases c4 : t1294 = 0
 ·rw [if_pos c4] at H
  have c4b0 : (t1294 == 0) = true := beq_iff_eq.mpr c4
  have c4b1 : (t1294 != 0) = false := bne_eq_false_iff_eq.mpr c4
  clear c4
  obtain rfl := Option.some.inj H
  go_enter Try.func95, Try.ntmps95
  go_wp2_with (first | ((with_reducible refine gate_callee (f := 83) rfl ?_); refine goesL_ (some 8) rfl rfl Try.func83 (by kernel_rfl) rfl #[.slice A1 l1.length c1] rfl (by (try simp only [List.map_toArray, List.map_cons, List.map_nil]); first | done | rfl | (simp only [List.length_drop, List.length_take]; rfl) | (simp only [*]; done)) ?_; (with_reducible refine (gradineref02_Size.calls k _ _ l1 t1294 _ ?side1 ?side2 A3.out).mono ?_); (case side1 => exact cs HR1.out); (case side2 => exact HC1.out); rintro e w' ⟨rfl, ⟨nd, rfl⟩⟩; refine ⟨_, rfl, ?_⟩))
  go_ret
  exact ⟨_, by first | rfl | (simp [errW_none, errW_some] <;> rfl) | (simp [*, errW_none, errW_some] <;> rfl), by first | exact Kd.R_nil _ _ _ _ _ | exact Kd.N_nil _ _ _ _ _ | exact Kd.V_nil _ _ _ _ _ | exact Kd.Q_nil _ _ _ _ _ | exact Kd.S_nil _ _ _ _ _, by repeat (first | (with_reducible first | exact HB.out | apply below_alloc | apply pw_below_drewN | apply below_drew1) | exact HB.out)⟩
 ·rw [if_neg c4] at H
  have c4b0 : (t1294 == 0) = false := beq_eq_false_iff_ne.mpr c4
  have c4b1 : (t1294 != 0) = true := bne_iff_ne.mpr c4
  obtain ⟨y1295, hy1295⟩ : ∃ y_ : List Int, y_ = (([1] : List Int)) := ⟨_, rfl⟩
  replace H : ((gradineref02_Cmp.f k l1 y1295).bind fun t1298 => (if t1298 = 0 then ((gradineref02_Trim.f k l0).bind fun t1299 => (some t1299)) else ((gradineref04_Div.f k l0 l1).bind fun bt1302 => (some bt1302.1)))) = some r := by first | (rw [hy1295]; with_reducible exact H) | (have H2_ := (Option.bind_some _ _).symm.trans H; rw [hy1295]; with_reducible exact H2_) | (have H2_ := (Option.bind_some _ _).symm.trans H; with_reducible exact H2_) | with_reducible exact H | (rw [hy1295]; exact H) | exact H
  have Ny1295 := Aside0.mk hy1295
  clear hy1295
  replace H := Option.bind_eq_some_iff.mp H
  obtain ⟨t1298, A50, H⟩ := H
  replace H : (if t1298 = 0 then ((gradineref02_Trim.f k l0).bind fun t1299 => (some t1299)) else ((gradineref04_Div.f k l0 l1).bind fun bt1302 => (some bt1302.1))) = some r := H
  have A5 := Aside0.mk A50
  clear A50
  by_cases c6 : t1298 = 0
  ·rw [if_pos c6] at H
   have c6b0 : (t1298 == 0) = true := beq_iff_eq.mpr c6
   have c6b1 : (t1298 != 0) = false := bne_eq_false_iff_eq.mpr c6
   clear c6
   replace H := Option.bind_eq_some_iff.mp H
   obtain ⟨t1299, A70, H⟩ := H
   replace H : (some t1299) = some r := H
   have A7 := Aside0.mk A70
   clear A70
   obtain rfl := Option.some.inj H
   go_enter Try.func95, Try.ntmps95
   go_wp2_with (first | ((with_reducible refine gate_callee (f := 83) rfl ?_); refine goesL_ (some 8) rfl rfl Try.func83 (by kernel_rfl) rfl #[.slice A1 l1.length c1] rfl (by (try simp only [List.map_toArray, List.map_cons, List.map_nil]); first | done | rfl | (simp only [List.length_drop, List.length_take]; rfl) | (simp only [*]; done)) ?_; (with_reducible refine (gradineref02_Size.calls k _ _ l1 t1294 _ ?side1 ?side2 A3.out).mono ?_); (case side1 => exact cs HR1.out); (case side2 => exact HC1.out); rintro e w' ⟨rfl, ⟨nd, rfl⟩⟩; refine ⟨_, rfl, ?_⟩) | ((with_reducible refine gate_dst (N := 11) rfl ?_); refine Kd.R_lit (Kd.int .u64) _ 22 ?hg (N := 11) ?hd (xs := ([1] : List Int)) (inner := [.int .u64 1]) (ok := fun _ => True) (okp := fun _ => True) ?hr ?hp (fun _ hk => hk) trivial (Below.refl _ _) (Nat.le_refl _) (by simp) ?_; (case hd => rfl); (case hg => rfl); (case hr => first | (go_simp; done) | (go_simp; rfl)); (case hp => exact (Reps.one (show Kd.M (Kd.int .u64) _ _ _ 1 [.int .u64 1] from rfl) (Reps.none _ _))); intro v1296 w8 ho9 hb hg_ hnew_; clear hg_ hnew_; (first | rw [← Ny1295.out] at ho9 | (simp only [Int.reduceToNat] at ho9; rw [← Ny1295.out] at ho9)); have n0_ := Aside0.mk (Kd.R_lower ho9 (below_size (bb HB.out))); have n1_ := Aside0.mk (below_step (bb HB.out) hb); clear HB; have HO1297 := n0_; have HB := n1_; clear n0_ n1_; clear hb ho9; obtain ⟨Ao10, co10, eo10⟩ := Kd.R_slice HO1297.out; subst eo10) | ((with_reducible refine gate_callee (f := 57) rfl ?_); refine goesL_ (some 12) rfl rfl Try.func57 (by kernel_rfl) rfl #[.slice A1 l1.length c1, .slice Ao10 y1295.length co10] rfl (by (try simp only [List.map_toArray, List.map_cons, List.map_nil]); first | done | rfl | (simp only [List.length_drop, List.length_take]; rfl) | (simp only [*]; done)) ?_; (with_reducible refine (gradineref02_Cmp.calls k _ _ l1 _ _ y1295 t1298 _ ?side1 ?side2 ?side3 ?side4 A5.out).mono ?_); (case side1 => exact cs (Kd.C_below HR1.out HB.out)); (case side2 => exact HC1.out); (case side3 => exact cs (Kd.R_reads' HO1297.out).2.2); (case side4 => exact (Kd.R_reads' HO1297.out).2.1); rintro e w11 ⟨rfl, hb⟩; refine ⟨_, rfl, ?_⟩; have n0_ := Aside0.mk (Kd.R_below (st HO1297.out) hb); have n1_ := Aside0.mk (below_step (bb HB.out) hb); clear HO1297; clear HB; have HO1297 := n0_; have HB := n1_; clear n0_ n1_) | ((with_reducible refine gate_callee (f := 52) rfl ?_); refine goesL_ (some 15) rfl rfl Try.func52 (by kernel_rfl) rfl #[.slice A0 l0.length c0] rfl (by (try simp only [List.map_toArray, List.map_cons, List.map_nil]); first | done | rfl | (simp only [List.length_drop, List.length_take]; rfl) | (simp only [*]; done)) ?_; (with_reducible refine (gradineref02_Trim.calls k _ _ l0 t1299 _ ?side1 ?side2 A7.out).mono ?_); (case side1 => exact cs (Kd.C_below HR0.out HB.out)); (case side2 => exact HC0.out); rintro e w12 ⟨v1300, rfl, ho0, hb⟩; refine ⟨_, rfl, ?_⟩; have n0_ := Aside0.mk (Kd.R_elder' (st HO1297.out) (Kd.R_base ho0) hb); have n1_ := Aside0.mk (Kd.R_lower (Kd.R_new' ho0 (Kd.R_lt (st HO1297.out))) (below_size (bb HB.out))); have n2_ := Aside0.mk (below_step (bb HB.out) hb); clear HO1297; clear HB; have HO1297 := n0_; have HO1301 := n1_; have HB := n2_; clear n0_ n1_ n2_))
   go_ret
   exact ⟨_, by first | rfl | (simp [errW_none, errW_some] <;> rfl) | (simp [*, errW_none, errW_some] <;> rfl), by (with_reducible repeat (first | apply Kd.R_alloc | apply Kd.R_drewN | apply Kd.R_drew)); exact Kd.R_mono HO1301.out (fun _ hk => trivial), by repeat (first | (with_reducible first | exact HB.out | apply below_alloc | apply pw_below_drewN | apply below_drew1) | exact HB.out)⟩
  ·rw [if_neg c6] at H
   have c6b0 : (t1298 == 0) = false := beq_eq_false_iff_ne.mpr c6
   have c6b1 : (t1298 != 0) = true := bne_iff_ne.mpr c6
   replace H := Option.bind_eq_some_iff.mp H
   obtain ⟨⟨t1302, t1303⟩, A130, H⟩ := H
   replace H : (some t1302) = some r := H
   have A13 := Aside0.mk A130
   clear A130
   obtain rfl := Option.some.inj H
   go_enter Try.func95, Try.ntmps95
   go_wp2_with (first | ((with_reducible refine gate_callee (f := 83) rfl ?_); refine goesL_ (some 8) rfl rfl Try.func83 (by kernel_rfl) rfl #[.slice A1 l1.length c1] rfl (by (try simp only [List.map_toArray, List.map_cons, List.map_nil]); first | done | rfl | (simp only [List.length_drop, List.length_take]; rfl) | (simp only [*]; done)) ?_; (with_reducible refine (gradineref02_Size.calls k _ _ l1 t1294 _ ?side1 ?side2 A3.out).mono ?_); (case side1 => exact cs HR1.out); (case side2 => exact HC1.out); rintro e w' ⟨rfl, ⟨nd, rfl⟩⟩; refine ⟨_, rfl, ?_⟩) | ((with_reducible refine gate_dst (N := 11) rfl ?_); refine Kd.R_lit (Kd.int .u64) _ 22 ?hg (N := 11) ?hd (xs := ([1] : List Int)) (inner := [.int .u64 1]) (ok := fun _ => True) (okp := fun _ => True) ?hr ?hp (fun _ hk => hk) trivial (Below.refl _ _) (Nat.le_refl _) (by simp) ?_; (case hd => rfl); (case hg => rfl); (case hr => first | (go_simp; done) | (go_simp; rfl)); (case hp => exact (Reps.one (show Kd.M (Kd.int .u64) _ _ _ 1 [.int .u64 1] from rfl) (Reps.none _ _))); intro v1296 w14 ho15 hb hg_ hnew_; clear hg_ hnew_; (first | rw [← Ny1295.out] at ho15 | (simp only [Int.reduceToNat] at ho15; rw [← Ny1295.out] at ho15)); have n0_ := Aside0.mk (Kd.R_lower ho15 (below_size (bb HB.out))); have n1_ := Aside0.mk (below_step (bb HB.out) hb); clear HB; have HO1297 := n0_; have HB := n1_; clear n0_ n1_; clear hb ho15; obtain ⟨Ao16, co16, eo16⟩ := Kd.R_slice HO1297.out; subst eo16) | ((with_reducible refine gate_callee (f := 57) rfl ?_); refine goesL_ (some 12) rfl rfl Try.func57 (by kernel_rfl) rfl #[.slice A1 l1.length c1, .slice Ao16 y1295.length co16] rfl (by (try simp only [List.map_toArray, List.map_cons, List.map_nil]); first | done | rfl | (simp only [List.length_drop, List.length_take]; rfl) | (simp only [*]; done)) ?_; (with_reducible refine (gradineref02_Cmp.calls k _ _ l1 _ _ y1295 t1298 _ ?side1 ?side2 ?side3 ?side4 A5.out).mono ?_); (case side1 => exact cs (Kd.C_below HR1.out HB.out)); (case side2 => exact HC1.out); (case side3 => exact cs (Kd.R_reads' HO1297.out).2.2); (case side4 => exact (Kd.R_reads' HO1297.out).2.1); rintro e w17 ⟨rfl, hb⟩; refine ⟨_, rfl, ?_⟩; have n0_ := Aside0.mk (Kd.R_below (st HO1297.out) hb); have n1_ := Aside0.mk (below_step (bb HB.out) hb); clear HO1297; clear HB; have HO1297 := n0_; have HB := n1_; clear n0_ n1_) | ((with_reducible refine gate_callee (f := 84) rfl ?_); refine goesL_ (some 19) rfl rfl Try.func84 (by kernel_rfl) rfl #[.slice A0 l0.length c0, .slice A1 l1.length c1] rfl (by (try simp only [List.map_toArray, List.map_cons, List.map_nil]); first | done | rfl | (simp only [List.length_drop, List.length_take]; rfl) | (simp only [*]; done)) ?_; (with_reducible refine (gradineref04_Div.calls k _ _ l0 _ _ l1 t1302 t1303 _ ?side1 ?side2 ?side3 ?side4 A13.out).mono ?_); (case side1 => exact cs (Kd.C_below HR0.out HB.out)); (case side2 => exact HC0.out); (case side3 => exact cs (Kd.C_below HR1.out HB.out)); (case side4 => exact HC1.out); rintro e w18 ⟨v1304, v1306, rfl, ho0, ho1, hb⟩; refine ⟨_, rfl, ?_⟩; have n0_ := Aside0.mk (Kd.R_mono (Kd.R_told (Kd.R_told (Kd.R_old (st HO1297.out) hb) (Kd.R_base ho0)) (Kd.R_base ho1)) (fun _ h_ => h_.1)); have n1_ := Aside0.mk (Kd.R_lower (Kd.R_new' ho0 (Kd.R_lt (st HO1297.out))) (below_size (bb HB.out))); have n2_ := Aside0.mk (Kd.R_lower (Kd.R_new' ho1 (Kd.R_lt (st HO1297.out))) (below_size (bb HB.out))); have n3_ := Aside0.mk (below_step (bb HB.out) hb); clear HO1297; clear HB; have HO1297 := n0_; have HO1305 := n1_; have HO1307 := n2_; have HB := n3_; clear n0_ n1_ n2_ n3_))
   go_ret
   exact ⟨_, by first | rfl | (simp [errW_none, errW_some] <;> rfl) | (simp [*, errW_none, errW_some] <;> rfl), by (with_reducible repeat (first | apply Kd.R_alloc | apply Kd.R_drewN | apply Kd.R_drew)); exact Kd.R_mono HO1305.out (fun _ hk => trivial), by repeat (first | (with_reducible first | exact HB.out | apply below_alloc | apply pw_below_drewN | apply below_drew1) | exact HB.out)⟩

def gradineref05_Lcm.f (k : Nat) (l0 : List Int) (l1 : List Int) : Option (List Int) := (gradineref05_Gcd.f k l0 l1).bind fun t1308 => ((gradineref05_Part.f k l1 t1308).bind fun t1311 => ((gradineref03_Mul.f k l0 t1311).bind fun t1314 => (some t1314)))
set_option maxHeartbeats 8000000 in
set_option maxRecDepth 100000 in
theorem gradineref05_Lcm.calls (k : Nat) (A0 : Option Addr) (c0 : Nat) (l0 : List Int) (A1 : Option Addr) (c1 : Nat) (l1 : List Int) (r : List Int) (w : World) (hr0 : Kd.C (Kd.int .u64) w A0 l0.length l0) (hc0 : l0.length ≤ c0) (hr1 : Kd.C (Kd.int .u64) w A1 l1.length l1) (hc1 : l1.length ≤ c1) (h : gradineref05_Lcm.f k l0 l1 = some r) :
  Calls Try.prog 94 #[.slice A0 l0.length c0, .slice A1 l1.length c1] w fun e w' => ∃ v0_ : Value, e = .returned (v0_) ∧ Kd.R (Kd.int .u64) 22 w' w.heap.size (fun _ => True) v0_ r ∧ Below w.heap.size w w' := by
 have HR0 := Aside0.mk hr0
 have HC0 := Aside0.mk hc0
 clear hr0 hc0
 have HR1 := Aside0.mk hr1
 have HC1 := Aside0.mk hc1
 clear hr1 hc1
 have HB := Aside0.mk (Below.refl w.heap.size w)
 have H : ((gradineref05_Gcd.f k l0 l1).bind fun t1308 => ((gradineref05_Part.f k l1 t1308).bind fun t1311 => ((gradineref03_Mul.f k l0 t1311).bind fun t1314 => (some t1314)))) = some r := h
 clear h
 replace H := Option.bind_eq_some_iff.mp H
 obtain ⟨t1308, A30, H⟩ := H
 replace H : ((gradineref05_Part.f k l1 t1308).bind fun t1311 => ((gradineref03_Mul.f k l0 t1311).bind fun t1314 => (some t1314))) = some r := H
 have A3 := Aside0.mk A30
 clear A30
 replace H := Option.bind_eq_some_iff.mp H
 obtain ⟨t1311, A40, H⟩ := H
 replace H : ((gradineref03_Mul.f k l0 t1311).bind fun t1314 => (some t1314)) = some r := H
 have A4 := Aside0.mk A40
 clear A40
 replace H := Option.bind_eq_some_iff.mp H
 obtain ⟨t1314, A50, H⟩ := H
 replace H : (some t1314) = some r := H
 have A5 := Aside0.mk A50
 clear A50
 obtain rfl := Option.some.inj H
 go_enter Try.func94, Try.ntmps94
 go_wp2_with (first | ((with_reducible refine gate_callee (f := 91) rfl ?_); refine goesL_ (some 9) rfl rfl Try.func91 (by kernel_rfl) rfl #[.slice A0 l0.length c0, .slice A1 l1.length c1] rfl (by (try simp only [List.map_toArray, List.map_cons, List.map_nil]); first | done | rfl | (simp only [List.length_drop, List.length_take]; rfl) | (simp only [*]; done)) ?_; (with_reducible refine (gradineref05_Gcd.calls k _ _ l0 _ _ l1 t1308 _ ?side1 ?side2 ?side3 ?side4 A3.out).mono ?_); (case side1 => exact cs HR0.out); (case side2 => exact HC0.out); (case side3 => exact cs HR1.out); (case side4 => exact HC1.out); rintro e w6 ⟨v1309, rfl, ho0, hb⟩; refine ⟨_, rfl, ?_⟩; have n0_ := Aside0.mk (Kd.R_lower ho0 (below_size (bb HB.out))); have n1_ := Aside0.mk (below_step (bb HB.out) hb); clear HB; have HO1310 := n0_; have HB := n1_; clear n0_ n1_; (try clear hb); (try clear hb2); (try clear hk); (try clear hi); (try clear ho0); obtain ⟨Ao7, co7, eo7⟩ := Kd.R_slice HO1310.out; subst eo7) | ((with_reducible refine gate_callee (f := 95) rfl ?_); refine goesL_ (some 10) rfl rfl Try.func95 (by kernel_rfl) rfl #[.slice A1 l1.length c1, .slice Ao7 t1308.length co7] rfl (by (try simp only [List.map_toArray, List.map_cons, List.map_nil]); first | done | rfl | (simp only [List.length_drop, List.length_take]; rfl) | (simp only [*]; done)) ?_; (with_reducible refine (gradineref05_Part.calls k _ _ l1 _ _ t1308 t1311 _ ?side1 ?side2 ?side3 ?side4 A4.out).mono ?_); (case side1 => exact cs (Kd.C_below HR1.out HB.out)); (case side2 => exact HC1.out); (case side3 => exact cs (Kd.R_reads' HO1310.out).2.2); (case side4 => exact (Kd.R_reads' HO1310.out).2.1); rintro e w8 ⟨v1312, rfl, ho0, hb⟩; refine ⟨_, rfl, ?_⟩; have n0_ := Aside0.mk (Kd.R_elder' (st HO1310.out) (Kd.R_base ho0) hb); have n1_ := Aside0.mk (Kd.R_lower (Kd.R_new' ho0 (Kd.R_lt (st HO1310.out))) (below_size (bb HB.out))); have n2_ := Aside0.mk (below_step (bb HB.out) hb); clear HO1310; clear HB; have HO1310 := n0_; have HO1313 := n1_; have HB := n2_; clear n0_ n1_ n2_; (try clear hb); (try clear hb2); (try clear hk); (try clear hi); (try clear ho0); obtain ⟨Ao9, co9, eo9⟩ := Kd.R_slice HO1313.out; subst eo9) | ((with_reducible refine gate_callee (f := 77) rfl ?_); refine goesL_ (some 11) rfl rfl Try.func77 (by kernel_rfl) rfl #[.slice A0 l0.length c0, .slice Ao9 t1311.length co9] rfl (by (try simp only [List.map_toArray, List.map_cons, List.map_nil]); first | done | rfl | (simp only [List.length_drop, List.length_take]; rfl) | (simp only [*]; done)) ?_; (with_reducible refine (gradineref03_Mul.calls k _ _ l0 _ _ t1311 t1314 _ ?side1 ?side2 ?side3 ?side4 A5.out).mono ?_); (case side1 => exact cs (Kd.C_below HR0.out HB.out)); (case side2 => exact HC0.out); (case side3 => exact cs (Kd.R_reads' HO1313.out).2.2); (case side4 => exact (Kd.R_reads' HO1313.out).2.1); rintro e w10 ⟨v1315, rfl, ho0, hb⟩; refine ⟨_, rfl, ?_⟩; have n0_ := Aside0.mk (Kd.R_elder' (st HO1310.out) (Kd.R_base ho0) hb); have n1_ := Aside0.mk (Kd.R_elder' (st HO1313.out) (Kd.R_base ho0) hb); have n2_ := Aside0.mk (Kd.R_lower (Kd.R_new' (Kd.R_new' ho0 (Kd.R_lt (st HO1310.out))) (Kd.R_lt (st HO1313.out))) (below_size (bb HB.out))); have n3_ := Aside0.mk (below_step (bb HB.out) hb); clear HO1310; clear HO1313; clear HB; have HO1310 := n0_; have HO1313 := n1_; have HO1316 := n2_; have HB := n3_; clear n0_ n1_ n2_ n3_; (try clear hb); (try clear hb2); (try clear hk); (try clear hi); (try clear ho0)))
 go_ret
 exact ⟨_, by first | rfl | (simp [errW_none, errW_some] <;> rfl) | (simp [*, errW_none, errW_some] <;> rfl), by (with_reducible repeat (first | apply Kd.R_alloc | apply Kd.R_drewN | apply Kd.R_drew)); exact Kd.R_mono HO1316.out (fun _ hk => trivial), by repeat (first | (with_reducible first | exact HB.out | apply below_alloc | apply pw_below_drewN | apply below_drew1) | exact HB.out)⟩

end Go.Proofs.Ytldcgclbgbhffaa.P
