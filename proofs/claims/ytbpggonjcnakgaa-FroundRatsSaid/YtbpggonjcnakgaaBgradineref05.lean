/- Functions of one package as Lean functions, and walks: written by a program for this claim. -/
import Derived.Test.YtbpggonjcnakgaaFbase
import Derived.Test.YtbpggonjcnakgaaBgradineref02
import Derived.Test.YtbpggonjcnakgaaBgradineref04
namespace Go.Proofs.Ytbpggonjcnakgaa.P
open Go.RowKit Go.Proofs.YtbpggonjcnakgaaW.PrintWords Go.Proofs.YtbpggonjcnakgaaW.PrintLast Go.Proofs.YtbpggonjcnakgaaW.PrintMore
attribute [local go_sem] max2_int min2_int max_two min_two max_three min_three max_four min_four   -- for this text's walks alone
set_option linter.unusedVariables false
set_option linter.unusedSimpArgs false

mutual
def gradineref05_Gcd.j0 : Nat → List Int → List Int → Bool → Option (List Int)
 | 0, _, _, _ => none
 | k + 1, x0, x1, x28 => if x28 = true then (if 0 < (x0.length : Int) then (if 0 < (x1.length : Int) then (gradineref05_Gcd.l0 k (rd x0 0) (rd x1 0)) else (none)) else (none)) else ((gradineref02_Even.f k x0).bind fun t219 => ((gradineref02_Even.f k x1).bind fun t220 => ((gradineref02_Even.f k x0).bind fun t221 => ((gradineref02_Shr.f k x0 t221).bind fun t222 => ((gradineref02_Even.f k x1).bind fun t225 => ((gradineref02_Shr.f k x1 t225).bind fun t226 => (gradineref05_Gcd.l1 k (mn t219 t220) t222 t226)))))))
def gradineref05_Gcd.l0 : Nat → Int → Int → Option (List Int)
 | 0, _, _ => none
 | k + 1, x5, x6 => if x6 > 0 then (if x6 = 0 then (none) else (gradineref05_Gcd.l0 k x6 (Int.tmod x5 x6))) else (some (([x5] : List Int)))
def gradineref05_Gcd.l1 : Nat → Int → List Int → List Int → Option (List Int)
 | 0, _, _, _ => none
 | k + 1, x7, x8, x9 => (gradineref02_Cmp.f k x8 x9).bind fun t229 => (if t229 = 0 then ((gradineref02_Shl.f k x8 x7).bind fun t230 => (some t230)) else (if t229 < 0 then ((gradineref02_Sub.f k x9 x8).bind fun t233 => ((gradineref02_Even.f k t233).bind fun t236 => ((gradineref02_Shr.f k t233 t236).bind fun t237 => (gradineref05_Gcd.l1 k x7 t237 x8)))) else ((gradineref02_Sub.f k x8 x9).bind fun t240 => ((gradineref02_Even.f k t240).bind fun t243 => ((gradineref02_Shr.f k t240 t243).bind fun t244 => (gradineref05_Gcd.l1 k x7 t244 x9))))))
end
def gradineref05_Gcd.f (k : Nat) (l0 : List Int) (l1 : List Int) : Option (List Int) := (gradineref02_Size.f k l0).bind fun t204 => (if t204 = 0 then ((gradineref02_Trim.f k l1).bind fun t205 => (some t205)) else ((gradineref02_Size.f k l1).bind fun t208 => (if t208 = 0 then ((gradineref02_Trim.f k l0).bind fun t209 => (some t209)) else ((gradineref02_Size.f k l0).bind fun t212 => (if t212 = 1 then ((gradineref02_Size.f k l1).bind fun t213 => (gradineref05_Gcd.j0 k l0 l1 (t213 == 1))) else (gradineref05_Gcd.j0 k l0 l1 false))))))
set_option maxHeartbeats 8000000 in
set_option maxRecDepth 100000 in
theorem gradineref05_Gcd.calls (k : Nat) (A0 : Option Addr) (c0 : Nat) (l0 : List Int) (A1 : Option Addr) (c1 : Nat) (l1 : List Int) (r : List Int) (w : World) (hr0 : Kd.C (Kd.int .u64) w A0 l0.length l0) (hc0 : l0.length ≤ c0) (hr1 : Kd.C (Kd.int .u64) w A1 l1.length l1) (hc1 : l1.length ≤ c1) (h : gradineref05_Gcd.f k l0 l1 = some r) :
  Calls Try.prog 135 #[.slice A0 l0.length c0, .slice A1 l1.length c1] w fun e w' => ∃ v0_ : Value, e = .returned (v0_) ∧ Kd.R (Kd.int .u64) 22 w' w.heap.size (fun _ => True) v0_ r ∧ Below w.heap.size w w' := by
 have HR0 := Aside0.mk hr0
 have HC0 := Aside0.mk hc0
 clear hr0 hc0
 have HR1 := Aside0.mk hr1
 have HC1 := Aside0.mk hc1
 clear hr1 hc1
 have HB := Aside0.mk (Below.refl w.heap.size w)
 have H := h
 clear h
 unfold gradineref05_Gcd.f at H
 obtain ⟨t204, A3, H⟩ := bnd H
 refine if c4 : t204 = 0 then ?p3_ else ?n3_
 case' p3_ =>
  rw [if_pos c4] at H
  have c4b0 : (t204 == 0) = true := beq_iff_eq.mpr c4
  have c4b1 : (t204 != 0) = false := bne_eq_false_iff_eq.mpr c4
  clear c4
  obtain ⟨t205, A5, H⟩ := bnd H
  obtain rfl := Option.some.inj H
 case' n3_ =>
  rw [if_neg c4] at H
  have c4b0 : (t204 == 0) = false := beq_eq_false_iff_ne.mpr c4
  have c4b1 : (t204 != 0) = true := bne_iff_ne.mpr c4
  obtain ⟨t208, A7, H⟩ := bnd H
  refine if c8 : t208 = 0 then ?p4_ else ?n4_
  case' p4_ =>
   rw [if_pos c8] at H
   have c8b0 : (t208 == 0) = true := beq_iff_eq.mpr c8
   have c8b1 : (t208 != 0) = false := bne_eq_false_iff_eq.mpr c8
   clear c8
   obtain ⟨t209, A9, H⟩ := bnd H
   obtain rfl := Option.some.inj H
  case n4_ =>
   rw [if_neg c8] at H
   have c8b0 : (t208 == 0) = false := beq_eq_false_iff_ne.mpr c8
   have c8b1 : (t208 != 0) = true := bne_iff_ne.mpr c8
   have HC11 := Aside0.mk H
   clear H
   go_enter Try.func135, Try.ntmps135
   go_upto_region 5 with (first | (go_at_call 134; (with_reducible refine (gradineref02_Size.calls k _ _ l0 t204 _ ?side1 ?side2 A3.out).mono ?_); (case side1 => exact cs HR0.out); (case side2 => exact HC0.out); rintro e w' ⟨rfl, ⟨nd, rfl⟩⟩) | (go_at_call 134; (with_reducible refine (gradineref02_Size.calls k _ _ l1 t208 _ ?side1 ?side2 A7.out).mono ?_); (case side1 => exact cs HR1.out); (case side2 => exact HC1.out); rintro e w' ⟨rfl, ⟨nd, rfl⟩⟩))
   repeat (go_quiet (first | (go_at_call 134; (with_reducible refine (gradineref02_Size.calls k _ _ l0 t204 _ ?side1 ?side2 A3.out).mono ?_); (case side1 => exact cs HR0.out); (case side2 => exact HC0.out); rintro e w' ⟨rfl, ⟨nd, rfl⟩⟩) | (go_at_call 134; (with_reducible refine (gradineref02_Size.calls k _ _ l1 t208 _ ?side1 ?side2 A7.out).mono ?_); (case side1 => exact cs HR1.out); (case side2 => exact HC1.out); rintro e w' ⟨rfl, ⟨nd, rfl⟩⟩)); go_upto_region 5 with (first | (go_at_call 134; (with_reducible refine (gradineref02_Size.calls k _ _ l0 t204 _ ?side1 ?side2 A3.out).mono ?_); (case side1 => exact cs HR0.out); (case side2 => exact HC0.out); rintro e w' ⟨rfl, ⟨nd, rfl⟩⟩) | (go_at_call 134; (with_reducible refine (gradineref02_Size.calls k _ _ l1 t208 _ ?side1 ?side2 A7.out).mono ?_); (case side1 => exact cs HR1.out); (case side2 => exact HC1.out); rintro e w' ⟨rfl, ⟨nd, rfl⟩⟩)))
   (try simp only [Act.put, List.setIfInBounds_toArray, List.set_cons_zero, List.set_cons_succ])
   go_cut [28] (fun v28 wc => ∃ (kq : Nat) (x28_10 : Bool), v28 = .bool x28_10 ∧ Aside0 (gradineref05_Gcd.j0 kq l0 l1 x28_10 = some r) ∧ Aside0 (kq ≤ k) ∧ Aside0 (Below w.heap.size w wc))
   case first =>
    have H := HC11.out
    clear HC11
    obtain ⟨t212, A12, H⟩ := bnd H
    obtain rfl : t204 = t212 := Option.some.inj (A3.out.symm.trans A12.out) -- both are one
    by_cases c13 : t204 = 1
    ·rw [if_pos c13] at H
     have c13b0 : (t204 == 1) = true := beq_iff_eq.mpr c13
     have c13b1 : (t204 != 1) = false := bne_eq_false_iff_eq.mpr c13
     clear c13
     (first | rw [c13b0] | (simp only [i64_w, i32_w]; rw [c13b0]) | rw [c13b1] | skip)
     obtain ⟨t213, A14, H⟩ := bnd H
     obtain rfl : t208 = t213 := Option.some.inj (A7.out.symm.trans A14.out) -- both are one
     have H' := Aside0.mk H
     clear H
     iterate 6 (first | go_quiet (first | (go_at_call 134; (with_reducible refine (gradineref02_Size.calls k _ _ l0 t204 _ ?side1 ?side2 A12.out).mono ?_); (case side1 => exact cs (Kd.C_below HR0.out HB.out)); (case side2 => exact HC0.out); rintro e w' ⟨rfl, ⟨nd, rfl⟩⟩) | (go_at_call 134; (with_reducible refine (gradineref02_Size.calls k _ _ l1 t208 _ ?side1 ?side2 A14.out).mono ?_); (case side1 => repeat (first | exact (Kd.C_below HR1.out (bb HB.out)) | (with_reducible refine Kd.C_alloc ?_ _) | (with_reducible refine Kd.C_drewN ?_ _) | (with_reducible refine Kd.C_drew ?_))); (case side2 => exact HC1.out); rintro e w' ⟨rfl, ⟨nd, rfl⟩⟩)) | go_wp2_with (first | (go_at_call 134; (with_reducible refine (gradineref02_Size.calls k _ _ l0 t204 _ ?side1 ?side2 A12.out).mono ?_); (case side1 => exact cs (Kd.C_below HR0.out HB.out)); (case side2 => exact HC0.out); rintro e w' ⟨rfl, ⟨nd, rfl⟩⟩) | (go_at_call 134; (with_reducible refine (gradineref02_Size.calls k _ _ l1 t208 _ ?side1 ?side2 A14.out).mono ?_); (case side1 => repeat (first | exact (Kd.C_below HR1.out (bb HB.out)) | (with_reducible refine Kd.C_alloc ?_ _) | (with_reducible refine Kd.C_drewN ?_ _) | (with_reducible refine Kd.C_drew ?_))); (case side2 => exact HC1.out); rintro e w' ⟨rfl, ⟨nd, rfl⟩⟩)) | skip)
     go_meet
     case rel => exact ⟨_, ((t208 == 1)), (by first | rfl | (simp; done) | (simp [*]; done)), H', ⟨by first | omega | exact Nat.le_refl _⟩, ⟨bb HB.out⟩⟩
    ·rw [if_neg c13] at H
     have c13b0 : (t204 == 1) = false := beq_eq_false_iff_ne.mpr c13
     have c13b1 : (t204 != 1) = true := bne_iff_ne.mpr c13
     (first | rw [c13b0] | (simp only [i64_w, i32_w]; rw [c13b0]) | rw [c13b1] | skip)
     have H' := Aside0.mk H
     clear H
     iterate 6 (first | go_quiet (first | (go_at_call 134; (with_reducible refine (gradineref02_Size.calls k _ _ l0 t204 _ ?side1 ?side2 A12.out).mono ?_); (case side1 => exact cs (Kd.C_below HR0.out HB.out)); (case side2 => exact HC0.out); rintro e w' ⟨rfl, ⟨nd, rfl⟩⟩)) | go_wp2_with (first | (go_at_call 134; (with_reducible refine (gradineref02_Size.calls k _ _ l0 t204 _ ?side1 ?side2 A12.out).mono ?_); (case side1 => exact cs (Kd.C_below HR0.out HB.out)); (case side2 => exact HC0.out); rintro e w' ⟨rfl, ⟨nd, rfl⟩⟩)) | skip)
     go_meet
     case rel => exact ⟨_, (false), (by first | rfl | (simp; done) | (simp [*]; done)), H', ⟨by first | omega | exact Nat.le_refl _⟩, ⟨bb HB.out⟩⟩
   case rest =>
    clear HC11
    obtain ⟨kq, x28_10, rfl, HA, HJ10, HB⟩ := hcut
    cases kq with
    | zero => exact absurd HA.out (by simp [gradineref05_Gcd.j0])
    | succ kj10 =>
     have H := HA.out
     clear HA
     simp only [gradineref05_Gcd.j0] at H
     by_cases c15 : x28_10 = true
     ·subst c15
      replace H := ift H
      by_cases c16 : 0 < (l0.length : Int)
      ·rw [if_pos c16] at H
       have c16b0 : decide (0 < (l0.length : Int)) = true := decide_eq_true c16
       have c16b1 : decide (0 < l0.length) = true := decide_eq_true (by omega)
       clear c16
       by_cases c17 : 0 < (l1.length : Int)
       ·rw [if_pos c17] at H
        have c17b0 : decide (0 < (l1.length : Int)) = true := decide_eq_true c17
        have c17b1 : decide (0 < l1.length) = true := decide_eq_true (by omega)
        clear c17
        have H' := Aside0.mk H
        clear H
        have p214 : 0 ≤ (0 : Int) := (by omega)
        have q214 : 0 < (l0.length : Int) := of_decide_eq_true (by first | (with_reducible assumption) | assumption)
        obtain ⟨ad214, e214, hx214_0⟩ := Kd.at_int HR0.out 0 p214 q214
        cases e214
        have qi214 : (0 < l0.length) = True := eq_true (by omega)
        (try rw [show ((0 : Int)).toNat = 0 from rfl] at hx214_0)
        (try rw [Addr.add_zero'] at hx214_0)
        replace hx214_0 := (HB.out.cell (World.block_lt_of_cell? w _ hx214_0)).trans hx214_0
        replace p214 := eq_true p214
        replace q214 := eq_true q214
        have p215 : 0 ≤ (0 : Int) := (by omega)
        have q215 : 0 < (l1.length : Int) := of_decide_eq_true (by first | (with_reducible assumption) | assumption)
        obtain ⟨ad215, e215, hx215_0⟩ := Kd.at_int HR1.out 0 p215 q215
        cases e215
        have qi215 : (0 < l1.length) = True := eq_true (by omega)
        (try rw [show ((0 : Int)).toNat = 0 from rfl] at hx215_0)
        (try rw [Addr.add_zero'] at hx215_0)
        replace hx215_0 := (HB.out.cell (World.block_lt_of_cell? w _ hx215_0)).trans hx215_0
        replace p215 := eq_true p215
        replace q215 := eq_true q215
        go_wp2
        repeat (go_quiet (fail); try go_wp2)
        go_loopg [5, 6] kj10 (fun kq v5 v6 w' => ∃ (x5_2 : Int) (x6_2 : Int), v5 = .int .u64 x5_2 ∧ v6 = .int .u64 x6_2 ∧ Aside0 (gradineref05_Gcd.l0 kq x5_2 x6_2 = some r) ∧ Aside0 (kq ≤ kj10) ∧ Aside0 (Below w.heap.size w w'))
        case atStart => exact ⟨(rd l0 0), (rd l1 0), (by first | rfl | (simp; done) | (simp [*]; done)), (by first | rfl | (simp; done) | (simp [*]; done)), H', ⟨Nat.le_refl _⟩, ⟨bb HB.out⟩⟩
        case round =>
         clear H'
         obtain ⟨x5_2, x6_2, rfl, rfl, HA, HK2, HB⟩ := hrel
         cases gk with
         | zero => exact absurd HA.out (by simp [gradineref05_Gcd.l0])
         | succ k2 =>
          have H := HA.out
          clear HA
          simp only [gradineref05_Gcd.l0] at H
          by_cases c18 : x6_2 > 0
          ·rw [if_pos c18] at H
           have c18b0 : decide (0 < x6_2) = true := decide_eq_true c18
           clear c18
           by_cases c19 : x6_2 = 0
           ·rw [if_pos c19] at H
            exact absurd H (by simp)
           ·rw [if_neg c19] at H
            have c19b0 : (x6_2 == 0) = false := beq_eq_false_iff_ne.mpr c19
            have c19b1 : (x6_2 != 0) = true := bne_iff_ne.mpr c19
            have H' := Aside0.mk H
            clear H
            go_wp2
            repeat (go_quiet (fail); try go_wp2)
            go_roundg k2
            case measure => have := HJ10.out; have := HK2.out; omega
            case rel => exact ⟨(x6_2), (Int.tmod x5_2 x6_2), (by first | rfl | (simp; done) | (simp [*]; done)), (by first | rfl | (simp; done) | (simp [*]; done)), H', ⟨by have := HJ10.out; have := HK2.out; omega⟩, ⟨bb HB.out⟩⟩
          ·rw [if_neg c18] at H
           have c18b0 : decide (0 < x6_2) = false := decide_eq_false c18
           clear c18
           obtain ⟨y216, hy216⟩ : ∃ y_ : List Int, y_ = (([x5_2] : List Int)) := ⟨_, rfl⟩
           rw [← hy216] at H
           have Ny216 := Aside0.mk hy216
           clear hy216
           obtain rfl := Option.some.inj H
           iterate 6 (first | go_quiet (first | ((with_reducible refine gate_dst (N := 42) rfl ?_); refine Kd.R_lit (Kd.int .u64) _ 22 ?hg (N := 42) ?hd (xs := ([x5_2] : List Int)) (inner := [.int .u64 x5_2]) (ok := fun _ => True) (okp := fun _ => True) ?hr ?hp (fun _ hk => hk) trivial (Below.refl _ _) (Nat.le_refl _) (by simp) ?_; (case hd => rfl); (case hg => rfl); (case hr => first | (go_simp; done) | (go_simp; rfl)); (case hp => exact (Reps.one (show Kd.M (Kd.int .u64) _ _ _ x5_2 [.int .u64 x5_2] from rfl) (Reps.none _ _))); intro v217 w20 ho21 hb hg_ hnew_; clear hg_ hnew_; (first | rw [← Ny216.out] at ho21 | (simp only [Int.reduceToNat] at ho21; rw [← Ny216.out] at ho21)); refine sw2 ⟨Kd.R_lower ho21 (below_size (bb HB.out))⟩ ⟨below_step (bb HB.out) hb⟩ ?_; clear HB; intro HO218 HB; clear hb ho21)) | go_wp2_with (first | ((with_reducible refine gate_dst (N := 42) rfl ?_); refine Kd.R_lit (Kd.int .u64) _ 22 ?hg (N := 42) ?hd (xs := ([x5_2] : List Int)) (inner := [.int .u64 x5_2]) (ok := fun _ => True) (okp := fun _ => True) ?hr ?hp (fun _ hk => hk) trivial (Below.refl _ _) (Nat.le_refl _) (by simp) ?_; (case hd => rfl); (case hg => rfl); (case hr => first | (go_simp; done) | (go_simp; rfl)); (case hp => exact (Reps.one (show Kd.M (Kd.int .u64) _ _ _ x5_2 [.int .u64 x5_2] from rfl) (Reps.none _ _))); intro v217 w20 ho21 hb hg_ hnew_; clear hg_ hnew_; (first | rw [← Ny216.out] at ho21 | (simp only [Int.reduceToNat] at ho21; rw [← Ny216.out] at ho21)); refine sw2 ⟨Kd.R_lower ho21 (below_size (bb HB.out))⟩ ⟨below_step (bb HB.out) hb⟩ ?_; clear HB; intro HO218 HB; clear hb ho21)) | skip)
           go_ret
           exact ⟨_, by first | rfl | (simp [errW_none, errW_some] <;> rfl) | (simp [*, errW_none, errW_some] <;> rfl), by (with_reducible repeat (first | apply Kd.R_alloc | apply Kd.R_drewN | apply Kd.R_drew)); exact HO218.out, hbb⟩
       ·rw [if_neg c17] at H
        exact absurd H (by simp)
      ·rw [if_neg c16] at H
       exact absurd H (by simp)
     ·replace c15 := Bool.eq_false_iff.mpr c15
      subst c15
      replace H := iff_ H
      obtain ⟨t219, A22, H⟩ := bnd H
      obtain ⟨t220, A23, H⟩ := bnd H
      obtain ⟨ji24, hji24⟩ : ∃ j_ : Int, (mn t219 t220) = j_ := ⟨_, rfl⟩
      rw [hji24] at H
      (try rw [hji24] at A22)
      (try rw [hji24] at A23)
      have hji24_ : (if t220 < t219 then t220 else t219) = ji24 := hji24
      obtain ⟨t221, A25, H⟩ := bnd H
      obtain rfl : t219 = t221 := Option.some.inj (A22.out.symm.trans A25.out) -- both are one
      obtain ⟨t222, A26, H⟩ := bnd H
      obtain ⟨t225, A27, H⟩ := bnd H
      obtain rfl : t220 = t225 := Option.some.inj (A23.out.symm.trans A27.out) -- both are one
      obtain ⟨t226, A28, H⟩ := bnd H
      have H' := Aside0.mk H
      clear H
      iterate 6 (first | go_quiet (first | (go_at_call 156; (with_reducible refine (gradineref02_Even.calls kj10 _ _ l0 t219 _ ?side1 ?side2 A22.out).mono ?_); (case side1 => exact cs (Kd.C_below HR0.out HB.out)); (case side2 => exact HC0.out); rintro e w' ⟨rfl, ⟨nd, rfl⟩⟩) | (go_at_call 156; (with_reducible refine (gradineref02_Even.calls kj10 _ _ l1 t220 _ ?side1 ?side2 A23.out).mono ?_); (case side1 => repeat (first | exact (Kd.C_below HR1.out (bb HB.out)) | (with_reducible refine Kd.C_alloc ?_ _) | (with_reducible refine Kd.C_drewN ?_ _) | (with_reducible refine Kd.C_drew ?_))); (case side2 => exact HC1.out); rintro e w' ⟨rfl, ⟨nd, rfl⟩⟩) | (go_at_call 156; (with_reducible refine (gradineref02_Even.calls kj10 _ _ l0 t219 _ ?side1 ?side2 A25.out).mono ?_); (case side1 => repeat (first | exact (Kd.C_below HR0.out (bb HB.out)) | (with_reducible refine Kd.C_alloc ?_ _) | (with_reducible refine Kd.C_drewN ?_ _) | (with_reducible refine Kd.C_drew ?_))); (case side2 => exact HC0.out); rintro e w' ⟨rfl, ⟨nd, rfl⟩⟩) | (go_at_call 100; (with_reducible refine (gradineref02_Shr.calls kj10 _ _ l0 t219 t222 _ ?side1 ?side2 A26.out).mono ?_); (case side1 => repeat (first | exact (Kd.C_below HR0.out (bb HB.out)) | (with_reducible refine Kd.C_alloc ?_ _) | (with_reducible refine Kd.C_drewN ?_ _) | (with_reducible refine Kd.C_drew ?_))); (case side2 => exact HC0.out); rintro e w29 ⟨v223, rfl, ho0, hb⟩; refine sw2 ⟨Kd.R_lower ho0 (below_size (bb HB.out))⟩ ⟨below_step (bb HB.out) hb⟩ ?_; clear HB; intro HO224 HB) | (go_at_call 156; (with_reducible refine (gradineref02_Even.calls kj10 _ _ l1 t220 _ ?side1 ?side2 A27.out).mono ?_); (case side1 => exact cs (Kd.C_below HR1.out HB.out)); (case side2 => exact HC1.out); rintro e w' ⟨rfl, ⟨nd, rfl⟩⟩) | (go_at_call 100; (with_reducible refine (gradineref02_Shr.calls kj10 _ _ l1 t220 t226 _ ?side1 ?side2 A28.out).mono ?_); (case side1 => repeat (first | exact (Kd.C_below HR1.out (bb HB.out)) | (with_reducible refine Kd.C_alloc ?_ _) | (with_reducible refine Kd.C_drewN ?_ _) | (with_reducible refine Kd.C_drew ?_))); (case side2 => exact HC1.out); rintro e w30 ⟨v227, rfl, ho0, hb⟩; refine sw3 ⟨Kd.R_elder' (st HO224.out) (Kd.R_base ho0) hb⟩ ⟨Kd.R_lower (Kd.R_new' ho0 (Kd.R_lt (st HO224.out))) (below_size (bb HB.out))⟩ ⟨below_step (bb HB.out) hb⟩ ?_; clear HO224 HB; intro HO224 HO228 HB)) | go_wp2_with (first | (go_at_call 156; (with_reducible refine (gradineref02_Even.calls kj10 _ _ l0 t219 _ ?side1 ?side2 A22.out).mono ?_); (case side1 => exact cs (Kd.C_below HR0.out HB.out)); (case side2 => exact HC0.out); rintro e w' ⟨rfl, ⟨nd, rfl⟩⟩) | (go_at_call 156; (with_reducible refine (gradineref02_Even.calls kj10 _ _ l1 t220 _ ?side1 ?side2 A23.out).mono ?_); (case side1 => repeat (first | exact (Kd.C_below HR1.out (bb HB.out)) | (with_reducible refine Kd.C_alloc ?_ _) | (with_reducible refine Kd.C_drewN ?_ _) | (with_reducible refine Kd.C_drew ?_))); (case side2 => exact HC1.out); rintro e w' ⟨rfl, ⟨nd, rfl⟩⟩) | (go_at_call 156; (with_reducible refine (gradineref02_Even.calls kj10 _ _ l0 t219 _ ?side1 ?side2 A25.out).mono ?_); (case side1 => repeat (first | exact (Kd.C_below HR0.out (bb HB.out)) | (with_reducible refine Kd.C_alloc ?_ _) | (with_reducible refine Kd.C_drewN ?_ _) | (with_reducible refine Kd.C_drew ?_))); (case side2 => exact HC0.out); rintro e w' ⟨rfl, ⟨nd, rfl⟩⟩) | (go_at_call 100; (with_reducible refine (gradineref02_Shr.calls kj10 _ _ l0 t219 t222 _ ?side1 ?side2 A26.out).mono ?_); (case side1 => repeat (first | exact (Kd.C_below HR0.out (bb HB.out)) | (with_reducible refine Kd.C_alloc ?_ _) | (with_reducible refine Kd.C_drewN ?_ _) | (with_reducible refine Kd.C_drew ?_))); (case side2 => exact HC0.out); rintro e w29 ⟨v223, rfl, ho0, hb⟩; refine sw2 ⟨Kd.R_lower ho0 (below_size (bb HB.out))⟩ ⟨below_step (bb HB.out) hb⟩ ?_; clear HB; intro HO224 HB) | (go_at_call 156; (with_reducible refine (gradineref02_Even.calls kj10 _ _ l1 t220 _ ?side1 ?side2 A27.out).mono ?_); (case side1 => exact cs (Kd.C_below HR1.out HB.out)); (case side2 => exact HC1.out); rintro e w' ⟨rfl, ⟨nd, rfl⟩⟩) | (go_at_call 100; (with_reducible refine (gradineref02_Shr.calls kj10 _ _ l1 t220 t226 _ ?side1 ?side2 A28.out).mono ?_); (case side1 => repeat (first | exact (Kd.C_below HR1.out (bb HB.out)) | (with_reducible refine Kd.C_alloc ?_ _) | (with_reducible refine Kd.C_drewN ?_ _) | (with_reducible refine Kd.C_drew ?_))); (case side2 => exact HC1.out); rintro e w30 ⟨v227, rfl, ho0, hb⟩; refine sw3 ⟨Kd.R_elder' (st HO224.out) (Kd.R_base ho0) hb⟩ ⟨Kd.R_lower (Kd.R_new' ho0 (Kd.R_lt (st HO224.out))) (below_size (bb HB.out))⟩ ⟨below_step (bb HB.out) hb⟩ ?_; clear HO224 HB; intro HO224 HO228 HB)) | skip)
      go_loopg [8, 9] kj10 (fun kq v8 v9 w' => ∃ (x8_2 : List Int) (x9_2 : List Int), Aside0 (gradineref05_Gcd.l1 kq ji24 x8_2 x9_2 = some r) ∧ Aside0 (kq ≤ kj10) ∧ Aside0 (Kd.R (Kd.int .u64) 22 w' w.heap.size (fun k_ => some k_ ≠ (v9 : Value).ownBlock) v8 x8_2) ∧ Aside0 (Kd.R (Kd.int .u64) 22 w' w.heap.size (fun k_ => some k_ ≠ (v8 : Value).ownBlock) v9 x9_2) ∧ Aside0 (Below w.heap.size w w'))
      case atStart => exact ⟨(t222), (t226), H', ⟨Nat.le_refl _⟩, ⟨by (with_reducible repeat (first | apply Kd.R_alloc | apply Kd.R_drewN | apply Kd.R_drew)); exact Kd.R_mono HO224.out (fun _ hk => hk.2)⟩, ⟨by (with_reducible repeat (first | apply Kd.R_alloc | apply Kd.R_drewN | apply Kd.R_drew)); exact Kd.R_mono HO228.out (fun _ hk => hk.2)⟩, ⟨bb HB.out⟩⟩
      case round =>
       clear H'
       obtain ⟨x8_2, x9_2, HA, HK2, HO_8, HO_9, HB⟩ := hrel
       cases gk with
       | zero => exact absurd HA.out (by simp [gradineref05_Gcd.l1])
       | succ k2 =>
        have H := HA.out
        clear HA
        simp only [gradineref05_Gcd.l1] at H
        obtain ⟨t229, A31, H⟩ := bnd H
        by_cases c32 : t229 = 0
        ·rw [if_pos c32] at H
         have c32b0 : (t229 == 0) = true := beq_iff_eq.mpr c32
         have c32b1 : (t229 != 0) = false := bne_eq_false_iff_eq.mpr c32
         clear c32
         obtain ⟨t230, A33, H⟩ := bnd H
         obtain rfl := Option.some.inj H
         obtain ⟨Ao34, co34, eo34⟩ := Kd.R_slice HO_8.out
         subst eo34
         obtain ⟨Ao35, co35, eo35⟩ := Kd.R_slice HO_9.out
         subst eo35
         iterate 6 (first | go_quiet (first | (go_at_call 103; (with_reducible refine (gradineref02_Cmp.calls k2 _ _ x8_2 _ _ x9_2 t229 _ ?side1 ?side2 ?side3 ?side4 A31.out).mono ?_); (case side1 => exact cs (Kd.R_reads' HO_8.out).2.2); (case side2 => exact (Kd.R_reads' HO_8.out).2.1); (case side3 => exact cs (Kd.R_reads' HO_9.out).2.2); (case side4 => exact (Kd.R_reads' HO_9.out).2.1); rintro e w36 ⟨rfl, hb⟩; refine sw3 ⟨Kd.R_below (st HO_8.out) hb⟩ ⟨Kd.R_below (st HO_9.out) hb⟩ ⟨below_step (bb HB.out) hb⟩ ?_; clear HO_8 HO_9 HB; intro HO_8 HO_9 HB) | (go_at_call 90; (with_reducible refine (gradineref02_Shl.calls k2 _ _ x8_2 ji24 t230 _ ?side1 ?side2 A33.out).mono ?_); (case side1 => exact cs (Kd.R_reads' HO_8.out).2.2); (case side2 => exact (Kd.R_reads' HO_8.out).2.1); rintro e w37 ⟨v231, rfl, ho0, hb⟩; refine sw4 ⟨Kd.R_elder' (st HO_8.out) (Kd.R_base ho0) hb⟩ ⟨Kd.R_elder' (st HO_9.out) (Kd.R_base ho0) hb⟩ ⟨Kd.R_lower (Kd.R_new' (Kd.R_new' ho0 (Kd.R_lt (st HO_8.out))) (Kd.R_lt (st HO_9.out))) (below_size (bb HB.out))⟩ ⟨below_step (bb HB.out) hb⟩ ?_; clear HO_8 HO_9 HB; intro HO_8 HO_9 HO232 HB)) | go_wp2_with (first | (go_at_call 103; (with_reducible refine (gradineref02_Cmp.calls k2 _ _ x8_2 _ _ x9_2 t229 _ ?side1 ?side2 ?side3 ?side4 A31.out).mono ?_); (case side1 => exact cs (Kd.R_reads' HO_8.out).2.2); (case side2 => exact (Kd.R_reads' HO_8.out).2.1); (case side3 => exact cs (Kd.R_reads' HO_9.out).2.2); (case side4 => exact (Kd.R_reads' HO_9.out).2.1); rintro e w36 ⟨rfl, hb⟩; refine sw3 ⟨Kd.R_below (st HO_8.out) hb⟩ ⟨Kd.R_below (st HO_9.out) hb⟩ ⟨below_step (bb HB.out) hb⟩ ?_; clear HO_8 HO_9 HB; intro HO_8 HO_9 HB) | (go_at_call 90; (with_reducible refine (gradineref02_Shl.calls k2 _ _ x8_2 ji24 t230 _ ?side1 ?side2 A33.out).mono ?_); (case side1 => exact cs (Kd.R_reads' HO_8.out).2.2); (case side2 => exact (Kd.R_reads' HO_8.out).2.1); rintro e w37 ⟨v231, rfl, ho0, hb⟩; refine sw4 ⟨Kd.R_elder' (st HO_8.out) (Kd.R_base ho0) hb⟩ ⟨Kd.R_elder' (st HO_9.out) (Kd.R_base ho0) hb⟩ ⟨Kd.R_lower (Kd.R_new' (Kd.R_new' ho0 (Kd.R_lt (st HO_8.out))) (Kd.R_lt (st HO_9.out))) (below_size (bb HB.out))⟩ ⟨below_step (bb HB.out) hb⟩ ?_; clear HO_8 HO_9 HB; intro HO_8 HO_9 HO232 HB)) | skip)
         go_ret
         exact ⟨_, by first | rfl | (simp [errW_none, errW_some] <;> rfl) | (simp only [← hji24]; first | rfl | (simp [errW_none, errW_some] <;> rfl)) | (simp [*, errW_none, errW_some] <;> rfl), by (with_reducible repeat (first | apply Kd.R_alloc | apply Kd.R_drewN | apply Kd.R_drew)); exact Kd.R_mono HO232.out (fun _ hk => trivial), hbb⟩
        ·rw [if_neg c32] at H
         have c32b0 : (t229 == 0) = false := beq_eq_false_iff_ne.mpr c32
         have c32b1 : (t229 != 0) = true := bne_iff_ne.mpr c32
         by_cases c38 : t229 < 0
         ·rw [if_pos c38] at H
          have c38b0 : decide (t229 < 0) = true := decide_eq_true c38
          clear c38
          obtain ⟨t233, A39, H⟩ := bnd H
          obtain ⟨t236, A40, H⟩ := bnd H
          obtain ⟨t237, A41, H⟩ := bnd H
          have H' := Aside0.mk H
          clear H
          obtain ⟨Ao42, co42, eo42⟩ := Kd.R_slice HO_8.out
          subst eo42
          obtain ⟨Ao43, co43, eo43⟩ := Kd.R_slice HO_9.out
          subst eo43
          iterate 6 (first | go_quiet (first | (go_at_call 103; (with_reducible refine (gradineref02_Cmp.calls k2 _ _ x8_2 _ _ x9_2 t229 _ ?side1 ?side2 ?side3 ?side4 A31.out).mono ?_); (case side1 => exact cs (Kd.R_reads' HO_8.out).2.2); (case side2 => exact (Kd.R_reads' HO_8.out).2.1); (case side3 => exact cs (Kd.R_reads' HO_9.out).2.2); (case side4 => exact (Kd.R_reads' HO_9.out).2.1); rintro e w44 ⟨rfl, hb⟩; refine sw3 ⟨Kd.R_below (st HO_8.out) hb⟩ ⟨Kd.R_below (st HO_9.out) hb⟩ ⟨below_step (bb HB.out) hb⟩ ?_; clear HO_8 HO_9 HB; intro HO_8 HO_9 HB) | (go_at_call 102; (with_reducible refine (gradineref02_Sub.calls k2 _ _ x9_2 _ _ x8_2 t233 _ ?side1 ?side2 ?side3 ?side4 A39.out).mono ?_); (case side1 => exact cs (Kd.R_reads' HO_9.out).2.2); (case side2 => exact (Kd.R_reads' HO_9.out).2.1); (case side3 => exact cs (Kd.R_reads' HO_8.out).2.2); (case side4 => exact (Kd.R_reads' HO_8.out).2.1); rintro e w45 ⟨v234, rfl, ho0, hb⟩; refine sw4 ⟨Kd.R_elder' (st HO_8.out) (Kd.R_base ho0) hb⟩ ⟨Kd.R_elder' (st HO_9.out) (Kd.R_base ho0) hb⟩ ⟨Kd.R_lower (Kd.R_new' (Kd.R_new' ho0 (Kd.R_lt (st HO_8.out))) (Kd.R_lt (st HO_9.out))) (below_size (bb HB.out))⟩ ⟨below_step (bb HB.out) hb⟩ ?_; clear HO_8 HO_9 HB; intro HO_8 HO_9 HO235 HB; obtain ⟨Ao46, co46, eo46⟩ := Kd.R_slice HO235.out; subst eo46) | (go_at_call 156; (with_reducible refine (gradineref02_Even.calls k2 _ _ t233 t236 _ ?side1 ?side2 A40.out).mono ?_); (case side1 => exact cs (Kd.R_reads' HO235.out).2.2); (case side2 => exact (Kd.R_reads' HO235.out).2.1); rintro e w' ⟨rfl, ⟨nd, rfl⟩⟩) | (go_at_call 100; (with_reducible refine (gradineref02_Shr.calls k2 _ _ t233 t236 t237 _ ?side1 ?side2 A41.out).mono ?_); (case side1 => exact cs (Kd.R_reads' HO235.out).2.2); (case side2 => exact (Kd.R_reads' HO235.out).2.1); rintro e w47 ⟨v238, rfl, ho0, hb⟩; refine sw5 ⟨Kd.R_elder' (st HO_8.out) (Kd.R_base ho0) hb⟩ ⟨Kd.R_elder' (st HO_9.out) (Kd.R_base ho0) hb⟩ ⟨Kd.R_elder' (st HO235.out) (Kd.R_base ho0) hb⟩ ⟨Kd.R_lower (Kd.R_new' (Kd.R_new' (Kd.R_new' ho0 (Kd.R_lt (st HO_8.out))) (Kd.R_lt (st HO_9.out))) (Kd.R_lt (st HO235.out))) (below_size (bb HB.out))⟩ ⟨below_step (bb HB.out) hb⟩ ?_; clear HO_8 HO_9 HO235 HB; intro HO_8 HO_9 HO235 HO239 HB)) | go_wp2_with (first | (go_at_call 103; (with_reducible refine (gradineref02_Cmp.calls k2 _ _ x8_2 _ _ x9_2 t229 _ ?side1 ?side2 ?side3 ?side4 A31.out).mono ?_); (case side1 => exact cs (Kd.R_reads' HO_8.out).2.2); (case side2 => exact (Kd.R_reads' HO_8.out).2.1); (case side3 => exact cs (Kd.R_reads' HO_9.out).2.2); (case side4 => exact (Kd.R_reads' HO_9.out).2.1); rintro e w44 ⟨rfl, hb⟩; refine sw3 ⟨Kd.R_below (st HO_8.out) hb⟩ ⟨Kd.R_below (st HO_9.out) hb⟩ ⟨below_step (bb HB.out) hb⟩ ?_; clear HO_8 HO_9 HB; intro HO_8 HO_9 HB) | (go_at_call 102; (with_reducible refine (gradineref02_Sub.calls k2 _ _ x9_2 _ _ x8_2 t233 _ ?side1 ?side2 ?side3 ?side4 A39.out).mono ?_); (case side1 => exact cs (Kd.R_reads' HO_9.out).2.2); (case side2 => exact (Kd.R_reads' HO_9.out).2.1); (case side3 => exact cs (Kd.R_reads' HO_8.out).2.2); (case side4 => exact (Kd.R_reads' HO_8.out).2.1); rintro e w45 ⟨v234, rfl, ho0, hb⟩; refine sw4 ⟨Kd.R_elder' (st HO_8.out) (Kd.R_base ho0) hb⟩ ⟨Kd.R_elder' (st HO_9.out) (Kd.R_base ho0) hb⟩ ⟨Kd.R_lower (Kd.R_new' (Kd.R_new' ho0 (Kd.R_lt (st HO_8.out))) (Kd.R_lt (st HO_9.out))) (below_size (bb HB.out))⟩ ⟨below_step (bb HB.out) hb⟩ ?_; clear HO_8 HO_9 HB; intro HO_8 HO_9 HO235 HB; obtain ⟨Ao46, co46, eo46⟩ := Kd.R_slice HO235.out; subst eo46) | (go_at_call 156; (with_reducible refine (gradineref02_Even.calls k2 _ _ t233 t236 _ ?side1 ?side2 A40.out).mono ?_); (case side1 => exact cs (Kd.R_reads' HO235.out).2.2); (case side2 => exact (Kd.R_reads' HO235.out).2.1); rintro e w' ⟨rfl, ⟨nd, rfl⟩⟩) | (go_at_call 100; (with_reducible refine (gradineref02_Shr.calls k2 _ _ t233 t236 t237 _ ?side1 ?side2 A41.out).mono ?_); (case side1 => exact cs (Kd.R_reads' HO235.out).2.2); (case side2 => exact (Kd.R_reads' HO235.out).2.1); rintro e w47 ⟨v238, rfl, ho0, hb⟩; refine sw5 ⟨Kd.R_elder' (st HO_8.out) (Kd.R_base ho0) hb⟩ ⟨Kd.R_elder' (st HO_9.out) (Kd.R_base ho0) hb⟩ ⟨Kd.R_elder' (st HO235.out) (Kd.R_base ho0) hb⟩ ⟨Kd.R_lower (Kd.R_new' (Kd.R_new' (Kd.R_new' ho0 (Kd.R_lt (st HO_8.out))) (Kd.R_lt (st HO_9.out))) (Kd.R_lt (st HO235.out))) (below_size (bb HB.out))⟩ ⟨below_step (bb HB.out) hb⟩ ?_; clear HO_8 HO_9 HO235 HB; intro HO_8 HO_9 HO235 HO239 HB)) | skip)
          go_roundg k2
          case measure => have := HJ10.out; have := HK2.out; omega
          case rel => exact ⟨(t237), (x8_2), H', ⟨by have := HJ10.out; have := HK2.out; omega⟩, ⟨by (with_reducible repeat (first | apply Kd.R_alloc | apply Kd.R_drewN | apply Kd.R_drew)); exact Kd.R_mono HO239.out (fun _ hk => hk.1.1.2)⟩, ⟨by (with_reducible repeat (first | apply Kd.R_alloc | apply Kd.R_drewN | apply Kd.R_drew)); exact Kd.R_mono HO_8.out (fun _ hk => hk.2)⟩, ⟨bb HB.out⟩⟩
         ·rw [if_neg c38] at H
          have c38b0 : decide (t229 < 0) = false := decide_eq_false c38
          clear c38
          obtain ⟨t240, A48, H⟩ := bnd H
          obtain ⟨t243, A49, H⟩ := bnd H
          obtain ⟨t244, A50, H⟩ := bnd H
          have H' := Aside0.mk H
          clear H
          obtain ⟨Ao51, co51, eo51⟩ := Kd.R_slice HO_8.out
          subst eo51
          obtain ⟨Ao52, co52, eo52⟩ := Kd.R_slice HO_9.out
          subst eo52
          iterate 6 (first | go_quiet (first | (go_at_call 103; (with_reducible refine (gradineref02_Cmp.calls k2 _ _ x8_2 _ _ x9_2 t229 _ ?side1 ?side2 ?side3 ?side4 A31.out).mono ?_); (case side1 => exact cs (Kd.R_reads' HO_8.out).2.2); (case side2 => exact (Kd.R_reads' HO_8.out).2.1); (case side3 => exact cs (Kd.R_reads' HO_9.out).2.2); (case side4 => exact (Kd.R_reads' HO_9.out).2.1); rintro e w53 ⟨rfl, hb⟩; refine sw3 ⟨Kd.R_below (st HO_8.out) hb⟩ ⟨Kd.R_below (st HO_9.out) hb⟩ ⟨below_step (bb HB.out) hb⟩ ?_; clear HO_8 HO_9 HB; intro HO_8 HO_9 HB) | (go_at_call 102; (with_reducible refine (gradineref02_Sub.calls k2 _ _ x8_2 _ _ x9_2 t240 _ ?side1 ?side2 ?side3 ?side4 A48.out).mono ?_); (case side1 => exact cs (Kd.R_reads' HO_8.out).2.2); (case side2 => exact (Kd.R_reads' HO_8.out).2.1); (case side3 => exact cs (Kd.R_reads' HO_9.out).2.2); (case side4 => exact (Kd.R_reads' HO_9.out).2.1); rintro e w54 ⟨v241, rfl, ho0, hb⟩; refine sw4 ⟨Kd.R_elder' (st HO_8.out) (Kd.R_base ho0) hb⟩ ⟨Kd.R_elder' (st HO_9.out) (Kd.R_base ho0) hb⟩ ⟨Kd.R_lower (Kd.R_new' (Kd.R_new' ho0 (Kd.R_lt (st HO_8.out))) (Kd.R_lt (st HO_9.out))) (below_size (bb HB.out))⟩ ⟨below_step (bb HB.out) hb⟩ ?_; clear HO_8 HO_9 HB; intro HO_8 HO_9 HO242 HB; obtain ⟨Ao55, co55, eo55⟩ := Kd.R_slice HO242.out; subst eo55) | (go_at_call 156; (with_reducible refine (gradineref02_Even.calls k2 _ _ t240 t243 _ ?side1 ?side2 A49.out).mono ?_); (case side1 => exact cs (Kd.R_reads' HO242.out).2.2); (case side2 => exact (Kd.R_reads' HO242.out).2.1); rintro e w' ⟨rfl, ⟨nd, rfl⟩⟩) | (go_at_call 100; (with_reducible refine (gradineref02_Shr.calls k2 _ _ t240 t243 t244 _ ?side1 ?side2 A50.out).mono ?_); (case side1 => exact cs (Kd.R_reads' HO242.out).2.2); (case side2 => exact (Kd.R_reads' HO242.out).2.1); rintro e w56 ⟨v245, rfl, ho0, hb⟩; refine sw5 ⟨Kd.R_elder' (st HO_8.out) (Kd.R_base ho0) hb⟩ ⟨Kd.R_elder' (st HO_9.out) (Kd.R_base ho0) hb⟩ ⟨Kd.R_elder' (st HO242.out) (Kd.R_base ho0) hb⟩ ⟨Kd.R_lower (Kd.R_new' (Kd.R_new' (Kd.R_new' ho0 (Kd.R_lt (st HO_8.out))) (Kd.R_lt (st HO_9.out))) (Kd.R_lt (st HO242.out))) (below_size (bb HB.out))⟩ ⟨below_step (bb HB.out) hb⟩ ?_; clear HO_8 HO_9 HO242 HB; intro HO_8 HO_9 HO242 HO246 HB)) | go_wp2_with (first | (go_at_call 103; (with_reducible refine (gradineref02_Cmp.calls k2 _ _ x8_2 _ _ x9_2 t229 _ ?side1 ?side2 ?side3 ?side4 A31.out).mono ?_); (case side1 => exact cs (Kd.R_reads' HO_8.out).2.2); (case side2 => exact (Kd.R_reads' HO_8.out).2.1); (case side3 => exact cs (Kd.R_reads' HO_9.out).2.2); (case side4 => exact (Kd.R_reads' HO_9.out).2.1); rintro e w53 ⟨rfl, hb⟩; refine sw3 ⟨Kd.R_below (st HO_8.out) hb⟩ ⟨Kd.R_below (st HO_9.out) hb⟩ ⟨below_step (bb HB.out) hb⟩ ?_; clear HO_8 HO_9 HB; intro HO_8 HO_9 HB) | (go_at_call 102; (with_reducible refine (gradineref02_Sub.calls k2 _ _ x8_2 _ _ x9_2 t240 _ ?side1 ?side2 ?side3 ?side4 A48.out).mono ?_); (case side1 => exact cs (Kd.R_reads' HO_8.out).2.2); (case side2 => exact (Kd.R_reads' HO_8.out).2.1); (case side3 => exact cs (Kd.R_reads' HO_9.out).2.2); (case side4 => exact (Kd.R_reads' HO_9.out).2.1); rintro e w54 ⟨v241, rfl, ho0, hb⟩; refine sw4 ⟨Kd.R_elder' (st HO_8.out) (Kd.R_base ho0) hb⟩ ⟨Kd.R_elder' (st HO_9.out) (Kd.R_base ho0) hb⟩ ⟨Kd.R_lower (Kd.R_new' (Kd.R_new' ho0 (Kd.R_lt (st HO_8.out))) (Kd.R_lt (st HO_9.out))) (below_size (bb HB.out))⟩ ⟨below_step (bb HB.out) hb⟩ ?_; clear HO_8 HO_9 HB; intro HO_8 HO_9 HO242 HB; obtain ⟨Ao55, co55, eo55⟩ := Kd.R_slice HO242.out; subst eo55) | (go_at_call 156; (with_reducible refine (gradineref02_Even.calls k2 _ _ t240 t243 _ ?side1 ?side2 A49.out).mono ?_); (case side1 => exact cs (Kd.R_reads' HO242.out).2.2); (case side2 => exact (Kd.R_reads' HO242.out).2.1); rintro e w' ⟨rfl, ⟨nd, rfl⟩⟩) | (go_at_call 100; (with_reducible refine (gradineref02_Shr.calls k2 _ _ t240 t243 t244 _ ?side1 ?side2 A50.out).mono ?_); (case side1 => exact cs (Kd.R_reads' HO242.out).2.2); (case side2 => exact (Kd.R_reads' HO242.out).2.1); rintro e w56 ⟨v245, rfl, ho0, hb⟩; refine sw5 ⟨Kd.R_elder' (st HO_8.out) (Kd.R_base ho0) hb⟩ ⟨Kd.R_elder' (st HO_9.out) (Kd.R_base ho0) hb⟩ ⟨Kd.R_elder' (st HO242.out) (Kd.R_base ho0) hb⟩ ⟨Kd.R_lower (Kd.R_new' (Kd.R_new' (Kd.R_new' ho0 (Kd.R_lt (st HO_8.out))) (Kd.R_lt (st HO_9.out))) (Kd.R_lt (st HO242.out))) (below_size (bb HB.out))⟩ ⟨below_step (bb HB.out) hb⟩ ?_; clear HO_8 HO_9 HO242 HB; intro HO_8 HO_9 HO242 HO246 HB)) | skip)
          go_roundg k2
          case measure => have := HJ10.out; have := HK2.out; omega
          case rel => exact ⟨(t244), (x9_2), H', ⟨by have := HJ10.out; have := HK2.out; omega⟩, ⟨by (with_reducible repeat (first | apply Kd.R_alloc | apply Kd.R_drewN | apply Kd.R_drew)); exact Kd.R_mono HO246.out (fun _ hk => hk.1.2)⟩, ⟨by (with_reducible repeat (first | apply Kd.R_alloc | apply Kd.R_drewN | apply Kd.R_drew)); exact Kd.R_mono HO_9.out (fun _ hk => hk.2)⟩, ⟨bb HB.out⟩⟩
 case p3_ | n3_ =>
  go_enter Try.func135, Try.ntmps135
  iterate 6 (first | go_quiet (first | (go_at_call 134; (with_reducible refine (gradineref02_Size.calls k _ _ l0 t204 _ ?side1 ?side2 A3.out).mono ?_); (case side1 => exact cs HR0.out); (case side2 => exact HC0.out); rintro e w' ⟨rfl, ⟨nd, rfl⟩⟩) | (go_at_call 134; (with_reducible refine (gradineref02_Size.calls k _ _ l1 t208 _ ?side1 ?side2 A7.out).mono ?_); (case side1 => exact cs HR1.out); (case side2 => exact HC1.out); rintro e w' ⟨rfl, ⟨nd, rfl⟩⟩) | (go_at_call 140; (with_reducible refine (gradineref02_Trim.calls k _ _ l0 t209 _ ?side1 ?side2 A9.out).mono ?_); (case side1 => exact cs HR0.out); (case side2 => exact HC0.out); rintro e w10 ⟨v210, rfl, ho0, hb⟩; refine sw2 ⟨Kd.R_lower ho0 (below_size (bb HB.out))⟩ ⟨below_step (bb HB.out) hb⟩ ?_; clear HB; intro HO211 HB) | (go_at_call 140; (with_reducible refine (gradineref02_Trim.calls k _ _ l1 t205 _ ?side1 ?side2 A5.out).mono ?_); (case side1 => exact cs HR1.out); (case side2 => exact HC1.out); rintro e w6 ⟨v206, rfl, ho0, hb⟩; refine sw2 ⟨Kd.R_lower ho0 (below_size (bb HB.out))⟩ ⟨below_step (bb HB.out) hb⟩ ?_; clear HB; intro HO207 HB)) | go_wp2_with (first | (go_at_call 134; (with_reducible refine (gradineref02_Size.calls k _ _ l0 t204 _ ?side1 ?side2 A3.out).mono ?_); (case side1 => exact cs HR0.out); (case side2 => exact HC0.out); rintro e w' ⟨rfl, ⟨nd, rfl⟩⟩) | (go_at_call 134; (with_reducible refine (gradineref02_Size.calls k _ _ l1 t208 _ ?side1 ?side2 A7.out).mono ?_); (case side1 => exact cs HR1.out); (case side2 => exact HC1.out); rintro e w' ⟨rfl, ⟨nd, rfl⟩⟩) | (go_at_call 140; (with_reducible refine (gradineref02_Trim.calls k _ _ l0 t209 _ ?side1 ?side2 A9.out).mono ?_); (case side1 => exact cs HR0.out); (case side2 => exact HC0.out); rintro e w10 ⟨v210, rfl, ho0, hb⟩; refine sw2 ⟨Kd.R_lower ho0 (below_size (bb HB.out))⟩ ⟨below_step (bb HB.out) hb⟩ ?_; clear HB; intro HO211 HB) | (go_at_call 140; (with_reducible refine (gradineref02_Trim.calls k _ _ l1 t205 _ ?side1 ?side2 A5.out).mono ?_); (case side1 => exact cs HR1.out); (case side2 => exact HC1.out); rintro e w6 ⟨v206, rfl, ho0, hb⟩; refine sw2 ⟨Kd.R_lower ho0 (below_size (bb HB.out))⟩ ⟨below_step (bb HB.out) hb⟩ ?_; clear HB; intro HO207 HB)) | skip)
  go_ret
  first | (exact ⟨_, by first | rfl | (simp [errW_none, errW_some] <;> rfl) | (simp [*, errW_none, errW_some] <;> rfl), by (with_reducible repeat (first | apply Kd.R_alloc | apply Kd.R_drewN | apply Kd.R_drew)); exact HO211.out, hbb⟩) | (exact ⟨_, by first | rfl | (simp [errW_none, errW_some] <;> rfl) | (simp [*, errW_none, errW_some] <;> rfl), by (with_reducible repeat (first | apply Kd.R_alloc | apply Kd.R_drewN | apply Kd.R_drew)); exact HO207.out, hbb⟩)

def gradineref05_Part.f (k : Nat) (l0 : List Int) (l1 : List Int) : Option (List Int) := (gradineref02_Size.f k l1).bind fun t306 => (if t306 = 0 then (some ([] : List Int)) else ((gradineref02_Cmp.f k l1 (([1] : List Int))).bind fun t310 => (if t310 = 0 then ((gradineref02_Trim.f k l0).bind fun t311 => (some t311)) else ((gradineref04_Div.f k l0 l1).bind fun bt314 => (some bt314.1)))))
set_option maxHeartbeats 8000000 in
set_option maxRecDepth 100000 in
theorem gradineref05_Part.calls (k : Nat) (A0 : Option Addr) (c0 : Nat) (l0 : List Int) (A1 : Option Addr) (c1 : Nat) (l1 : List Int) (r : List Int) (w : World) (hr0 : Kd.C (Kd.int .u64) w A0 l0.length l0) (hc0 : l0.length ≤ c0) (hr1 : Kd.C (Kd.int .u64) w A1 l1.length l1) (hc1 : l1.length ≤ c1) (h : gradineref05_Part.f k l0 l1 = some r) :
  Calls Try.prog 136 #[.slice A0 l0.length c0, .slice A1 l1.length c1] w fun e w' => ∃ v0_ : Value, e = .returned (v0_) ∧ Kd.R (Kd.int .u64) 22 w' w.heap.size (fun _ => True) v0_ r ∧ Below w.heap.size w w' := by
 have HR0 := Aside0.mk hr0
 have HC0 := Aside0.mk hc0
 clear hr0 hc0
 have HR1 := Aside0.mk hr1
 have HC1 := Aside0.mk hc1
 clear hr1 hc1
 have HB := Aside0.mk (Below.refl w.heap.size w)
 have H := h
 clear h
 unfold gradineref05_Part.f at H
 obtain ⟨t306, A3, H⟩ := bnd H
 refine if c4 : t306 = 0 then ?p73_ else ?n73_
 case' p73_ =>
  rw [if_pos c4] at H
  have c4b0 : (t306 == 0) = true := beq_iff_eq.mpr c4
  have c4b1 : (t306 != 0) = false := bne_eq_false_iff_eq.mpr c4
  clear c4
  obtain rfl := Option.some.inj H
 case' n73_ =>
  rw [if_neg c4] at H
  have c4b0 : (t306 == 0) = false := beq_eq_false_iff_ne.mpr c4
  have c4b1 : (t306 != 0) = true := bne_iff_ne.mpr c4
  obtain ⟨y307, hy307⟩ : ∃ y_ : List Int, y_ = (([1] : List Int)) := ⟨_, rfl⟩
  rw [← hy307] at H
  have Ny307 := Aside0.mk hy307
  clear hy307
  obtain ⟨t310, A5, H⟩ := bnd H
  refine if c6 : t310 = 0 then ?p74_ else ?n74_
  case' p74_ =>
   rw [if_pos c6] at H
   have c6b0 : (t310 == 0) = true := beq_iff_eq.mpr c6
   have c6b1 : (t310 != 0) = false := bne_eq_false_iff_eq.mpr c6
   clear c6
   obtain ⟨t311, A7, H⟩ := bnd H
   obtain rfl := Option.some.inj H
  case' n74_ =>
   rw [if_neg c6] at H
   have c6b0 : (t310 == 0) = false := beq_eq_false_iff_ne.mpr c6
   have c6b1 : (t310 != 0) = true := bne_iff_ne.mpr c6
   obtain ⟨⟨t314, t315⟩, A13, H⟩ := bnd H
   dsimp only at H
   obtain rfl := Option.some.inj H
 case p73_ | p74_ | n74_ =>
  go_enter Try.func136, Try.ntmps136
  go_wp2_with (first | ((with_reducible refine gate_callee (f := 134) rfl ?_); refine goesL_ (some 8) rfl rfl Try.func134 (by kernel_rfl) rfl #[.slice A1 l1.length c1] rfl lx ?_; (with_reducible refine (gradineref02_Size.calls k _ _ l1 t306 _ ?side1 ?side2 A3.out).mono ?_); (case side1 => exact cs HR1.out); (case side2 => exact HC1.out); rintro e w' ⟨rfl, ⟨nd, rfl⟩⟩; refine ⟨_, rfl, ?_⟩) | ((with_reducible refine gate_dst (N := 11) rfl ?_); refine Kd.R_lit (Kd.int .u64) _ 22 ?hg (N := 11) ?hd (xs := ([1] : List Int)) (inner := [.int .u64 1]) (ok := fun _ => True) (okp := fun _ => True) ?hr ?hp (fun _ hk => hk) trivial (Below.refl _ _) (Nat.le_refl _) (by simp) ?_; (case hd => rfl); (case hg => rfl); (case hr => first | (go_simp; done) | (go_simp; rfl)); (case hp => exact (Reps.one (show Kd.M (Kd.int .u64) _ _ _ 1 [.int .u64 1] from rfl) (Reps.none _ _))); intro v308 w14 ho15 hb hg_ hnew_; clear hg_ hnew_; (first | rw [← Ny307.out] at ho15 | (simp only [Int.reduceToNat] at ho15; rw [← Ny307.out] at ho15)); refine sw2 ⟨Kd.R_lower ho15 (below_size (bb HB.out))⟩ ⟨below_step (bb HB.out) hb⟩ ?_; clear HB; intro HO309 HB; clear hb ho15; obtain ⟨Ao16, co16, eo16⟩ := Kd.R_slice HO309.out; subst eo16) | ((with_reducible refine gate_callee (f := 103) rfl ?_); refine goesL_ (some 12) rfl rfl Try.func103 (by kernel_rfl) rfl #[.slice A1 l1.length c1, .slice Ao16 y307.length co16] rfl lx ?_; (with_reducible refine (gradineref02_Cmp.calls k _ _ l1 _ _ y307 t310 _ ?side1 ?side2 ?side3 ?side4 A5.out).mono ?_); (case side1 => exact cs (Kd.C_below HR1.out HB.out)); (case side2 => exact HC1.out); (case side3 => exact cs (Kd.R_reads' HO309.out).2.2); (case side4 => exact (Kd.R_reads' HO309.out).2.1); rintro e w17 ⟨rfl, hb⟩; refine ⟨_, rfl, ?_⟩; refine sw2 ⟨Kd.R_below (st HO309.out) hb⟩ ⟨below_step (bb HB.out) hb⟩ ?_; clear HO309 HB; intro HO309 HB) | ((with_reducible refine gate_callee (f := 139) rfl ?_); refine goesL_ (some 19) rfl rfl Try.func139 (by kernel_rfl) rfl #[.slice A0 l0.length c0, .slice A1 l1.length c1] rfl lx ?_; (with_reducible refine (gradineref04_Div.calls k _ _ l0 _ _ l1 t314 t315 _ ?side1 ?side2 ?side3 ?side4 A13.out).mono ?_); (case side1 => exact cs (Kd.C_below HR0.out HB.out)); (case side2 => exact HC0.out); (case side3 => exact cs (Kd.C_below HR1.out HB.out)); (case side4 => exact HC1.out); rintro e w18 ⟨v316, v318, rfl, ho0, ho1, hb⟩; refine ⟨_, rfl, ?_⟩; refine sw4 ⟨Kd.R_mono (Kd.R_told (Kd.R_told (Kd.R_old (st HO309.out) hb) (Kd.R_base ho0)) (Kd.R_base ho1)) (fun _ h_ => h_.1)⟩ ⟨Kd.R_lower (Kd.R_new' ho0 (Kd.R_lt (st HO309.out))) (below_size (bb HB.out))⟩ ⟨Kd.R_lower (Kd.R_new' ho1 (Kd.R_lt (st HO309.out))) (below_size (bb HB.out))⟩ ⟨below_step (bb HB.out) hb⟩ ?_; clear HO309 HB; intro HO309 HO317 HO319 HB) | ((with_reducible refine gate_dst (N := 11) rfl ?_); refine Kd.R_lit (Kd.int .u64) _ 22 ?hg (N := 11) ?hd (xs := ([1] : List Int)) (inner := [.int .u64 1]) (ok := fun _ => True) (okp := fun _ => True) ?hr ?hp (fun _ hk => hk) trivial (Below.refl _ _) (Nat.le_refl _) (by simp) ?_; (case hd => rfl); (case hg => rfl); (case hr => first | (go_simp; done) | (go_simp; rfl)); (case hp => exact (Reps.one (show Kd.M (Kd.int .u64) _ _ _ 1 [.int .u64 1] from rfl) (Reps.none _ _))); intro v308 w8 ho9 hb hg_ hnew_; clear hg_ hnew_; (first | rw [← Ny307.out] at ho9 | (simp only [Int.reduceToNat] at ho9; rw [← Ny307.out] at ho9)); refine sw2 ⟨Kd.R_lower ho9 (below_size (bb HB.out))⟩ ⟨below_step (bb HB.out) hb⟩ ?_; clear HB; intro HO309 HB; clear hb ho9; obtain ⟨Ao16, co16, eo10⟩ := Kd.R_slice HO309.out; subst eo10) | ((with_reducible refine gate_callee (f := 140) rfl ?_); refine goesL_ (some 15) rfl rfl Try.func140 (by kernel_rfl) rfl #[.slice A0 l0.length c0] rfl lx ?_; (with_reducible refine (gradineref02_Trim.calls k _ _ l0 t311 _ ?side1 ?side2 A7.out).mono ?_); (case side1 => exact cs (Kd.C_below HR0.out HB.out)); (case side2 => exact HC0.out); rintro e w12 ⟨v312, rfl, ho0, hb⟩; refine ⟨_, rfl, ?_⟩; refine sw3 ⟨Kd.R_elder' (st HO309.out) (Kd.R_base ho0) hb⟩ ⟨Kd.R_lower (Kd.R_new' ho0 (Kd.R_lt (st HO309.out))) (below_size (bb HB.out))⟩ ⟨below_step (bb HB.out) hb⟩ ?_; clear HO309 HB; intro HO309 HO313 HB))
  go_ret
  first | (exact ⟨_, by first | rfl | (simp [errW_none, errW_some] <;> rfl) | (simp [*, errW_none, errW_some] <;> rfl), by (with_reducible repeat (first | apply Kd.R_alloc | apply Kd.R_drewN | apply Kd.R_drew)); exact Kd.R_mono HO317.out (fun _ hk => trivial), hbb⟩) | (exact ⟨_, by first | rfl | (simp [errW_none, errW_some] <;> rfl) | (simp [*, errW_none, errW_some] <;> rfl), by (with_reducible repeat (first | apply Kd.R_alloc | apply Kd.R_drewN | apply Kd.R_drew)); exact Kd.R_mono HO313.out (fun _ hk => trivial), hbb⟩) | (exact ⟨_, by first | rfl | (simp [errW_none, errW_some] <;> rfl) | (simp [*, errW_none, errW_some] <;> rfl), by first | exact Kd.R_nil _ _ _ _ _ | exact Kd.N_nil _ _ _ _ _ | exact Kd.V_nil _ _ _ _ _ | exact Kd.Q_nil _ _ _ _ _ | exact Kd.S_nil _ _ _ _ _, hbb⟩)

end Go.Proofs.Ytbpggonjcnakgaa.P
