/- Functions of one package as Lean functions, and walks: written by a program for this claim. -/
import Derived.Test.YtbpggonjcnakgaaFbase
import Derived.Test.YtbpggonjcnakgaaBlimb
namespace Go.Proofs.Ytbpggonjcnakgaa.P
open Go.RowKit Go.Proofs.YtbpggonjcnakgaaW.PrintWords Go.Proofs.YtbpggonjcnakgaaW.PrintLast Go.Proofs.YtbpggonjcnakgaaW.PrintMore
attribute [local go_sem] max2_int min2_int max_two min_two max_three min_three max_four min_four   -- for this text's walks alone
set_option linter.unusedVariables false
set_option linter.unusedSimpArgs false

def nat_size.l0 : Nat → List Int → Int → Option (Int)
 | 0, _, _ => none
 | k + 1, x0, x3 => if x3 > 0 then (if 0 ≤ (wrap64 (x3 - 1)) then (if (wrap64 (x3 - 1)) < (x0.length : Int) then (if (rd x0 (wrap64 (x3 - 1))) = 0 then (nat_size.l0 k x0 (wrap64 (x3 - 1))) else (some x3)) else (none)) else (none)) else (some x3)
def nat_size.f (k : Nat) (l0 : List Int) : Option (Int) := nat_size.l0 k l0 (l0.length : Int)
set_option maxHeartbeats 8000000 in
set_option maxRecDepth 100000 in
theorem nat_size.calls (k : Nat) (A0 : Option Addr) (c0 : Nat) (l0 : List Int) (r : Int) (w : World) (hr0 : Kd.C (Kd.int .u64) w A0 l0.length l0) (hc0 : l0.length ≤ c0) (h : nat_size.f k l0 = some r) :
  Calls Try.prog 149 #[.slice A0 l0.length c0] w fun e w' => e = .returned (.int .i64 r) ∧ Drawn0 w w' := by
 have HR0 := Aside0.mk hr0
 have HC0 := Aside0.mk hc0
 clear hr0 hc0
 have H := h
 clear h
 unfold nat_size.f at H
 have H' := Aside0.mk H
 clear H
 go_enter Try.func149, Try.ntmps149
 go_wp2
 go_loopg [3] k (fun kq v3 w' => ∃ (x3_1 : Int), v3 = .int .i64 x3_1 ∧ Aside0 (nat_size.l0 kq l0 x3_1 = some r) ∧ Aside0 (kq ≤ k) ∧ Drawn0 w w')
 case atStart => exact ⟨((l0.length : Int)), (by first | rfl | (simp; done) | (simp [*]; done)), H', ⟨Nat.le_refl _⟩, by repeat (first | exact Drawn0.refl _ | apply Drawn0.step)⟩
 case round =>
  clear H'
  obtain ⟨x3_1, rfl, HA, HK1, ⟨m1, rfl⟩⟩ := hrel
  cases gk with
  | zero => exact absurd HA.out (by simp [nat_size.l0])
  | succ k1 =>
   have H := HA.out
   clear HA
   simp only [nat_size.l0] at H
   by_cases c2 : x3_1 > 0
   ·rw [if_pos c2] at H
    have c2b0 : decide (0 < x3_1) = true := decide_eq_true c2
    clear c2
    obtain ⟨ji3, hji3⟩ : ∃ j_ : Int, (wrap64 (x3_1 - 1)) = j_ := ⟨_, rfl⟩
    rw [hji3] at H
    have hji3w : (IntKind.i64.wrap (x3_1 - 1)) = ji3 := (i64_w _).trans hji3
    by_cases c4 : 0 ≤ (ji3)
    ·rw [if_pos c4] at H
     have c4b0 : decide (0 ≤ (ji3)) = true := decide_eq_true c4
     clear c4
     by_cases c5 : (ji3) < (l0.length : Int)
     ·rw [if_pos c5] at H
      have c5b0 : decide ((ji3) < (l0.length : Int)) = true := decide_eq_true c5
      clear c5
      by_cases c6 : (rd l0 (ji3)) = 0
      ·rw [if_pos c6] at H
       have c6b0 : ((rd l0 (ji3)) == 0) = true := beq_iff_eq.mpr c6
       have c6b1 : ((rd l0 (ji3)) != 0) = false := bne_eq_false_iff_eq.mpr c6
       clear c6
       have H' := Aside0.mk H
       clear H
       have p1189 : 0 ≤ ((ji3) : Int) := of_decide_eq_true (by first | (with_reducible assumption) | assumption)
       have q1189 : (ji3) < (l0.length : Int) := of_decide_eq_true (by first | (with_reducible assumption) | assumption)
       obtain ⟨ad1189, e1189, hx1189_0⟩ := Kd.at_int HR0.out (ji3) p1189 q1189
       cases e1189
       replace p1189 := eq_true p1189
       replace q1189 := eq_true q1189
       go_wp2
       go_roundg k1
       case measure => have := HK1.out; omega
       case rel => exact ⟨(ji3), (by first | rfl | (simp; done) | (simp only [← hji3] <;> (first | rfl | simp)) | (simp [*]; done)), H', ⟨by have := HK1.out; omega⟩, by repeat (first | exact Drawn0.refl _ | apply Drawn0.step)⟩
      ·rw [if_neg c6] at H
       have c6b0 : ((rd l0 (ji3)) == 0) = false := beq_eq_false_iff_ne.mpr c6
       have c6b1 : ((rd l0 (ji3)) != 0) = true := bne_iff_ne.mpr c6
       obtain rfl := Option.some.inj H
       have p1189 : 0 ≤ ((ji3) : Int) := of_decide_eq_true (by first | (with_reducible assumption) | assumption)
       have q1189 : (ji3) < (l0.length : Int) := of_decide_eq_true (by first | (with_reducible assumption) | assumption)
       obtain ⟨ad1189, e1189, hx1189_0⟩ := Kd.at_int HR0.out (ji3) p1189 q1189
       cases e1189
       replace p1189 := eq_true p1189
       replace q1189 := eq_true q1189
       go_wp2
       go_ret
       exact ⟨by first | rfl | (simp; done) | (simp only [← hji3] <;> (first | rfl | simp)) | (simp [*]; done), by repeat (first | exact Drawn0.refl _ | apply Drawn0.step)⟩
     ·rw [if_neg c5] at H
      exact absurd H (by simp)
    ·rw [if_neg c4] at H
     exact absurd H (by simp)
   ·rw [if_neg c2] at H
    have c2b0 : decide (0 < x3_1) = false := decide_eq_false c2
    clear c2
    obtain rfl := Option.some.inj H
    go_wp2
    go_ret
    exact ⟨by first | rfl | (simp; done) | (simp [*]; done), by repeat (first | exact Drawn0.refl _ | apply Drawn0.step)⟩

def nat_Trim.f (k : Nat) (l0 : List Int) : Option (List Int) := (some (([] : List Int) : List Int)).bind fun y1190 => ((nat_size.f k l0).bind fun t1193 => (if 0 ≤ t1193 then (if t1193 ≤ (l0.length : Int) then (if y1190.length + (l0.take (t1193 : Int).toNat).length < 17592186044416 then (some (y1190 ++ (l0.take (t1193 : Int).toNat))) else (none)) else (none)) else (none)))
set_option maxHeartbeats 8000000 in
set_option maxRecDepth 100000 in
theorem nat_Trim.calls (k : Nat) (A0 : Option Addr) (c0 : Nat) (l0 : List Int) (r : List Int) (w : World) (hr0 : Kd.C (Kd.int .u64) w A0 l0.length l0) (hc0 : l0.length ≤ c0) (h : nat_Trim.f k l0 = some r) :
  Calls Try.prog 148 #[.slice A0 l0.length c0] w fun e w' => ∃ v0_ : Value, e = .returned (v0_) ∧ Kd.R (Kd.int .u64) 22 w' w.heap.size (fun _ => True) v0_ r ∧ Below w.heap.size w w' := by
 have HR0 := Aside0.mk hr0
 have HC0 := Aside0.mk hc0
 clear hr0 hc0
 have HB := Aside0.mk (Below.refl w.heap.size w)
 have H := h
 clear h
 unfold nat_Trim.f at H
 obtain ⟨y1190, hy1190⟩ : ∃ y_ : List Int, y_ = (([] : List Int)) := ⟨_, rfl⟩
 replace H : ((nat_size.f k l0).bind fun t1193 => (if 0 ≤ t1193 then (if t1193 ≤ (l0.length : Int) then (if y1190.length + (l0.take (t1193 : Int).toNat).length < 17592186044416 then (some (y1190 ++ (l0.take (t1193 : Int).toNat))) else (none)) else (none)) else (none))) = some r := by first | (rw [hy1190]; with_reducible exact H) | (have H2_ := (Option.bind_some _ _).symm.trans H; rw [hy1190]; with_reducible exact H2_) | (have H2_ := (Option.bind_some _ _).symm.trans H; with_reducible exact H2_) | with_reducible exact H | (rw [hy1190]; exact H) | exact H
 have Ny1190 := Aside0.mk hy1190
 clear hy1190
 replace H := Option.bind_eq_some_iff.mp H
 obtain ⟨t1193, A20, H⟩ := H
 replace H : (if 0 ≤ t1193 then (if t1193 ≤ (l0.length : Int) then (if y1190.length + (l0.take (t1193 : Int).toNat).length < 17592186044416 then (some (y1190 ++ (l0.take (t1193 : Int).toNat))) else (none)) else (none)) else (none)) = some r := H
 have A2 := Aside0.mk A20
 clear A20
 by_cases c3 : 0 ≤ t1193
 ·rw [if_pos c3] at H
  have c3b0 := eq_true c3
  have c3b1 : decide (0 ≤ t1193) = true := decide_eq_true c3
  clear c3
  by_cases c4 : t1193 ≤ (l0.length : Int)
  ·rw [if_pos c4] at H
   have c4b0 := eq_true c4
   have c4b1 : decide (t1193 ≤ (l0.length : Int)) = true := decide_eq_true c4
   clear c4
   by_cases c5 : y1190.length + (l0.take (t1193 : Int).toNat).length < 17592186044416
   ·rw [if_pos c5] at H
    have LMc5 := Aside0.mk c5
    clear c5
    obtain ⟨y1195, hy1195⟩ : ∃ y_ : List Int, y_ = (y1190 ++ (l0.take (t1193 : Int).toNat)) := ⟨_, rfl⟩
    rw [← hy1195] at H
    have Ny1195 := Aside0.mk hy1195
    clear hy1195
    obtain rfl := Option.some.inj H
    go_enter Try.func148, Try.ntmps148
    go_wp2_with (first | ((with_reducible refine gate_dst (N := 3) rfl ?_); refine Kd.R_lit (Kd.int .u64) _ 22 ?hg (N := 3) ?hd (xs := ([] : List Int)) (inner := []) (ok := fun _ => True) (okp := fun _ => True) ?hr ?hp (fun _ hk => hk) trivial (Below.refl _ _) (Nat.le_refl _) (by simp) ?_; (case hd => rfl); (case hg => rfl); (case hr => first | (go_simp; done) | (go_simp; rfl)); (case hp => exact (Reps.none _ _)); intro v1191 w6 ho7 hb hg_ hnew_; clear hg_ hnew_; (first | rw [← Ny1190.out] at ho7 | (simp only [Int.reduceToNat] at ho7; rw [← Ny1190.out] at ho7)); refine sw2 ⟨Kd.R_lower ho7 (below_size (bb HB.out))⟩ ⟨below_step (bb HB.out) hb⟩ ?_; clear HB; intro HO1192 HB; clear hb ho7) | ((with_reducible refine gate_callee (f := 149) rfl ?_); refine goesL_ (some 6) rfl rfl Try.func149 (by kernel_rfl) rfl #[.slice A0 l0.length c0] rfl lx ?_; (with_reducible refine (nat_size.calls k _ _ l0 t1193 _ ?side1 ?side2 A2.out).mono ?_); (case side1 => exact cs (Kd.C_below HR0.out HB.out)); (case side2 => exact HC0.out); rintro e w' ⟨rfl, ⟨nd, rfl⟩⟩; refine ⟨_, rfl, ?_⟩; obtain ⟨i08, hi08, _, hsz8, _⟩ := info_parts info22; obtain ⟨hcut8, hA8, hC8⟩ := print_take_of (P := Try.prog) (Value.int .u64) 0 30 22 .i64 Try.underlying30 hi08 hsz8 A0 c0 l0 t1193 (of_decide_eq_true (by first | (with_reducible assumption) | assumption)) (of_decide_eq_true (by first | (with_reducible assumption) | assumption)) HC0.out; have HR1194 := Aside0.mk (Kd.C_of_reads (h1 := fun _ => rfl) (hA8 _ (Kd.reads_of_C HR0.out))); have HC1194 := Aside0.mk hC8; clear hA8 hC8 hi08 hsz8) | ((with_reducible refine gate_builtin (b := .append) (xs := #[.tmp 3, .tmp 7]) rfl ?_); at_builtin; refine Kd.R_append_rows (Kd.int .u64) (w0 := w) w.heap.size rfl (.tmp 3) (.tmp 7) 30 22 (.int .u64 0) 8 rfl Try.underlying30 info22 rfl (by decide) (by omega) v1191 y1190 (l0.take (t1193 : Int).toNat) _ _ _ (fun _ => True) (fun _ => False) rfl rfl ?aO ?aR (fun _ _ h => h) (fun _ h => h.elim) ?aF ?aB ?aS ?aL ?_; (case aR => first | (refine cut_rows_len (show (l0.take (t1193 : Int).toNat).length = t1193.toNat from (by rw [List.length_take]; have h_ : (t1193 : Int) ≤ (l0.length : Int) := of_decide_eq_true (by first | (with_reducible assumption) | assumption); omega)) ?_; repeat (first | exact (Kd.C_below HR1194.out (bb HB.out)) | (with_reducible refine Kd.C_alloc ?_ _) | (with_reducible refine Kd.C_drewN ?_ _) | (with_reducible refine Kd.C_drew ?_))) | (repeat (first | exact (Kd.C_below HR1194.out (bb HB.out)) | (with_reducible refine Kd.C_alloc ?_ _) | (with_reducible refine Kd.C_drewN ?_ _) | (with_reducible refine Kd.C_drew ?_)))); (case aB => exact (bb HB.out)); (case aF => exact (fun _ _ => trivial)); (case aO => exact (st HO1192.out)); (case aS => exact (below_size (bb HB.out))); (case aL => have := LMc5.out; have hlx_ := (show (l0.take (t1193 : Int).toNat).length = t1193.toNat from (by rw [List.length_take]; have h_ : (t1193 : Int) ≤ (l0.length : Int) := of_decide_eq_true (by first | (with_reducible assumption) | assumption); omega)); omega); intro v1196 w9 ho hb hg hat; rw [← Ny1195.out] at ho; refine sw2 ⟨hb⟩ ⟨ho⟩ ?_; clear HB HO1192; intro HB HO1197; clear ho hb hg hat))
    go_ret
    exact ⟨_, by first | rfl | (simp [errW_none, errW_some] <;> rfl) | (simp [*, errW_none, errW_some] <;> rfl), by (with_reducible repeat (first | apply Kd.R_alloc | apply Kd.R_drewN | apply Kd.R_drew)); exact HO1197.out, hbb⟩
   ·rw [if_neg c5] at H
    exact absurd H (by simp)
  ·rw [if_neg c4] at H
   exact absurd H (by simp)
 ·rw [if_neg c3] at H
  exact absurd H (by simp)

def nat_Shl.l0 : Nat → Int → List Int → Int → List Int → Int → Int → Option (List Int)
 | 0, _, _, _, _, _, _ => none
 | k + 1, x6, x7, x8, x25, x26, x27 => if x27 < x26 then (if 0 ≤ x27 then (if x27 < (x25.length : Int) then (if x7.length < 17592186044416 then (nat_Shl.l0 k x6 (x7 ++ [Go.bits .or .u64 (IntKind.u64.wrap ((rd x25 x27) * 2 ^ x6.toNat)) x8]) (((rd x25 x27) / 2) / 2 ^ (63 - x6).toNat) x25 x26 (wrap64 (x27 + 1))) else (none)) else (none)) else (none)) else (if x7.length < 17592186044416 then ((nat_Trim.f k (x7 ++ [x8])).bind fun t1250 => (some t1250)) else (none))
def nat_Shl.f (k : Nat) (l0 : List Int) (a1 : Int) : Option (List Int) := if ((mn (mx a1 0) 65536) / 64) ≥ 0 then (if ((mn (mx a1 0) 65536) / 64) ≤ (wrap64 ((wrap64 (((mn (mx a1 0) 65536) / 64) + (l0.length : Int))) + 1)) then (if (wrap64 ((wrap64 (((mn (mx a1 0) 65536) / 64) + (l0.length : Int))) + 1) : Int).toNat ≤ 35184372088832 then (nat_Shl.l0 k ((mn (mx a1 0) 65536) % 64) (List.replicate ((mn (mx a1 0) 65536) / 64 : Int).toNat 0) 0 l0 (l0.length : Int) 0) else (none)) else (none)) else (none)
set_option maxHeartbeats 8000000 in
set_option maxRecDepth 100000 in
theorem nat_Shl.calls (k : Nat) (A0 : Option Addr) (c0 : Nat) (l0 : List Int) (a1 : Int) (r : List Int) (w : World) (hr0 : Kd.C (Kd.int .u64) w A0 l0.length l0) (hc0 : l0.length ≤ c0) (h : nat_Shl.f k l0 a1 = some r) :
  Calls Try.prog 112 #[.slice A0 l0.length c0, .int .i64 a1] w fun e w' => ∃ v0_ : Value, e = .returned (v0_) ∧ Kd.R (Kd.int .u64) 22 w' w.heap.size (fun _ => True) v0_ r ∧ Below w.heap.size w w' := by
 have HR0 := Aside0.mk hr0
 have HC0 := Aside0.mk hc0
 clear hr0 hc0
 have HB := Aside0.mk (Below.refl w.heap.size w)
 have H := h
 clear h
 unfold nat_Shl.f at H
 obtain ⟨ji3, hji3⟩ : ∃ j_ : Int, (mx a1 0) = j_ := ⟨_, rfl⟩
 rw [hji3] at H
 (try (have hji3l : 0 ≤ ji3 := by (rw [← hji3]; unfold mx; (repeat' split) <;> omega)))
 (try (have hji3m : 0 ≤ ji3 := by omega))
 (try (have hji3t : ∀ m_ : Int, Int.tdiv ji3 m_ = ji3 / m_ := fun m_ => Int.tdiv_eq_ediv_of_nonneg (by omega)))
 have hji3_ : (if a1 < 0 then 0 else a1) = ji3 := hji3
 obtain ⟨ji4, hji4⟩ : ∃ j_ : Int, (mn (ji3) 65536) = j_ := ⟨_, rfl⟩
 rw [hji4] at H
 have hji4_ : (if 65536 < (ji3) then 65536 else (ji3)) = ji4 := hji4
 by_cases c5 : ((ji4) / 64) ≥ 0
 ·rw [if_pos c5] at H
  have c5b0 := eq_true c5
  have c5b1 : decide (((ji4) / 64) ≥ 0) = true := decide_eq_true c5
  clear c5
  by_cases c6 : ((ji4) / 64) ≤ (wrap64 ((wrap64 (((ji4) / 64) + (l0.length : Int))) + 1))
  ·rw [if_pos c6] at H
   have c6b0 := eq_true c6
   have c6b1 : decide (((ji4) / 64) ≤ (wrap64 ((wrap64 (((ji4) / 64) + (l0.length : Int))) + 1))) = true := decide_eq_true c6
   by_cases c7 : (wrap64 ((wrap64 (((ji4) / 64) + (l0.length : Int))) + 1) : Int).toNat ≤ 35184372088832
   ·rw [if_pos c7] at H
    have c7b0 := eq_true c7
    have c7b1 : decide ((wrap64 ((wrap64 (((ji4) / 64) + (l0.length : Int))) + 1) : Int).toNat ≤ 35184372088832) = true := decide_eq_true c7
    obtain ⟨y1240, hy1240⟩ : ∃ y_ : List Int, y_ = (List.replicate ((ji4) / 64 : Int).toNat 0) := ⟨_, rfl⟩
    rw [← hy1240] at H
    have Ny1240 := Aside0.mk hy1240
    clear hy1240
    have H' := Aside0.mk H
    clear H
    go_enter Try.func112, Try.ntmps112
    go_wp2_with (first | ((with_reducible refine gate_dst (N := 24) rfl ?_); refine Kd.R_makecap (Kd.int .u64) _ 22 rfl (N := 24) rfl 30 _ _ rfl ((ji4) / 64) (wrap64 ((wrap64 (((ji4) / 64) + (l0.length : Int))) + 1)) rfl rfl Try.underlying30 (.int .u64 0) 8 info22 rfl (by decide) (by omega) 0 (ok := fun _ => True) (okp := fun _ => True) rfl (fun _ hk => hk) trivial (of_decide_eq_true (by first | (with_reducible assumption) | assumption)) (of_decide_eq_true (by first | (with_reducible assumption) | assumption)) (Nat.le_trans (Nat.mul_le_mul_right _ (of_decide_eq_true (by first | (with_reducible assumption) | assumption) : (wrap64 ((wrap64 (((ji4) / 64) + (l0.length : Int))) + 1) : Int).toNat ≤ 35184372088832)) (by omega)) (Below.refl _ _) (Nat.le_refl _) ?_; intro v1241 w8 ho9 hb hg_ hnew_; clear hg_ hnew_; (first | rw [← Ny1240.out] at ho9 | (simp only [Int.reduceToNat] at ho9; rw [← Ny1240.out] at ho9)); refine sw2 ⟨Kd.R_lower ho9 (below_size (bb HB.out))⟩ ⟨below_step (bb HB.out) hb⟩ ?_; clear HB; intro HO1242 HB; clear hb ho9))
    go_loopg [7, 8, 27] k (fun kq v7 v8 v27 w' => ∃ (x7_1 : List Int) (x8_1 : Int) (x27_1 : Int), v8 = .int .u64 x8_1 ∧ v27 = .int .i64 x27_1 ∧ Aside0 (nat_Shl.l0 kq ((ji4) % 64) x7_1 x8_1 l0 (l0.length : Int) x27_1 = some r) ∧ Aside0 (kq ≤ k) ∧ Aside0 (Kd.R (Kd.int .u64) 22 w' w.heap.size (fun _ => True) v7 x7_1) ∧ Aside0 (Below w.heap.size w w'))
    case atStart => exact ⟨(y1240), (0), (0), (by first | rfl | (simp; done) | (simp [*]; done)), (by first | rfl | (simp; done) | (simp [*]; done)), H', ⟨Nat.le_refl _⟩, ⟨by (with_reducible repeat (first | apply Kd.R_alloc | apply Kd.R_drewN | apply Kd.R_drew)); exact HO1242.out⟩, ⟨bb HB.out⟩⟩
    case round =>
     clear H'
     obtain ⟨x7_1, x8_1, x27_1, rfl, rfl, HA, HK1, HO_7, HB⟩ := hrel
     cases gk with
     | zero => exact absurd HA.out (by simp [nat_Shl.l0])
     | succ k1 =>
      have H := HA.out
      clear HA
      simp only [nat_Shl.l0] at H
      by_cases c10 : x27_1 < (l0.length : Int)
      ·rw [if_pos c10] at H
       have c10b0 : decide (x27_1 < (l0.length : Int)) = true := decide_eq_true c10
       clear c10
       by_cases c11 : 0 ≤ x27_1
       ·rw [if_pos c11] at H
        have c11b0 : decide (0 ≤ x27_1) = true := decide_eq_true c11
        clear c11
        by_cases c12 : x27_1 < (l0.length : Int)
        ·rw [if_pos c12] at H
         have c12b0 : decide (x27_1 < (l0.length : Int)) = true := decide_eq_true c12
         clear c12
         (try (have c13m : min (((ji4) % 64) : Int).toNat 64 = (((ji4) % 64) : Int).toNat := by omega))
         by_cases c14 : x7_1.length < 17592186044416
         ·rw [if_pos c14] at H
          have LMc14 := Aside0.mk c14
          clear c14
          obtain ⟨y1244, hy1244⟩ : ∃ y_ : List Int, y_ = (x7_1 ++ [Go.bits .or .u64 (IntKind.u64.wrap ((rd l0 x27_1) * 2 ^ ((ji4) % 64).toNat)) x8_1]) := ⟨_, rfl⟩
          rw [← hy1244] at H
          have Ny1244 := Aside0.mk hy1244
          clear hy1244
          (try (have c15m : min ((63 - ((ji4) % 64)) : Int).toNat 64 = ((63 - ((ji4) % 64)) : Int).toNat := by omega))
          have H' := Aside0.mk H
          clear H
          have p1243 : 0 ≤ (x27_1 : Int) := of_decide_eq_true (by first | (with_reducible assumption) | assumption)
          have q1243 : x27_1 < (l0.length : Int) := of_decide_eq_true (by first | (with_reducible assumption) | assumption)
          obtain ⟨ad1243, e1243, hx1243_0⟩ := Kd.at_int HR0.out x27_1 p1243 q1243
          cases e1243
          replace hx1243_0 := (HB.out.cell (World.block_lt_of_cell? w _ hx1243_0)).trans hx1243_0
          replace p1243 := eq_true p1243
          replace q1243 := eq_true q1243
          go_wp2_with (first | ((with_reducible refine gate_builtin (b := .append) (xs := #[.tmp 31, .tmp 37]) rfl ?_); at_builtin; refine Kd.R_append (Kd.int .u64) (w0 := w) w.heap.size rfl (.tmp 31) (.tmp 37) 30 22 (.int .u64 0) 8 rfl Try.underlying30 info22 rfl (by decide) (by omega) u7 x7_1 (Go.bits .or .u64 (IntKind.u64.wrap ((rd l0 x27_1) * 2 ^ ((ji4) % 64).toNat)) x8_1) [.int .u64 (Go.bits .or .u64 (IntKind.u64.wrap ((rd l0 x27_1) * 2 ^ ((ji4) % 64).toNat)) x8_1)] (fun _ => True) (fun _ => False) rfl rfl ?aP (fun _ hk => hk.elim) ?aF ?aO ?aB ?aS ?aL ?_; (case aP => exact rfl); (case aB => exact (bb HB.out)); (case aF => exact (fun _ _ => trivial)); (case aO => exact (st HO_7.out)); (case aS => exact (below_size (bb HB.out))); (case aL => have := LMc14.out; omega); intro v1245 w16 ho hb hg hat; rw [← Ny1244.out] at ho; refine sw2 ⟨hb⟩ ⟨ho⟩ ?_; clear HB HO_7; intro HB HO1246; clear ho hb hg hat))
          go_roundg k1
          case measure => have := HK1.out; omega
          case rel => exact ⟨(y1244), (((rd l0 x27_1) / 2) / 2 ^ (63 - ((ji4) % 64)).toNat), (wrap64 (x27_1 + 1)), (by first | rfl | (simp; done) | (simp only [← hji4] <;> (first | rfl | simp)) | (simp [*]; done)), (by first | rfl | (simp; done) | (simp [*]; done)), H', ⟨by have := HK1.out; omega⟩, ⟨by (with_reducible repeat (first | apply Kd.R_alloc | apply Kd.R_drewN | apply Kd.R_drew)); exact HO1246.out⟩, ⟨bb HB.out⟩⟩
         ·rw [if_neg c14] at H
          exact absurd H (by simp)
        ·rw [if_neg c12] at H
         exact absurd H (by simp)
       ·rw [if_neg c11] at H
        exact absurd H (by simp)
      ·rw [if_neg c10] at H
       have c10b0 : decide (x27_1 < (l0.length : Int)) = false := decide_eq_false c10
       clear c10
       by_cases c17 : x7_1.length < 17592186044416
       ·rw [if_pos c17] at H
        have LMc17 := Aside0.mk c17
        clear c17
        obtain ⟨y1247, hy1247⟩ : ∃ y_ : List Int, y_ = (x7_1 ++ [x8_1]) := ⟨_, rfl⟩
        rw [← hy1247] at H
        have Ny1247 := Aside0.mk hy1247
        clear hy1247
        obtain ⟨t1250, A18, H⟩ := bnd H
        obtain rfl := Option.some.inj H
        go_wp2_with (first | ((with_reducible refine gate_builtin (b := .append) (xs := #[.tmp 45, .tmp 47]) rfl ?_); at_builtin; refine Kd.R_append (Kd.int .u64) (w0 := w) w.heap.size rfl (.tmp 45) (.tmp 47) 30 22 (.int .u64 0) 8 rfl Try.underlying30 info22 rfl (by decide) (by omega) u7 x7_1 x8_1 [.int .u64 x8_1] (fun _ => True) (fun _ => False) rfl rfl ?aP (fun _ hk => hk.elim) ?aF ?aO ?aB ?aS ?aL ?_; (case aP => exact rfl); (case aB => exact (bb HB.out)); (case aF => exact (fun _ _ => trivial)); (case aO => exact (st HO_7.out)); (case aS => exact (below_size (bb HB.out))); (case aL => have := LMc17.out; omega); intro v1248 w19 ho hb hg hat; rw [← Ny1247.out] at ho; refine sw2 ⟨hb⟩ ⟨ho⟩ ?_; clear HB HO_7; intro HB HO1249; clear ho hb hg hat; obtain ⟨Ao20, co20, eo20⟩ := Kd.R_slice HO1249.out; subst eo20) | ((with_reducible refine gate_callee (f := 148) rfl ?_); refine goesL_ (some 49) rfl rfl Try.func148 (by kernel_rfl) rfl #[.slice Ao20 y1247.length co20] rfl lx ?_; (with_reducible refine (nat_Trim.calls k1 _ _ y1247 t1250 _ ?side1 ?side2 A18.out).mono ?_); (case side1 => exact cs (Kd.R_reads' HO1249.out).2.2); (case side2 => exact (Kd.R_reads' HO1249.out).2.1); rintro e w21 ⟨v1251, rfl, ho0, hb⟩; refine ⟨_, rfl, ?_⟩; refine sw3 ⟨Kd.R_elder' (st HO1249.out) (Kd.R_base ho0) hb⟩ ⟨Kd.R_lower (Kd.R_new' ho0 (Kd.R_lt (st HO1249.out))) (below_size (bb HB.out))⟩ ⟨below_step (bb HB.out) hb⟩ ?_; clear HO1249 HB; intro HO1249 HO1252 HB))
        go_ret
        exact ⟨_, by first | rfl | (simp [errW_none, errW_some] <;> rfl) | (simp only [← hji3, ← hji4]; first | rfl | (simp [errW_none, errW_some] <;> rfl)) | (simp [*, errW_none, errW_some] <;> rfl), by (with_reducible repeat (first | apply Kd.R_alloc | apply Kd.R_drewN | apply Kd.R_drew)); exact Kd.R_mono HO1252.out (fun _ hk => trivial), hbb⟩
       ·rw [if_neg c17] at H
        exact absurd H (by simp)
   ·rw [if_neg c7] at H
    exact absurd H (by simp)
  ·rw [if_neg c6] at H
   exact absurd H (by simp)
 ·rw [if_neg c5] at H
  exact absurd H (by simp)

def nat_Bits.f (k : Nat) (l0 : List Int) : Option (Int) := (nat_size.f k l0).bind fun t1259 => (if t1259 = 0 then (some 0) else (if 0 ≤ (wrap64 (t1259 - 1)) then (if (wrap64 (t1259 - 1)) < (l0.length : Int) then ((limb_Len.f k (rd l0 (wrap64 (t1259 - 1)))).bind fun t1261 => (some (wrap64 ((wrap64 (64 * (wrap64 (t1259 - 1)))) + t1261)))) else (none)) else (none)))
set_option maxHeartbeats 8000000 in
set_option maxRecDepth 100000 in
theorem nat_Bits.calls (k : Nat) (A0 : Option Addr) (c0 : Nat) (l0 : List Int) (r : Int) (w : World) (hr0 : Kd.C (Kd.int .u64) w A0 l0.length l0) (hc0 : l0.length ≤ c0) (h : nat_Bits.f k l0 = some r) :
  Calls Try.prog 114 #[.slice A0 l0.length c0] w fun e w' => e = .returned (.int .i64 r) ∧ Drawn0 w w' := by
 have HR0 := Aside0.mk hr0
 have HC0 := Aside0.mk hc0
 clear hr0 hc0
 have H := h
 clear h
 unfold nat_Bits.f at H
 obtain ⟨t1259, A2, H⟩ := bnd H
 refine if c3 : t1259 = 0 then ?p113_ else ?n113_
 case' p113_ =>
  rw [if_pos c3] at H
  have c3b0 : (t1259 == 0) = true := beq_iff_eq.mpr c3
  have c3b1 : (t1259 != 0) = false := bne_eq_false_iff_eq.mpr c3
  clear c3
  obtain rfl := Option.some.inj H
 case' n113_ =>
  rw [if_neg c3] at H
  have c3b0 : (t1259 == 0) = false := beq_eq_false_iff_ne.mpr c3
  have c3b1 : (t1259 != 0) = true := bne_iff_ne.mpr c3
  obtain ⟨ji4, hji4⟩ : ∃ j_ : Int, (wrap64 (t1259 - 1)) = j_ := ⟨_, rfl⟩
  rw [hji4] at H
  (try rw [hji4] at A2)
  have hji4w : (IntKind.i64.wrap (t1259 - 1)) = ji4 := (i64_w _).trans hji4
  refine if c5 : 0 ≤ (ji4) then ?p114_ else ?n114_
  case' p114_ =>
   rw [if_pos c5] at H
   have c5b0 : decide (0 ≤ (ji4)) = true := decide_eq_true c5
   clear c5
   refine if c6 : (ji4) < (l0.length : Int) then ?p115_ else ?n115_
   case' p115_ =>
    rw [if_pos c6] at H
    have c6b0 : decide ((ji4) < (l0.length : Int)) = true := decide_eq_true c6
    clear c6
    obtain ⟨t1261, A7, H⟩ := bnd H
    obtain rfl := Option.some.inj H
   case n115_ =>
    rw [if_neg c6] at H
    exact absurd H (by simp)
  case n114_ =>
   rw [if_neg c5] at H
   exact absurd H (by simp)
 case p113_ | n113_ =>
  go_enter Try.func114, Try.ntmps114
  go_wp2_with (first | ((with_reducible refine gate_callee (f := 149) rfl ?_); refine goesL_ (some 5) rfl rfl Try.func149 (by kernel_rfl) rfl #[.slice A0 l0.length c0] rfl lx ?_; (with_reducible refine (nat_size.calls k _ _ l0 t1259 _ ?side1 ?side2 A2.out).mono ?_); (case side1 => exact cs HR0.out); (case side2 => exact HC0.out); rintro e w' ⟨rfl, ⟨nd, rfl⟩⟩; refine ⟨_, rfl, ?_⟩; have p1260 : 0 ≤ ((ji4) : Int) := of_decide_eq_true (by first | (with_reducible assumption) | assumption); have q1260 : (ji4) < (l0.length : Int) := of_decide_eq_true (by first | (with_reducible assumption) | assumption); obtain ⟨ad1260, e1260, hx1260_0⟩ := Kd.at_int HR0.out (ji4) p1260 q1260; cases e1260; replace p1260 := eq_true p1260; replace q1260 := eq_true q1260) | ((with_reducible refine gate_callee (f := 87) rfl ?_); refine goesL_ (some 16) rfl rfl Try.func87 (by kernel_rfl) rfl #[.int .u64 (rd l0 (ji4))] rfl (by (try simp only [List.map_toArray, List.map_cons, List.map_nil]); first | done | (simp only [hji4]; rfl) | rfl | (simp only [List.length_drop, List.length_take]; rfl) | (simp only [*]; done)) ?_; (with_reducible refine (limb_Len.calls k (rd l0 (ji4)) t1261 _ A7.out).mono ?_); rintro e w' ⟨rfl, ⟨nd, rfl⟩⟩; refine ⟨_, rfl, ?_⟩) | ((with_reducible refine gate_callee (f := 149) rfl ?_); refine goesL_ (some 5) rfl rfl Try.func149 (by kernel_rfl) rfl #[.slice A0 l0.length c0] rfl lx ?_; (with_reducible refine (nat_size.calls k _ _ l0 t1259 _ ?side1 ?side2 A2.out).mono ?_); (case side1 => exact cs HR0.out); (case side2 => exact HC0.out); rintro e w' ⟨rfl, ⟨nd, rfl⟩⟩; refine ⟨_, rfl, ?_⟩))
  go_ret
  first | (exact ⟨by first | rfl | (simp; done) | (simp only [← hji4] <;> (first | rfl | simp)) | (simp [*]; done), by repeat (first | exact Drawn0.refl _ | apply Drawn0.step)⟩) | (exact ⟨by first | rfl | (simp; done) | (simp [*]; done), by repeat (first | exact Drawn0.refl _ | apply Drawn0.step)⟩)

mutual
def nat_Add.l0 : Nat → List Int → List Int → Int → List Int → Int → Int → Option (List Int)
 | 0, _, _, _, _, _, _ => none
 | k + 1, x1, x5, x6, x21, x22, x23 => if x23 < x22 then (if 0 ≤ x23 then (if x23 < (x21.length : Int) then (if x23 < (x1.length : Int) then ((limb_Add.f (rd x21 x23) (rd x1 x23) x6).bind fun bt1203 => (if x5.length < 17592186044416 then (nat_Add.l0 k x1 (x5 ++ [bt1203.1]) bt1203.2 x21 x22 (wrap64 (x23 + 1))) else (none))) else ((limb_Add.f (rd x21 x23) 0 x6).bind fun bt1208 => (if x5.length < 17592186044416 then (nat_Add.l0 k x1 (x5 ++ [bt1208.1]) bt1208.2 x21 x22 (wrap64 (x23 + 1))) else (none)))) else (none)) else (none)) else (if x5.length < 17592186044416 then ((nat_Trim.f k (x5 ++ [x6])).bind fun t1216 => (some t1216)) else (none))
def nat_Add.l1 : Nat → List Int → List Int → Int → List Int → Int → Int → Option (List Int)
 | 0, _, _, _, _, _, _ => none
 | k + 1, x1, x5, x6, x21, x22, x23 => if x23 < x22 then (if 0 ≤ x23 then (if x23 < (x21.length : Int) then (if x23 < (x1.length : Int) then ((limb_Add.f (rd x21 x23) (rd x1 x23) x6).bind fun bt1224 => (if x5.length < 17592186044416 then (nat_Add.l1 k x1 (x5 ++ [bt1224.1]) bt1224.2 x21 x22 (wrap64 (x23 + 1))) else (none))) else ((limb_Add.f (rd x21 x23) 0 x6).bind fun bt1229 => (if x5.length < 17592186044416 then (nat_Add.l1 k x1 (x5 ++ [bt1229.1]) bt1229.2 x21 x22 (wrap64 (x23 + 1))) else (none)))) else (none)) else (none)) else (if x5.length < 17592186044416 then ((nat_Trim.f k (x5 ++ [x6])).bind fun t1237 => (some t1237)) else (none))
end
def nat_Add.f (k : Nat) (l0 : List Int) (l1 : List Int) : Option (List Int) := if (l0.length : Int) < (l1.length : Int) then (if 0 ≤ (wrap64 ((l1.length : Int) + 1)) then (if (wrap64 ((l1.length : Int) + 1) : Int).toNat ≤ 35184372088832 then (nat_Add.l0 k l0 (List.replicate 0 0) 0 l1 (l1.length : Int) 0) else (none)) else (none)) else (if 0 ≤ (wrap64 ((l0.length : Int) + 1)) then (if (wrap64 ((l0.length : Int) + 1) : Int).toNat ≤ 35184372088832 then (nat_Add.l1 k l1 (List.replicate 0 0) 0 l0 (l0.length : Int) 0) else (none)) else (none))
set_option maxHeartbeats 8000000 in
set_option maxRecDepth 100000 in
theorem nat_Add.calls (k : Nat) (A0 : Option Addr) (c0 : Nat) (l0 : List Int) (A1 : Option Addr) (c1 : Nat) (l1 : List Int) (r : List Int) (w : World) (hr0 : Kd.C (Kd.int .u64) w A0 l0.length l0) (hc0 : l0.length ≤ c0) (hr1 : Kd.C (Kd.int .u64) w A1 l1.length l1) (hc1 : l1.length ≤ c1) (h : nat_Add.f k l0 l1 = some r) :
  Calls Try.prog 111 #[.slice A0 l0.length c0, .slice A1 l1.length c1] w fun e w' => ∃ v0_ : Value, e = .returned (v0_) ∧ Kd.R (Kd.int .u64) 22 w' w.heap.size (fun _ => True) v0_ r ∧ Below w.heap.size w w' := by
 have HR0 := Aside0.mk hr0
 have HC0 := Aside0.mk hc0
 clear hr0 hc0
 have HR1 := Aside0.mk hr1
 have HC1 := Aside0.mk hc1
 clear hr1 hc1
 have HB := Aside0.mk (Below.refl w.heap.size w)
 have H := h
 clear h
 unfold nat_Add.f at H
 by_cases c3 : (l0.length : Int) < (l1.length : Int)
 ·rw [if_pos c3] at H
  have c3b0 : decide ((l0.length : Int) < (l1.length : Int)) = true := decide_eq_true c3
  have c3b1 : decide (l0.length < l1.length) = true := decide_eq_true (Int.ofNat_lt.mp c3)
  clear c3
  obtain ⟨ji4, hji4⟩ : ∃ j_ : Int, (wrap64 ((l1.length : Int) + 1)) = j_ := ⟨_, rfl⟩
  rw [hji4] at H
  have hji4w : (IntKind.i64.wrap ((l1.length : Int) + 1)) = ji4 := (i64_w _).trans hji4
  by_cases c5 : 0 ≤ (ji4)
  ·rw [if_pos c5] at H
   have c5b0 := eq_true c5
   have c5b1 : decide (0 ≤ (ji4)) = true := decide_eq_true c5
   clear c5
   by_cases c6 : (ji4 : Int).toNat ≤ 35184372088832
   ·rw [if_pos c6] at H
    have c6b0 := eq_true c6
    have c6b1 : decide ((ji4 : Int).toNat ≤ 35184372088832) = true := decide_eq_true c6
    clear c6
    obtain ⟨y1198, hy1198⟩ : ∃ y_ : List Int, y_ = (List.replicate 0 0) := ⟨_, rfl⟩
    rw [← hy1198] at H
    have Ny1198 := Aside0.mk hy1198
    clear hy1198
    have H' := Aside0.mk H
    clear H
    go_enter Try.func111, Try.ntmps111
    go_wp2_with (first | ((with_reducible refine gate_dst (N := 20) rfl ?_); refine Kd.R_makecap (Kd.int .u64) _ 22 rfl (N := 20) rfl 30 _ _ rfl 0 ji4 rfl rfl Try.underlying30 (.int .u64 0) 8 info22 rfl (by decide) (by omega) 0 (ok := fun _ => True) (okp := fun _ => True) rfl (fun _ hk => hk) trivial (by omega) (of_decide_eq_true (by first | (with_reducible assumption) | assumption)) (Nat.le_trans (Nat.mul_le_mul_right _ (of_decide_eq_true (by first | (with_reducible assumption) | assumption) : (ji4 : Int).toNat ≤ 35184372088832)) (by omega)) (Below.refl _ _) (Nat.le_refl _) ?_; intro v1199 w7 ho8 hb hg_ hnew_; clear hg_ hnew_; (first | rw [← Ny1198.out] at ho8 | (simp only [Int.reduceToNat] at ho8; rw [← Ny1198.out] at ho8)); refine sw2 ⟨Kd.R_lower ho8 (below_size (bb HB.out))⟩ ⟨below_step (bb HB.out) hb⟩ ?_; clear HB; intro HO1200 HB; clear hb ho8))
    go_loopg [5, 6, 23] k (fun kq v5 v6 v23 w' => ∃ (x5_1 : List Int) (x6_1 : Int) (x23_1 : Int), v6 = .int .u64 x6_1 ∧ v23 = .int .i64 x23_1 ∧ Aside0 (nat_Add.l0 kq l0 x5_1 x6_1 l1 (l1.length : Int) x23_1 = some r) ∧ Aside0 (kq ≤ k) ∧ Aside0 (Kd.R (Kd.int .u64) 22 w' w.heap.size (fun _ => True) v5 x5_1) ∧ Aside0 (Below w.heap.size w w'))
    case atStart => exact ⟨(y1198), (0), (0), (by first | rfl | (simp; done) | (simp [*]; done)), (by first | rfl | (simp; done) | (simp [*]; done)), H', ⟨Nat.le_refl _⟩, ⟨by (with_reducible repeat (first | apply Kd.R_alloc | apply Kd.R_drewN | apply Kd.R_drew)); exact HO1200.out⟩, ⟨bb HB.out⟩⟩
    case round =>
     clear H'
     obtain ⟨x5_1, x6_1, x23_1, rfl, rfl, HA, HK1, HO_5, HB⟩ := hrel
     cases gk with
     | zero => exact absurd HA.out (by simp [nat_Add.l0])
     | succ k1 =>
      have H := HA.out
      clear HA
      simp only [nat_Add.l0] at H
      refine if c9 : x23_1 < (l1.length : Int) then ?p24_ else ?n24_
      case' p24_ =>
       rw [if_pos c9] at H
       have c9b0 : decide (x23_1 < (l1.length : Int)) = true := decide_eq_true c9
       clear c9
       refine if c10 : 0 ≤ x23_1 then ?p25_ else ?n25_
       case' p25_ =>
        rw [if_pos c10] at H
        have c10b0 : decide (0 ≤ x23_1) = true := decide_eq_true c10
        clear c10
        refine if c11 : x23_1 < (l1.length : Int) then ?p26_ else ?n26_
        case' p26_ =>
         rw [if_pos c11] at H
         have c11b0 : decide (x23_1 < (l1.length : Int)) = true := decide_eq_true c11
         clear c11
         refine if c12 : x23_1 < (l0.length : Int) then ?p27_ else ?n27_
         case' p27_ =>
          rw [if_pos c12] at H
          have c12b0 : decide (x23_1 < (l0.length : Int)) = true := decide_eq_true c12
          clear c12
          obtain ⟨⟨t1203, t1204⟩, A13, H⟩ := bnd H
          dsimp only at H
          refine if c14 : x5_1.length < 17592186044416 then ?p28_ else ?n28_
          case' p28_ =>
           rw [if_pos c14] at H
           have LMc14 := Aside0.mk c14
           clear c14
           obtain ⟨y1205, hy1205⟩ : ∃ y_ : List Int, y_ = (x5_1 ++ [t1203]) := ⟨_, rfl⟩
           rw [← hy1205] at H
           have Ny1205 := Aside0.mk hy1205
           clear hy1205
           have H' := Aside0.mk H
           clear H
           have p1201 : 0 ≤ (x23_1 : Int) := of_decide_eq_true (by first | (with_reducible assumption) | assumption)
           have q1201 : x23_1 < (l1.length : Int) := of_decide_eq_true (by first | (with_reducible assumption) | assumption)
           obtain ⟨ad1201, e1201, hx1201_0⟩ := Kd.at_int HR1.out x23_1 p1201 q1201
           cases e1201
           replace hx1201_0 := (HB.out.cell (World.block_lt_of_cell? w _ hx1201_0)).trans hx1201_0
           replace p1201 := eq_true p1201
           replace q1201 := eq_true q1201
           have p1202 : 0 ≤ (x23_1 : Int) := of_decide_eq_true (by first | (with_reducible assumption) | assumption)
           have q1202 : x23_1 < (l0.length : Int) := of_decide_eq_true (by first | (with_reducible assumption) | assumption)
           obtain ⟨ad1202, e1202, hx1202_0⟩ := Kd.at_int HR0.out x23_1 p1202 q1202
           cases e1202
           replace hx1202_0 := (HB.out.cell (World.block_lt_of_cell? w _ hx1202_0)).trans hx1202_0
           replace p1202 := eq_true p1202
           replace q1202 := eq_true q1202
          case n28_ =>
           rw [if_neg c14] at H
           exact absurd H (by simp)
         case' n27_ =>
          rw [if_neg c12] at H
          have c12b0 : decide (x23_1 < (l0.length : Int)) = false := decide_eq_false c12
          clear c12
          obtain ⟨⟨t1208, t1209⟩, A16, H⟩ := bnd H
          dsimp only at H
          refine if c17 : x5_1.length < 17592186044416 then ?p29_ else ?n29_
          case' p29_ =>
           rw [if_pos c17] at H
           have LMc17 := Aside0.mk c17
           clear c17
           obtain ⟨y1210, hy1210⟩ : ∃ y_ : List Int, y_ = (x5_1 ++ [t1208]) := ⟨_, rfl⟩
           rw [← hy1210] at H
           have Ny1210 := Aside0.mk hy1210
           clear hy1210
           have H' := Aside0.mk H
           clear H
           have p1201 : 0 ≤ (x23_1 : Int) := of_decide_eq_true (by first | (with_reducible assumption) | assumption)
           have q1201 : x23_1 < (l1.length : Int) := of_decide_eq_true (by first | (with_reducible assumption) | assumption)
           obtain ⟨ad1201, e1201, hx1201_0⟩ := Kd.at_int HR1.out x23_1 p1201 q1201
           cases e1201
           replace hx1201_0 := (HB.out.cell (World.block_lt_of_cell? w _ hx1201_0)).trans hx1201_0
           replace p1201 := eq_true p1201
           replace q1201 := eq_true q1201
          case n29_ =>
           rw [if_neg c17] at H
           exact absurd H (by simp)
        case n26_ =>
         rw [if_neg c11] at H
         exact absurd H (by simp)
       case n25_ =>
        rw [if_neg c10] at H
        exact absurd H (by simp)
      case n24_ =>
       rw [if_neg c9] at H
       have c9b0 : decide (x23_1 < (l1.length : Int)) = false := decide_eq_false c9
       clear c9
       refine if c19 : x5_1.length < 17592186044416 then ?p30_ else ?n30_
       case p30_ =>
        rw [if_pos c19] at H
        have LMc19 := Aside0.mk c19
        clear c19
        obtain ⟨y1213, hy1213⟩ : ∃ y_ : List Int, y_ = (x5_1 ++ [x6_1]) := ⟨_, rfl⟩
        rw [← hy1213] at H
        have Ny1213 := Aside0.mk hy1213
        clear hy1213
        obtain ⟨t1216, A20, H⟩ := bnd H
        obtain rfl := Option.some.inj H
        go_wp2_with (first | ((with_reducible refine gate_builtin (b := .append) (xs := #[.tmp 48, .tmp 50]) rfl ?_); at_builtin; refine Kd.R_append (Kd.int .u64) (w0 := w) w.heap.size rfl (.tmp 48) (.tmp 50) 30 22 (.int .u64 0) 8 rfl Try.underlying30 info22 rfl (by decide) (by omega) u5 x5_1 x6_1 [.int .u64 x6_1] (fun _ => True) (fun _ => False) rfl rfl ?aP (fun _ hk => hk.elim) ?aF ?aO ?aB ?aS ?aL ?_; (case aP => exact rfl); (case aB => exact (bb HB.out)); (case aF => exact (fun _ _ => trivial)); (case aO => exact (st HO_5.out)); (case aS => exact (below_size (bb HB.out))); (case aL => have := LMc19.out; omega); intro v1214 w21 ho hb hg hat; rw [← Ny1213.out] at ho; refine sw2 ⟨hb⟩ ⟨ho⟩ ?_; clear HB HO_5; intro HB HO1215; clear ho hb hg hat; obtain ⟨Ao22, co22, eo22⟩ := Kd.R_slice HO1215.out; subst eo22) | ((with_reducible refine gate_callee (f := 148) rfl ?_); refine goesL_ (some 52) rfl rfl Try.func148 (by kernel_rfl) rfl #[.slice Ao22 y1213.length co22] rfl lx ?_; (with_reducible refine (nat_Trim.calls k1 _ _ y1213 t1216 _ ?side1 ?side2 A20.out).mono ?_); (case side1 => exact cs (Kd.R_reads' HO1215.out).2.2); (case side2 => exact (Kd.R_reads' HO1215.out).2.1); rintro e w23 ⟨v1217, rfl, ho0, hb⟩; refine ⟨_, rfl, ?_⟩; refine sw3 ⟨Kd.R_elder' (st HO1215.out) (Kd.R_base ho0) hb⟩ ⟨Kd.R_lower (Kd.R_new' ho0 (Kd.R_lt (st HO1215.out))) (below_size (bb HB.out))⟩ ⟨below_step (bb HB.out) hb⟩ ?_; clear HO1215 HB; intro HO1215 HO1218 HB))
        go_ret
        exact ⟨_, by first | rfl | (simp [errW_none, errW_some] <;> rfl) | (simp only [← hji4]; first | rfl | (simp [errW_none, errW_some] <;> rfl)) | (simp [*, errW_none, errW_some] <;> rfl), by (with_reducible repeat (first | apply Kd.R_alloc | apply Kd.R_drewN | apply Kd.R_drew)); exact Kd.R_mono HO1218.out (fun _ hk => trivial), hbb⟩
       case n30_ =>
        rw [if_neg c19] at H
        exact absurd H (by simp)
      case p27_ | n27_ =>
       go_wp2_with (first | ((with_reducible refine gate_callee (f := 147) rfl ?_); refine goesL_ (some 40) rfl rfl Try.func147 (by kernel_rfl) rfl #[.int .u64 (rd l1 x23_1), .int .u64 (rd l0 x23_1), .int .u64 x6_1] rfl lx ?_; (with_reducible refine (limb_Add.calls (rd l1 x23_1) (rd l0 x23_1) x6_1 t1203 t1204 _ A13.out).mono ?_); rintro e w' ⟨rfl, ⟨nd, rfl⟩⟩; refine ⟨_, rfl, ?_⟩) | ((with_reducible refine gate_builtin (b := .append) (xs := #[.tmp 43, .tmp 45]) rfl ?_); at_builtin; refine Kd.R_append (Kd.int .u64) (w0 := w) w.heap.size rfl (.tmp 43) (.tmp 45) 30 22 (.int .u64 0) 8 rfl Try.underlying30 info22 rfl (by decide) (by omega) u5 x5_1 t1203 [.int .u64 t1203] (fun _ => True) (fun _ => False) rfl rfl ?aP (fun _ hk => hk.elim) ?aF ?aO ?aB ?aS ?aL ?_; (case aP => exact rfl); (case aB => exact (bb HB.out)); (case aF => exact (fun _ _ => trivial)); (case aO => exact (st HO_5.out)); (case aS => exact (below_size (bb HB.out))); (case aL => have := LMc14.out; omega); intro v1206 w15 ho hb hg hat; rw [← Ny1205.out] at ho; refine sw2 ⟨hb⟩ ⟨ho⟩ ?_; clear HB HO_5; intro HB HO1207; clear ho hb hg hat) | ((with_reducible refine gate_callee (f := 147) rfl ?_); refine goesL_ (some 40) rfl rfl Try.func147 (by kernel_rfl) rfl #[.int .u64 (rd l1 x23_1), .int .u64 0, .int .u64 x6_1] rfl lx ?_; (with_reducible refine (limb_Add.calls (rd l1 x23_1) 0 x6_1 t1208 t1209 _ A16.out).mono ?_); rintro e w' ⟨rfl, ⟨nd, rfl⟩⟩; refine ⟨_, rfl, ?_⟩) | ((with_reducible refine gate_builtin (b := .append) (xs := #[.tmp 43, .tmp 45]) rfl ?_); at_builtin; refine Kd.R_append (Kd.int .u64) (w0 := w) w.heap.size rfl (.tmp 43) (.tmp 45) 30 22 (.int .u64 0) 8 rfl Try.underlying30 info22 rfl (by decide) (by omega) u5 x5_1 t1208 [.int .u64 t1208] (fun _ => True) (fun _ => False) rfl rfl ?aP (fun _ hk => hk.elim) ?aF ?aO ?aB ?aS ?aL ?_; (case aP => exact rfl); (case aB => exact (bb HB.out)); (case aF => exact (fun _ _ => trivial)); (case aO => exact (st HO_5.out)); (case aS => exact (below_size (bb HB.out))); (case aL => have := LMc17.out; omega); intro v1211 w18 ho hb hg hat; rw [← Ny1210.out] at ho; refine sw2 ⟨hb⟩ ⟨ho⟩ ?_; clear HB HO_5; intro HB HO1212; clear ho hb hg hat))
       go_roundg k1
       case measure => have := HK1.out; omega
       case rel => first | (exact ⟨(y1205), (t1204), (wrap64 (x23_1 + 1)), (by first | rfl | (simp; done) | (simp [*]; done)), (by first | rfl | (simp; done) | (simp [*]; done)), H', ⟨by have := HK1.out; omega⟩, ⟨by (with_reducible repeat (first | apply Kd.R_alloc | apply Kd.R_drewN | apply Kd.R_drew)); exact HO1207.out⟩, ⟨bb HB.out⟩⟩) | (exact ⟨(y1210), (t1209), (wrap64 (x23_1 + 1)), (by first | rfl | (simp; done) | (simp [*]; done)), (by first | rfl | (simp; done) | (simp [*]; done)), H', ⟨by have := HK1.out; omega⟩, ⟨by (with_reducible repeat (first | apply Kd.R_alloc | apply Kd.R_drewN | apply Kd.R_drew)); exact HO1212.out⟩, ⟨bb HB.out⟩⟩)
   ·rw [if_neg c6] at H
    exact absurd H (by simp)
  ·rw [if_neg c5] at H
   exact absurd H (by simp)
 ·rw [if_neg c3] at H
  have c3b0 : decide ((l0.length : Int) < (l1.length : Int)) = false := decide_eq_false c3
  have c3b1 : decide (l0.length < l1.length) = false := decide_eq_false (fun h => c3 (Int.ofNat_lt.mpr h))
  clear c3
  obtain ⟨ji24, hji24⟩ : ∃ j_ : Int, (wrap64 ((l0.length : Int) + 1)) = j_ := ⟨_, rfl⟩
  rw [hji24] at H
  have hji24w : (IntKind.i64.wrap ((l0.length : Int) + 1)) = ji24 := (i64_w _).trans hji24
  by_cases c25 : 0 ≤ (ji24)
  ·rw [if_pos c25] at H
   have c25b0 := eq_true c25
   have c25b1 : decide (0 ≤ (ji24)) = true := decide_eq_true c25
   clear c25
   by_cases c26 : (ji24 : Int).toNat ≤ 35184372088832
   ·rw [if_pos c26] at H
    have c26b0 := eq_true c26
    have c26b1 : decide ((ji24 : Int).toNat ≤ 35184372088832) = true := decide_eq_true c26
    clear c26
    obtain ⟨y1219, hy1219⟩ : ∃ y_ : List Int, y_ = (List.replicate 0 0) := ⟨_, rfl⟩
    rw [← hy1219] at H
    have Ny1219 := Aside0.mk hy1219
    clear hy1219
    have H' := Aside0.mk H
    clear H
    go_enter Try.func111, Try.ntmps111
    go_wp2_with (first | ((with_reducible refine gate_dst (N := 20) rfl ?_); refine Kd.R_makecap (Kd.int .u64) _ 22 rfl (N := 20) rfl 30 _ _ rfl 0 ji24 rfl rfl Try.underlying30 (.int .u64 0) 8 info22 rfl (by decide) (by omega) 0 (ok := fun _ => True) (okp := fun _ => True) rfl (fun _ hk => hk) trivial (by omega) (of_decide_eq_true (by first | (with_reducible assumption) | assumption)) (Nat.le_trans (Nat.mul_le_mul_right _ (of_decide_eq_true (by first | (with_reducible assumption) | assumption) : (ji24 : Int).toNat ≤ 35184372088832)) (by omega)) (Below.refl _ _) (Nat.le_refl _) ?_; intro v1220 w27 ho28 hb hg_ hnew_; clear hg_ hnew_; (first | rw [← Ny1219.out] at ho28 | (simp only [Int.reduceToNat] at ho28; rw [← Ny1219.out] at ho28)); refine sw2 ⟨Kd.R_lower ho28 (below_size (bb HB.out))⟩ ⟨below_step (bb HB.out) hb⟩ ?_; clear HB; intro HO1221 HB; clear hb ho28))
    go_loopg [5, 6, 23] k (fun kq v5 v6 v23 w' => ∃ (x5_1 : List Int) (x6_1 : Int) (x23_1 : Int), v6 = .int .u64 x6_1 ∧ v23 = .int .i64 x23_1 ∧ Aside0 (nat_Add.l1 kq l1 x5_1 x6_1 l0 (l0.length : Int) x23_1 = some r) ∧ Aside0 (kq ≤ k) ∧ Aside0 (Kd.R (Kd.int .u64) 22 w' w.heap.size (fun _ => True) v5 x5_1) ∧ Aside0 (Below w.heap.size w w'))
    case atStart => exact ⟨(y1219), (0), (0), (by first | rfl | (simp; done) | (simp [*]; done)), (by first | rfl | (simp; done) | (simp [*]; done)), H', ⟨Nat.le_refl _⟩, ⟨by (with_reducible repeat (first | apply Kd.R_alloc | apply Kd.R_drewN | apply Kd.R_drew)); exact HO1221.out⟩, ⟨bb HB.out⟩⟩
    case round =>
     clear H'
     obtain ⟨x5_1, x6_1, x23_1, rfl, rfl, HA, HK1, HO_5, HB⟩ := hrel
     cases gk with
     | zero => exact absurd HA.out (by simp [nat_Add.l1])
     | succ k1 =>
      have H := HA.out
      clear HA
      simp only [nat_Add.l1] at H
      refine if c29 : x23_1 < (l0.length : Int) then ?p31_ else ?n31_
      case' p31_ =>
       rw [if_pos c29] at H
       have c29b0 : decide (x23_1 < (l0.length : Int)) = true := decide_eq_true c29
       clear c29
       refine if c30 : 0 ≤ x23_1 then ?p32_ else ?n32_
       case' p32_ =>
        rw [if_pos c30] at H
        have c30b0 : decide (0 ≤ x23_1) = true := decide_eq_true c30
        clear c30
        refine if c31 : x23_1 < (l0.length : Int) then ?p33_ else ?n33_
        case' p33_ =>
         rw [if_pos c31] at H
         have c31b0 : decide (x23_1 < (l0.length : Int)) = true := decide_eq_true c31
         clear c31
         refine if c32 : x23_1 < (l1.length : Int) then ?p34_ else ?n34_
         case' p34_ =>
          rw [if_pos c32] at H
          have c32b0 : decide (x23_1 < (l1.length : Int)) = true := decide_eq_true c32
          clear c32
          obtain ⟨⟨t1224, t1225⟩, A33, H⟩ := bnd H
          dsimp only at H
          refine if c34 : x5_1.length < 17592186044416 then ?p35_ else ?n35_
          case' p35_ =>
           rw [if_pos c34] at H
           have LMc34 := Aside0.mk c34
           clear c34
           obtain ⟨y1226, hy1226⟩ : ∃ y_ : List Int, y_ = (x5_1 ++ [t1224]) := ⟨_, rfl⟩
           rw [← hy1226] at H
           have Ny1226 := Aside0.mk hy1226
           clear hy1226
           have H' := Aside0.mk H
           clear H
           have p1222 : 0 ≤ (x23_1 : Int) := of_decide_eq_true (by first | (with_reducible assumption) | assumption)
           have q1222 : x23_1 < (l0.length : Int) := of_decide_eq_true (by first | (with_reducible assumption) | assumption)
           obtain ⟨ad1222, e1222, hx1222_0⟩ := Kd.at_int HR0.out x23_1 p1222 q1222
           cases e1222
           replace hx1222_0 := (HB.out.cell (World.block_lt_of_cell? w _ hx1222_0)).trans hx1222_0
           replace p1222 := eq_true p1222
           replace q1222 := eq_true q1222
           have p1223 : 0 ≤ (x23_1 : Int) := of_decide_eq_true (by first | (with_reducible assumption) | assumption)
           have q1223 : x23_1 < (l1.length : Int) := of_decide_eq_true (by first | (with_reducible assumption) | assumption)
           obtain ⟨ad1223, e1223, hx1223_0⟩ := Kd.at_int HR1.out x23_1 p1223 q1223
           cases e1223
           replace hx1223_0 := (HB.out.cell (World.block_lt_of_cell? w _ hx1223_0)).trans hx1223_0
           replace p1223 := eq_true p1223
           replace q1223 := eq_true q1223
          case n35_ =>
           rw [if_neg c34] at H
           exact absurd H (by simp)
         case' n34_ =>
          rw [if_neg c32] at H
          have c32b0 : decide (x23_1 < (l1.length : Int)) = false := decide_eq_false c32
          clear c32
          obtain ⟨⟨t1229, t1230⟩, A36, H⟩ := bnd H
          dsimp only at H
          refine if c37 : x5_1.length < 17592186044416 then ?p36_ else ?n36_
          case' p36_ =>
           rw [if_pos c37] at H
           have LMc37 := Aside0.mk c37
           clear c37
           obtain ⟨y1231, hy1231⟩ : ∃ y_ : List Int, y_ = (x5_1 ++ [t1229]) := ⟨_, rfl⟩
           rw [← hy1231] at H
           have Ny1231 := Aside0.mk hy1231
           clear hy1231
           have H' := Aside0.mk H
           clear H
           have p1222 : 0 ≤ (x23_1 : Int) := of_decide_eq_true (by first | (with_reducible assumption) | assumption)
           have q1222 : x23_1 < (l0.length : Int) := of_decide_eq_true (by first | (with_reducible assumption) | assumption)
           obtain ⟨ad1222, e1222, hx1222_0⟩ := Kd.at_int HR0.out x23_1 p1222 q1222
           cases e1222
           replace hx1222_0 := (HB.out.cell (World.block_lt_of_cell? w _ hx1222_0)).trans hx1222_0
           replace p1222 := eq_true p1222
           replace q1222 := eq_true q1222
          case n36_ =>
           rw [if_neg c37] at H
           exact absurd H (by simp)
        case n33_ =>
         rw [if_neg c31] at H
         exact absurd H (by simp)
       case n32_ =>
        rw [if_neg c30] at H
        exact absurd H (by simp)
      case n31_ =>
       rw [if_neg c29] at H
       have c29b0 : decide (x23_1 < (l0.length : Int)) = false := decide_eq_false c29
       clear c29
       refine if c39 : x5_1.length < 17592186044416 then ?p37_ else ?n37_
       case p37_ =>
        rw [if_pos c39] at H
        have LMc39 := Aside0.mk c39
        clear c39
        obtain ⟨y1234, hy1234⟩ : ∃ y_ : List Int, y_ = (x5_1 ++ [x6_1]) := ⟨_, rfl⟩
        rw [← hy1234] at H
        have Ny1234 := Aside0.mk hy1234
        clear hy1234
        obtain ⟨t1237, A40, H⟩ := bnd H
        obtain rfl := Option.some.inj H
        go_wp2_with (first | ((with_reducible refine gate_builtin (b := .append) (xs := #[.tmp 48, .tmp 50]) rfl ?_); at_builtin; refine Kd.R_append (Kd.int .u64) (w0 := w) w.heap.size rfl (.tmp 48) (.tmp 50) 30 22 (.int .u64 0) 8 rfl Try.underlying30 info22 rfl (by decide) (by omega) u5 x5_1 x6_1 [.int .u64 x6_1] (fun _ => True) (fun _ => False) rfl rfl ?aP (fun _ hk => hk.elim) ?aF ?aO ?aB ?aS ?aL ?_; (case aP => exact rfl); (case aB => exact (bb HB.out)); (case aF => exact (fun _ _ => trivial)); (case aO => exact (st HO_5.out)); (case aS => exact (below_size (bb HB.out))); (case aL => have := LMc39.out; omega); intro v1235 w41 ho hb hg hat; rw [← Ny1234.out] at ho; refine sw2 ⟨hb⟩ ⟨ho⟩ ?_; clear HB HO_5; intro HB HO1236; clear ho hb hg hat; obtain ⟨Ao42, co42, eo42⟩ := Kd.R_slice HO1236.out; subst eo42) | ((with_reducible refine gate_callee (f := 148) rfl ?_); refine goesL_ (some 52) rfl rfl Try.func148 (by kernel_rfl) rfl #[.slice Ao42 y1234.length co42] rfl lx ?_; (with_reducible refine (nat_Trim.calls k1 _ _ y1234 t1237 _ ?side1 ?side2 A40.out).mono ?_); (case side1 => exact cs (Kd.R_reads' HO1236.out).2.2); (case side2 => exact (Kd.R_reads' HO1236.out).2.1); rintro e w43 ⟨v1238, rfl, ho0, hb⟩; refine ⟨_, rfl, ?_⟩; refine sw3 ⟨Kd.R_elder' (st HO1236.out) (Kd.R_base ho0) hb⟩ ⟨Kd.R_lower (Kd.R_new' ho0 (Kd.R_lt (st HO1236.out))) (below_size (bb HB.out))⟩ ⟨below_step (bb HB.out) hb⟩ ?_; clear HO1236 HB; intro HO1236 HO1239 HB))
        go_ret
        exact ⟨_, by first | rfl | (simp [errW_none, errW_some] <;> rfl) | (simp only [← hji24]; first | rfl | (simp [errW_none, errW_some] <;> rfl)) | (simp [*, errW_none, errW_some] <;> rfl), by (with_reducible repeat (first | apply Kd.R_alloc | apply Kd.R_drewN | apply Kd.R_drew)); exact Kd.R_mono HO1239.out (fun _ hk => trivial), hbb⟩
       case n37_ =>
        rw [if_neg c39] at H
        exact absurd H (by simp)
      case p34_ | n34_ =>
       go_wp2_with (first | ((with_reducible refine gate_callee (f := 147) rfl ?_); refine goesL_ (some 40) rfl rfl Try.func147 (by kernel_rfl) rfl #[.int .u64 (rd l0 x23_1), .int .u64 (rd l1 x23_1), .int .u64 x6_1] rfl lx ?_; (with_reducible refine (limb_Add.calls (rd l0 x23_1) (rd l1 x23_1) x6_1 t1224 t1225 _ A33.out).mono ?_); rintro e w' ⟨rfl, ⟨nd, rfl⟩⟩; refine ⟨_, rfl, ?_⟩) | ((with_reducible refine gate_builtin (b := .append) (xs := #[.tmp 43, .tmp 45]) rfl ?_); at_builtin; refine Kd.R_append (Kd.int .u64) (w0 := w) w.heap.size rfl (.tmp 43) (.tmp 45) 30 22 (.int .u64 0) 8 rfl Try.underlying30 info22 rfl (by decide) (by omega) u5 x5_1 t1224 [.int .u64 t1224] (fun _ => True) (fun _ => False) rfl rfl ?aP (fun _ hk => hk.elim) ?aF ?aO ?aB ?aS ?aL ?_; (case aP => exact rfl); (case aB => exact (bb HB.out)); (case aF => exact (fun _ _ => trivial)); (case aO => exact (st HO_5.out)); (case aS => exact (below_size (bb HB.out))); (case aL => have := LMc34.out; omega); intro v1227 w35 ho hb hg hat; rw [← Ny1226.out] at ho; refine sw2 ⟨hb⟩ ⟨ho⟩ ?_; clear HB HO_5; intro HB HO1228; clear ho hb hg hat) | ((with_reducible refine gate_callee (f := 147) rfl ?_); refine goesL_ (some 40) rfl rfl Try.func147 (by kernel_rfl) rfl #[.int .u64 (rd l0 x23_1), .int .u64 0, .int .u64 x6_1] rfl lx ?_; (with_reducible refine (limb_Add.calls (rd l0 x23_1) 0 x6_1 t1229 t1230 _ A36.out).mono ?_); rintro e w' ⟨rfl, ⟨nd, rfl⟩⟩; refine ⟨_, rfl, ?_⟩) | ((with_reducible refine gate_builtin (b := .append) (xs := #[.tmp 43, .tmp 45]) rfl ?_); at_builtin; refine Kd.R_append (Kd.int .u64) (w0 := w) w.heap.size rfl (.tmp 43) (.tmp 45) 30 22 (.int .u64 0) 8 rfl Try.underlying30 info22 rfl (by decide) (by omega) u5 x5_1 t1229 [.int .u64 t1229] (fun _ => True) (fun _ => False) rfl rfl ?aP (fun _ hk => hk.elim) ?aF ?aO ?aB ?aS ?aL ?_; (case aP => exact rfl); (case aB => exact (bb HB.out)); (case aF => exact (fun _ _ => trivial)); (case aO => exact (st HO_5.out)); (case aS => exact (below_size (bb HB.out))); (case aL => have := LMc37.out; omega); intro v1232 w38 ho hb hg hat; rw [← Ny1231.out] at ho; refine sw2 ⟨hb⟩ ⟨ho⟩ ?_; clear HB HO_5; intro HB HO1233; clear ho hb hg hat))
       go_roundg k1
       case measure => have := HK1.out; omega
       case rel => first | (exact ⟨(y1226), (t1225), (wrap64 (x23_1 + 1)), (by first | rfl | (simp; done) | (simp [*]; done)), (by first | rfl | (simp; done) | (simp [*]; done)), H', ⟨by have := HK1.out; omega⟩, ⟨by (with_reducible repeat (first | apply Kd.R_alloc | apply Kd.R_drewN | apply Kd.R_drew)); exact HO1228.out⟩, ⟨bb HB.out⟩⟩) | (exact ⟨(y1231), (t1230), (wrap64 (x23_1 + 1)), (by first | rfl | (simp; done) | (simp [*]; done)), (by first | rfl | (simp; done) | (simp [*]; done)), H', ⟨by have := HK1.out; omega⟩, ⟨by (with_reducible repeat (first | apply Kd.R_alloc | apply Kd.R_drewN | apply Kd.R_drew)); exact HO1233.out⟩, ⟨bb HB.out⟩⟩)
   ·rw [if_neg c26] at H
    exact absurd H (by simp)
  ·rw [if_neg c25] at H
   exact absurd H (by simp)

def nat_Of.f (k : Nat) (a0 : Int) : Option (List Int) := (nat_Trim.f k (([a0] : List Int))).bind fun t1256 => (some t1256)
set_option maxHeartbeats 8000000 in
set_option maxRecDepth 100000 in
theorem nat_Of.calls (k : Nat) (a0 : Int) (r : List Int) (w : World) (h : nat_Of.f k a0 = some r) :
  Calls Try.prog 113 #[.int .u64 a0] w fun e w' => ∃ v0_ : Value, e = .returned (v0_) ∧ Kd.R (Kd.int .u64) 22 w' w.heap.size (fun _ => True) v0_ r ∧ Below w.heap.size w w' := by
 have HB := Aside0.mk (Below.refl w.heap.size w)
 have H := h
 clear h
 unfold nat_Of.f at H
 obtain ⟨y1253, hy1253⟩ : ∃ y_ : List Int, y_ = (([a0] : List Int)) := ⟨_, rfl⟩
 rw [← hy1253] at H
 have Ny1253 := Aside0.mk hy1253
 clear hy1253
 obtain ⟨t1256, A2, H⟩ := bnd H
 obtain rfl := Option.some.inj H
 go_enter Try.func113, Try.ntmps113
 go_wp2_with (first | ((with_reducible refine gate_dst (N := 4) rfl ?_); refine Kd.R_lit (Kd.int .u64) _ 22 ?hg (N := 4) ?hd (xs := ([a0] : List Int)) (inner := [.int .u64 a0]) (ok := fun _ => True) (okp := fun _ => True) ?hr ?hp (fun _ hk => hk) trivial (Below.refl _ _) (Nat.le_refl _) (by simp) ?_; (case hd => rfl); (case hg => rfl); (case hr => first | (go_simp; done) | (go_simp; rfl)); (case hp => exact (Reps.one (show Kd.M (Kd.int .u64) _ _ _ a0 [.int .u64 a0] from rfl) (Reps.none _ _))); intro v1254 w3 ho4 hb hg_ hnew_; clear hg_ hnew_; (first | rw [← Ny1253.out] at ho4 | (simp only [Int.reduceToNat] at ho4; rw [← Ny1253.out] at ho4)); refine sw2 ⟨Kd.R_lower ho4 (below_size hbb)⟩ ⟨below_step hbb hb⟩ ?_; clear HB; intro HO1255 HB; clear hb ho4; obtain ⟨Ao5, co5, eo5⟩ := Kd.R_slice HO1255.out; subst eo5) | ((with_reducible refine gate_callee (f := 148) rfl ?_); refine goesL_ (some 5) rfl rfl Try.func148 (by kernel_rfl) rfl #[.slice Ao5 y1253.length co5] rfl lx ?_; (with_reducible refine (nat_Trim.calls k _ _ y1253 t1256 _ ?side1 ?side2 A2.out).mono ?_); (case side1 => exact cs (Kd.R_reads' HO1255.out).2.2); (case side2 => exact (Kd.R_reads' HO1255.out).2.1); rintro e w6 ⟨v1257, rfl, ho0, hb⟩; refine ⟨_, rfl, ?_⟩; refine sw3 ⟨Kd.R_elder' (st HO1255.out) (Kd.R_base ho0) hb⟩ ⟨Kd.R_lower (Kd.R_new' ho0 (Kd.R_lt (st HO1255.out))) (below_size hbb)⟩ ⟨below_step hbb hb⟩ ?_; clear HO1255 HB; intro HO1255 HO1258 HB))
 go_ret
 exact ⟨_, by first | rfl | (simp [errW_none, errW_some] <;> rfl) | (simp [*, errW_none, errW_some] <;> rfl), by (with_reducible repeat (first | apply Kd.R_alloc | apply Kd.R_drewN | apply Kd.R_drew)); exact Kd.R_mono HO1258.out (fun _ hk => trivial), hbb⟩

def nat_Word.f (k : Nat) (l0 : List Int) : Option (Int × Bool) := (nat_size.f k l0).bind fun t1262 => (if t1262 = 0 then (some (0, true)) else (if t1262 = 1 then (if 0 < (l0.length : Int) then (some (rd l0 0, true)) else (none)) else (some (0, false))))
set_option maxHeartbeats 8000000 in
set_option maxRecDepth 100000 in
theorem nat_Word.calls (k : Nat) (A0 : Option Addr) (c0 : Nat) (l0 : List Int) (r1 : Int) (r2 : Bool) (w : World) (hr0 : Kd.C (Kd.int .u64) w A0 l0.length l0) (hc0 : l0.length ≤ c0) (h : nat_Word.f k l0 = some (r1, r2)) :
  Calls Try.prog 115 #[.slice A0 l0.length c0] w fun e w' => e = .returned (.tuple #[.int .u64 r1, .bool r2]) ∧ Drawn0 w w' := by
 have HR0 := Aside0.mk hr0
 have HC0 := Aside0.mk hc0
 clear hr0 hc0
 have H := h
 clear h
 unfold nat_Word.f at H
 obtain ⟨t1262, A2, H⟩ := bnd H
 by_cases c3 : t1262 = 0
 ·rw [if_pos c3] at H
  have c3b0 : (t1262 == 0) = true := beq_iff_eq.mpr c3
  have c3b1 : (t1262 != 0) = false := bne_eq_false_iff_eq.mpr c3
  clear c3
  simp only [Option.some.injEq, Prod.mk.injEq] at H
  obtain ⟨rfl, rfl⟩ := H
  go_enter Try.func115, Try.ntmps115
  go_wp2_with (first | ((with_reducible refine gate_callee (f := 149) rfl ?_); refine goesL_ (some 5) rfl rfl Try.func149 (by kernel_rfl) rfl #[.slice A0 l0.length c0] rfl lx ?_; (with_reducible refine (nat_size.calls k _ _ l0 t1262 _ ?side1 ?side2 A2.out).mono ?_); (case side1 => exact cs HR0.out); (case side2 => exact HC0.out); rintro e w' ⟨rfl, ⟨nd, rfl⟩⟩; refine ⟨_, rfl, ?_⟩))
  go_ret2
  exact ⟨by first | rfl | (simp; done) | (simp [*]; done), by repeat (first | exact Drawn0.refl _ | apply Drawn0.step)⟩
 ·rw [if_neg c3] at H
  have c3b0 : (t1262 == 0) = false := beq_eq_false_iff_ne.mpr c3
  have c3b1 : (t1262 != 0) = true := bne_iff_ne.mpr c3
  by_cases c4 : t1262 = 1
  ·rw [if_pos c4] at H
   have c4b0 : (t1262 == 1) = true := beq_iff_eq.mpr c4
   have c4b1 : (t1262 != 1) = false := bne_eq_false_iff_eq.mpr c4
   clear c4
   by_cases c5 : 0 < (l0.length : Int)
   ·rw [if_pos c5] at H
    have c5b0 : decide (0 < (l0.length : Int)) = true := decide_eq_true c5
    have c5b1 : decide (0 < l0.length) = true := decide_eq_true (by omega)
    clear c5
    simp only [Option.some.injEq, Prod.mk.injEq] at H
    obtain ⟨rfl, rfl⟩ := H
    go_enter Try.func115, Try.ntmps115
    go_wp2_with (first | ((with_reducible refine gate_callee (f := 149) rfl ?_); refine goesL_ (some 5) rfl rfl Try.func149 (by kernel_rfl) rfl #[.slice A0 l0.length c0] rfl lx ?_; (with_reducible refine (nat_size.calls k _ _ l0 t1262 _ ?side1 ?side2 A2.out).mono ?_); (case side1 => exact cs HR0.out); (case side2 => exact HC0.out); rintro e w' ⟨rfl, ⟨nd, rfl⟩⟩; refine ⟨_, rfl, ?_⟩; have p1263 : 0 ≤ (0 : Int) := (by omega); have q1263 : 0 < (l0.length : Int) := of_decide_eq_true (by first | (with_reducible assumption) | assumption); obtain ⟨ad1263, e1263, hx1263_0⟩ := Kd.at_int HR0.out 0 p1263 q1263; cases e1263; have qi1263 : (0 < l0.length) = True := eq_true (by omega); (try rw [show ((0 : Int)).toNat = 0 from rfl] at hx1263_0); (try rw [Addr.add_zero'] at hx1263_0); replace p1263 := eq_true p1263; replace q1263 := eq_true q1263))
    go_ret2
    exact ⟨by first | rfl | (simp; done) | (simp [*]; done), by repeat (first | exact Drawn0.refl _ | apply Drawn0.step)⟩
   ·rw [if_neg c5] at H
    exact absurd H (by simp)
  ·rw [if_neg c4] at H
   have c4b0 : (t1262 == 1) = false := beq_eq_false_iff_ne.mpr c4
   have c4b1 : (t1262 != 1) = true := bne_iff_ne.mpr c4
   simp only [Option.some.injEq, Prod.mk.injEq] at H
   obtain ⟨rfl, rfl⟩ := H
   go_enter Try.func115, Try.ntmps115
   go_wp2_with (first | ((with_reducible refine gate_callee (f := 149) rfl ?_); refine goesL_ (some 5) rfl rfl Try.func149 (by kernel_rfl) rfl #[.slice A0 l0.length c0] rfl lx ?_; (with_reducible refine (nat_size.calls k _ _ l0 t1262 _ ?side1 ?side2 A2.out).mono ?_); (case side1 => exact cs HR0.out); (case side2 => exact HC0.out); rintro e w' ⟨rfl, ⟨nd, rfl⟩⟩; refine ⟨_, rfl, ?_⟩))
   go_ret2
   exact ⟨by first | rfl | (simp; done) | (simp [*]; done), by repeat (first | exact Drawn0.refl _ | apply Drawn0.step)⟩

def nat_Shr.l0 : Nat → List Int → Int → List Int → Int → Option (List Int)
 | 0, _, _, _, _ => none
 | k + 1, x0, x6, x7, x8 => if x8 < (x0.length : Int) then (if (wrap64 (x8 + 1)) < (x0.length : Int) then (if 0 ≤ (wrap64 (x8 + 1)) then (if 0 ≤ x8 then (if x7.length < 17592186044416 then (nat_Shr.l0 k x0 x6 (x7 ++ [Go.bits .or .u64 ((rd x0 x8) / 2 ^ x6.toNat) (IntKind.u64.wrap ((IntKind.u64.wrap ((rd x0 (wrap64 (x8 + 1))) * 2)) * 2 ^ (63 - x6).toNat))]) (wrap64 (x8 + 1))) else (none)) else (none)) else (none)) else (if 0 ≤ x8 then (if x7.length < 17592186044416 then (nat_Shr.l0 k x0 x6 (x7 ++ [Go.bits .or .u64 ((rd x0 x8) / 2 ^ x6.toNat) 0]) (wrap64 (x8 + 1))) else (none)) else (none))) else ((nat_Trim.f k x7).bind fun t1276 => (some t1276))
def nat_Shr.f (k : Nat) (l0 : List Int) (a1 : Int) : Option (List Int) := if (wrap64 ((mx a1 0) / 64)) ≥ (l0.length : Int) then (some ([] : List Int)) else (if 0 ≤ (wrap64 ((l0.length : Int) - (wrap64 ((mx a1 0) / 64)))) then (if (wrap64 ((l0.length : Int) - (wrap64 ((mx a1 0) / 64))) : Int).toNat ≤ 35184372088832 then (nat_Shr.l0 k l0 ((mx a1 0) % 64) (List.replicate 0 0) (wrap64 ((mx a1 0) / 64))) else (none)) else (none))
def nat_Shr.T12 : Bool × List (List Nat × List Nat) := (true, [([], []), ([], []), ([], []), ([1, 2], [1, 2]), ([3], [3]), ([], []), ([4, 5], [4, 5]), ([], []), ([7], [7]), ([], []), ([9], [9]), ([8, 10], [8, 10]), ([6, 11], [6, 11]), ([12], [12]), ([0, 13], [0, 13]), ([14, 14, 0, 1, 2, 3, 4, 5, 6, 7, 8, 9, 10, 11, 12, 13, 14], [0, 14])])
def nat_Shr.B12 : List Nat := [0, 0, 0, 6, 14, 0, 62, 0, 128, 0, 512, 1920, 4094, 8190, 16383, 32767]
theorem nat_Shr.tab12 : rtab .any (opsOf Try.f116 12) = nat_Shr.T12 := by kernel_rfl
theorem nat_Shr.bits12 : waitsOk nat_Shr.T12.2 nat_Shr.B12 = true := by kernel_rfl
set_option maxHeartbeats 8000000 in
set_option maxRecDepth 100000 in
theorem nat_Shr.calls (k : Nat) (A0 : Option Addr) (c0 : Nat) (l0 : List Int) (a1 : Int) (r : List Int) (w : World) (hr0 : Kd.C (Kd.int .u64) w A0 l0.length l0) (hc0 : l0.length ≤ c0) (h : nat_Shr.f k l0 a1 = some r) :
  Calls Try.prog 116 #[.slice A0 l0.length c0, .int .i64 a1] w fun e w' => ∃ v0_ : Value, e = .returned (v0_) ∧ Kd.R (Kd.int .u64) 22 w' w.heap.size (fun _ => True) v0_ r ∧ Below w.heap.size w w' := by
 have hwlu64_0 : IntKind.u64.wrap 0 = 0 := by decide
 have HR0 := Aside0.mk hr0
 have HC0 := Aside0.mk hc0
 clear hr0 hc0
 have HB := Aside0.mk (Below.refl w.heap.size w)
 have H := h
 clear h
 unfold nat_Shr.f at H
 obtain ⟨ji3, hji3⟩ : ∃ j_ : Int, (mx a1 0) = j_ := ⟨_, rfl⟩
 rw [hji3] at H
 (try (have hji3l : 0 ≤ ji3 := by (rw [← hji3]; unfold mx; (repeat' split) <;> omega)))
 (try (have hji3m : 0 ≤ ji3 := by omega))
 (try (have hji3t : ∀ m_ : Int, Int.tdiv ji3 m_ = ji3 / m_ := fun m_ => Int.tdiv_eq_ediv_of_nonneg (by omega)))
 have hji3_ : (if a1 < 0 then 0 else a1) = ji3 := hji3
 by_cases c4 : (wrap64 ((ji3) / 64)) ≥ (l0.length : Int)
 ·rw [if_pos c4] at H
  have c4b0 : decide ((l0.length : Int) ≤ (wrap64 ((ji3) / 64))) = true := decide_eq_true c4
  clear c4
  obtain rfl := Option.some.inj H
  go_enter Try.func116, Try.ntmps116
  go_wp2
  go_ret
  exact ⟨_, by first | rfl | (simp [errW_none, errW_some] <;> rfl) | (simp only [← hji3]; first | rfl | (simp [errW_none, errW_some] <;> rfl)) | (simp [*, errW_none, errW_some] <;> rfl), by first | exact Kd.R_nil _ _ _ _ _ | exact Kd.N_nil _ _ _ _ _ | exact Kd.V_nil _ _ _ _ _ | exact Kd.Q_nil _ _ _ _ _ | exact Kd.S_nil _ _ _ _ _, hbb⟩
 ·rw [if_neg c4] at H
  have c4b0 : decide ((l0.length : Int) ≤ (wrap64 ((ji3) / 64))) = false := decide_eq_false c4
  clear c4
  obtain ⟨ji5, hji5⟩ : ∃ j_ : Int, (wrap64 ((l0.length : Int) - (wrap64 ((ji3) / 64)))) = j_ := ⟨_, rfl⟩
  rw [hji5] at H
  have hji5w : (IntKind.i64.wrap ((l0.length : Int) - (wrap64 ((ji3) / 64)))) = ji5 := (i64_w _).trans hji5
  by_cases c6 : 0 ≤ (ji5)
  ·rw [if_pos c6] at H
   have c6b0 := eq_true c6
   have c6b1 : decide (0 ≤ (ji5)) = true := decide_eq_true c6
   clear c6
   by_cases c7 : (ji5 : Int).toNat ≤ 35184372088832
   ·rw [if_pos c7] at H
    have c7b0 := eq_true c7
    have c7b1 : decide ((ji5 : Int).toNat ≤ 35184372088832) = true := decide_eq_true c7
    clear c7
    obtain ⟨y1264, hy1264⟩ : ∃ y_ : List Int, y_ = (List.replicate 0 0) := ⟨_, rfl⟩
    rw [← hy1264] at H
    have Ny1264 := Aside0.mk hy1264
    clear hy1264
    have H' := Aside0.mk H
    clear H
    go_enter Try.func116, Try.ntmps116
    go_wp2_with (first | ((with_reducible refine gate_dst (N := 24) rfl ?_); refine Kd.R_makecap (Kd.int .u64) _ 22 rfl (N := 24) rfl 30 _ _ rfl 0 ji5 rfl rfl Try.underlying30 (.int .u64 0) 8 info22 rfl (by decide) (by omega) 0 (ok := fun _ => True) (okp := fun _ => True) rfl (fun _ hk => hk) trivial (by omega) (of_decide_eq_true (by first | (with_reducible assumption) | assumption)) (Nat.le_trans (Nat.mul_le_mul_right _ (of_decide_eq_true (by first | (with_reducible assumption) | assumption) : (ji5 : Int).toNat ≤ 35184372088832)) (by omega)) (Below.refl _ _) (Nat.le_refl _) ?_; intro v1265 w8 ho9 hb hg_ hnew_; clear hg_ hnew_; (first | rw [← Ny1264.out] at ho9 | (simp only [Int.reduceToNat] at ho9; rw [← Ny1264.out] at ho9)); refine sw2 ⟨Kd.R_lower ho9 (below_size (bb HB.out))⟩ ⟨below_step (bb HB.out) hb⟩ ?_; clear HB; intro HO1266 HB; clear hb ho9))
    go_loopg [7, 8] k (fun kq v7 v8 w' => ∃ (x7_1 : List Int) (x8_1 : Int), v8 = .int .i64 x8_1 ∧ Aside0 (nat_Shr.l0 kq l0 ((ji3) % 64) x7_1 x8_1 = some r) ∧ Aside0 (kq ≤ k) ∧ Aside0 (Kd.R (Kd.int .u64) 22 w' w.heap.size (fun _ => True) v7 x7_1) ∧ Aside0 (Below w.heap.size w w'))
    case atStart => exact ⟨(y1264), (wrap64 ((ji3) / 64)), (by first | rfl | (simp; done) | (simp only [← hji3] <;> (first | rfl | simp)) | (simp [*]; done)), H', ⟨Nat.le_refl _⟩, ⟨by (with_reducible repeat (first | apply Kd.R_alloc | apply Kd.R_drewN | apply Kd.R_drew)); exact HO1266.out⟩, ⟨bb HB.out⟩⟩
    case round =>
     clear H'
     obtain ⟨x7_1, x8_1, rfl, HA, HK1, HO_7, HB⟩ := hrel
     cases gk with
     | zero => exact absurd HA.out (by simp [nat_Shr.l0])
     | succ k1 =>
      have H := HA.out
      clear HA
      simp only [nat_Shr.l0] at H
      by_cases c10 : x8_1 < (l0.length : Int)
      ·rw [if_pos c10] at H
       have c10b0 : decide (x8_1 < (l0.length : Int)) = true := decide_eq_true c10
       clear c10
       by_cases c11 : (wrap64 (x8_1 + 1)) < (l0.length : Int)
       ·rw [if_pos c11] at H
        have c11b0 : decide ((wrap64 (x8_1 + 1)) < (l0.length : Int)) = true := decide_eq_true c11
        clear c11
        obtain ⟨ji12, hji12⟩ : ∃ j_ : Int, (wrap64 (x8_1 + 1)) = j_ := ⟨_, rfl⟩
        rw [hji12] at H
        (try rw [hji12] at c11b0)
        have hji12w : (IntKind.i64.wrap (x8_1 + 1)) = ji12 := (i64_w _).trans hji12
        by_cases c13 : 0 ≤ (ji12)
        ·rw [if_pos c13] at H
         have c13b0 : decide (0 ≤ (ji12)) = true := decide_eq_true c13
         clear c13
         by_cases c14 : 0 ≤ x8_1
         ·rw [if_pos c14] at H
          have c14b0 : decide (0 ≤ x8_1) = true := decide_eq_true c14
          clear c14
          (try (have c15m : min (((ji3) % 64) : Int).toNat 64 = (((ji3) % 64) : Int).toNat := by omega))
          have c16w : wrap64 (63 - ((ji3) % 64)) = 63 - ((ji3) % 64) := by unfold wrap64; omega
          (try (have c17m : min ((63 - ((ji3) % 64)) : Int).toNat 64 = ((63 - ((ji3) % 64)) : Int).toNat := by omega))
          by_cases c18 : x7_1.length < 17592186044416
          ·rw [if_pos c18] at H
           have LMc18 := Aside0.mk c18
           clear c18
           obtain ⟨y1269, hy1269⟩ : ∃ y_ : List Int, y_ = (x7_1 ++ [Go.bits .or .u64 ((rd l0 x8_1) / 2 ^ ((ji3) % 64).toNat) (IntKind.u64.wrap ((IntKind.u64.wrap ((rd l0 (ji12)) * 2)) * 2 ^ (63 - ((ji3) % 64)).toNat))]) := ⟨_, rfl⟩
           rw [← hy1269] at H
           have Ny1269 := Aside0.mk hy1269
           clear hy1269
           have H' := Aside0.mk H
           clear H
           have p1267 : 0 ≤ ((ji12) : Int) := of_decide_eq_true (by first | (with_reducible assumption) | assumption)
           have q1267 : (ji12) < (l0.length : Int) := of_decide_eq_true (by first | (with_reducible assumption) | assumption)
           obtain ⟨ad1267, e1267, hx1267_0⟩ := Kd.at_int HR0.out (ji12) p1267 q1267
           cases e1267
           replace hx1267_0 := (HB.out.cell (World.block_lt_of_cell? w _ hx1267_0)).trans hx1267_0
           replace p1267 := eq_true p1267
           replace q1267 := eq_true q1267
           try go_wp2
           refine sw2 ⟨Kd.R_drew HO_7.out⟩ ⟨below_drew1 HB.out⟩ ?_
           clear HO_7 HB
           intro HO_7 HB
           have p1268 : 0 ≤ (x8_1 : Int) := of_decide_eq_true (by first | (with_reducible assumption) | assumption)
           have q1268 : x8_1 < (l0.length : Int) := of_decide_eq_true (by first | (with_reducible assumption) | assumption)
           obtain ⟨ad1268, e1268, hx1268_0⟩ := Kd.at_int HR0.out x8_1 p1268 q1268
           have hw1268_0 := hx1268_0
           obtain rfl : ad1267 = ad1268 := (by injection e1268)
           replace hx1268_0 := (HB.out.cell (World.block_lt_of_cell? w _ hx1268_0)).trans hx1268_0
           replace p1268 := eq_true p1268
           replace q1268 := eq_true q1268
           refine start_ (n := 16) (S := fun w' => w'.cell? (ad1267.add (x8_1).toNat) = some (.int .u64 (rd l0 x8_1))) (ds := []) #[false, false, false, false, false, false, false, false, false, false, false, false, false, false, false, false] (by kernel_rfl) rfl rfl (((HB.out.cell (World.block_lt_of_cell? w _ hw1268_0)).trans hw1268_0)) (fun hHeld => ?_); refine with_tabW nat_Shr.tab12 nat_Shr.bits12 (fun HT_ HW_ => ?_)
           generalize wr.drew = w19 at HO_7 HB hx1268_0 hHeld ⊢
           refine pu 0 (some 42) HT_ ?_
           refine pu 1 (some 43) HT_ ?_
           refine pu 2 (some 44) HT_ ?_
           refine pu 3 (some 45) HT_ ?_
           refine pu 5 (some 47) HT_ ?_
           refine pu 7 (some 49) HT_ ?_
           refine pu 8 (some 50) HT_ ?_
           refine pu 9 (some 51) HT_ ?_
           refine pu 10 (some 52) HT_ ?_
           refine pu 11 (some 53) HT_ ?_
           refine ta 4 (some 46) HT_ HW_ hHeld ?_
           refine pu 6 (some 48) HT_ ?_
           refine pu 12 (some 54) HT_ ?_
           refine on 13 (some 55) HT_ (fun K hK => ?_)
           refine value_ (w1 := ?_) (v := ?_) (by rfl) rfl ?_ ?_
           rotate_left 2
           ·go_simp
            constructor
            ·rfl
            ·rfl
           refine hK.out _ _ ((World.cell?_alloc_lt _ _ _ (World.block_lt_of_cell? _ _ (((HB.out.cell (World.block_lt_of_cell? w _ hw1268_0)).trans hw1268_0)))).trans (((HB.out.cell (World.block_lt_of_cell? w _ hw1268_0)).trans hw1268_0))) (fun hHeld => ?_)
           clear hK K
           refine nm ?_
           refine on 14 (some 56) HT_ (fun K hK => ?_)
           refine Kd.R_append_step (Kd.int .u64) (w0 := w) w.heap.size (by rfl) (.tmp 42) (.tmp 55) 30 22 (.int .u64 0) 8 rfl Try.underlying30 info22 rfl (by decide) (by omega) u7 x7_1 (Go.bits .or .u64 ((rd l0 x8_1) / 2 ^ ((ji3) % 64).toNat) (IntKind.u64.wrap ((IntKind.u64.wrap ((rd l0 (ji12)) * 2)) * 2 ^ (63 - ((ji3) % 64)).toNat))) [.int .u64 (Go.bits .or .u64 ((rd l0 x8_1) / 2 ^ ((ji3) % 64).toNat) (IntKind.u64.wrap ((IntKind.u64.wrap ((rd l0 (ji12)) * 2)) * 2 ^ (63 - ((ji3) % 64)).toNat)))] (fun _ => True) (fun _ => False) rfl rfl ?aP (fun _ hk => hk.elim) ?aF ?aO ?aB ?aS ?aL ?_
           (case aP => exact rfl)
           (case aB => exact (bb HB.out))
           (case aF => exact (fun _ _ => trivial))
           (case aO => exact (st HO_7.out))
           (case aS => exact (below_size (bb HB.out)))
           (case aL => have := LMc18.out; omega)
           intro v1270 w20 ho hb hg hat
           rw [← Ny1269.out] at ho
           refine sw2 ⟨hb⟩ ⟨ho⟩ ?_
           clear HB HO_7
           intro HB HO1271
           clear ho hb hg hat
           refine hK.out _ _ (((HB.out.cell (World.block_lt_of_cell? w _ hw1268_0)).trans hw1268_0)) (fun hHeld => ?_)
           clear hK K
           refine nm ?_
           refine pu 15 (some 7) HT_ ?_
           refine done_ (done_of HT_.out (by kernel_rfl)) ?_
           try go_wp2
           go_roundg k1
           case measure => have := HK1.out; omega
           case rel => exact ⟨(y1269), (ji12), (by first | rfl | (simp; done) | (simp only [← hji12] <;> (first | rfl | simp)) | (simp [*]; done)), H', ⟨by have := HK1.out; omega⟩, ⟨by (with_reducible repeat (first | apply Kd.R_alloc | apply Kd.R_drewN | apply Kd.R_drew)); exact HO1271.out⟩, ⟨bb HB.out⟩⟩
          ·rw [if_neg c18] at H
           exact absurd H (by simp)
         ·rw [if_neg c14] at H
          exact absurd H (by simp)
        ·rw [if_neg c13] at H
         exact absurd H (by simp)
       ·rw [if_neg c11] at H
        have c11b0 : decide ((wrap64 (x8_1 + 1)) < (l0.length : Int)) = false := decide_eq_false c11
        clear c11
        by_cases c21 : 0 ≤ x8_1
        ·rw [if_pos c21] at H
         have c21b0 : decide (0 ≤ x8_1) = true := decide_eq_true c21
         clear c21
         (try (have c22m : min (((ji3) % 64) : Int).toNat 64 = (((ji3) % 64) : Int).toNat := by omega))
         have c23w : wrap64 (63 - ((ji3) % 64)) = 63 - ((ji3) % 64) := by unfold wrap64; omega
         by_cases c24 : x7_1.length < 17592186044416
         ·rw [if_pos c24] at H
          have LMc24 := Aside0.mk c24
          clear c24
          obtain ⟨y1273, hy1273⟩ : ∃ y_ : List Int, y_ = (x7_1 ++ [Go.bits .or .u64 ((rd l0 x8_1) / 2 ^ ((ji3) % 64).toNat) 0]) := ⟨_, rfl⟩
          rw [← hy1273] at H
          have Ny1273 := Aside0.mk hy1273
          clear hy1273
          have H' := Aside0.mk H
          clear H
          try go_wp2
          refine sw2 ⟨Kd.R_drew HO_7.out⟩ ⟨below_drew1 HB.out⟩ ?_
          clear HO_7 HB
          intro HO_7 HB
          have p1272 : 0 ≤ (x8_1 : Int) := of_decide_eq_true (by first | (with_reducible assumption) | assumption)
          have q1272 : x8_1 < (l0.length : Int) := of_decide_eq_true (by first | (with_reducible assumption) | assumption)
          obtain ⟨ad1272, e1272, hx1272_0⟩ := Kd.at_int HR0.out x8_1 p1272 q1272
          have hw1272_0 := hx1272_0
          cases e1272
          replace hx1272_0 := (HB.out.cell (World.block_lt_of_cell? w _ hx1272_0)).trans hx1272_0
          replace p1272 := eq_true p1272
          replace q1272 := eq_true q1272
          refine start_ (n := 16) (S := fun w' => w'.cell? (ad1272.add (x8_1).toNat) = some (.int .u64 (rd l0 x8_1))) (ds := []) #[false, false, false, false, false, false, false, false, false, false, false, false, false, false, false, false] (by kernel_rfl) rfl rfl (((HB.out.cell (World.block_lt_of_cell? w _ hw1272_0)).trans hw1272_0)) (fun hHeld => ?_); refine with_tabW nat_Shr.tab12 nat_Shr.bits12 (fun HT_ HW_ => ?_)
          generalize wr.drew = w25 at HO_7 HB hx1272_0 hHeld ⊢
          refine pu 0 (some 42) HT_ ?_
          refine pu 1 (some 43) HT_ ?_
          refine pu 2 (some 44) HT_ ?_
          refine pu 3 (some 45) HT_ ?_
          refine pu 5 (some 47) HT_ ?_
          refine pu 7 (some 49) HT_ ?_
          refine pu 8 (some 50) HT_ ?_
          refine pu 9 (some 51) HT_ ?_
          refine pu 10 (some 52) HT_ ?_
          refine pu 11 (some 53) HT_ ?_
          refine ta 4 (some 46) HT_ HW_ hHeld ?_
          refine pu 6 (some 48) HT_ ?_
          refine pu 12 (some 54) HT_ ?_
          refine on 13 (some 55) HT_ (fun K hK => ?_)
          refine value_ (w1 := ?_) (v := ?_) (by rfl) rfl ?_ ?_
          rotate_left 2
          ·go_simp
           constructor
           ·rfl
           ·rfl
          refine hK.out _ _ ((World.cell?_alloc_lt _ _ _ (World.block_lt_of_cell? _ _ (((HB.out.cell (World.block_lt_of_cell? w _ hw1272_0)).trans hw1272_0)))).trans (((HB.out.cell (World.block_lt_of_cell? w _ hw1272_0)).trans hw1272_0))) (fun hHeld => ?_)
          clear hK K
          refine nm ?_
          refine on 14 (some 56) HT_ (fun K hK => ?_)
          refine Kd.R_append_step (Kd.int .u64) (w0 := w) w.heap.size (by rfl) (.tmp 42) (.tmp 55) 30 22 (.int .u64 0) 8 rfl Try.underlying30 info22 rfl (by decide) (by omega) u7 x7_1 (Go.bits .or .u64 ((rd l0 x8_1) / 2 ^ ((ji3) % 64).toNat) 0) [.int .u64 (Go.bits .or .u64 ((rd l0 x8_1) / 2 ^ ((ji3) % 64).toNat) 0)] (fun _ => True) (fun _ => False) rfl rfl ?aP (fun _ hk => hk.elim) ?aF ?aO ?aB ?aS ?aL ?_
          (case aP => exact rfl)
          (case aB => exact (bb HB.out))
          (case aF => exact (fun _ _ => trivial))
          (case aO => exact (st HO_7.out))
          (case aS => exact (below_size (bb HB.out)))
          (case aL => have := LMc24.out; omega)
          intro v1274 w26 ho hb hg hat
          rw [← Ny1273.out] at ho
          refine sw2 ⟨hb⟩ ⟨ho⟩ ?_
          clear HB HO_7
          intro HB HO1275
          clear ho hb hg hat
          refine hK.out _ _ (((HB.out.cell (World.block_lt_of_cell? w _ hw1272_0)).trans hw1272_0)) (fun hHeld => ?_)
          clear hK K
          refine nm ?_
          refine pu 15 (some 7) HT_ ?_
          refine done_ (done_of HT_.out (by kernel_rfl)) ?_
          try go_wp2
          go_roundg k1
          case measure => have := HK1.out; omega
          case rel => exact ⟨(y1273), (wrap64 (x8_1 + 1)), (by first | rfl | (simp; done) | (simp [*]; done)), H', ⟨by have := HK1.out; omega⟩, ⟨by (with_reducible repeat (first | apply Kd.R_alloc | apply Kd.R_drewN | apply Kd.R_drew)); exact HO1275.out⟩, ⟨bb HB.out⟩⟩
         ·rw [if_neg c24] at H
          exact absurd H (by simp)
        ·rw [if_neg c21] at H
         exact absurd H (by simp)
      ·rw [if_neg c10] at H
       have c10b0 : decide (x8_1 < (l0.length : Int)) = false := decide_eq_false c10
       clear c10
       obtain ⟨t1276, A27, H⟩ := bnd H
       obtain rfl := Option.some.inj H
       obtain ⟨Ao28, co28, eo28⟩ := Kd.R_slice HO_7.out
       subst eo28
       go_wp2_with (first | ((with_reducible refine gate_callee (f := 148) rfl ?_); refine goesL_ (some 58) rfl rfl Try.func148 (by kernel_rfl) rfl #[.slice Ao28 x7_1.length co28] rfl lx ?_; (with_reducible refine (nat_Trim.calls k1 _ _ x7_1 t1276 _ ?side1 ?side2 A27.out).mono ?_); (case side1 => exact cs (Kd.R_reads' HO_7.out).2.2); (case side2 => exact (Kd.R_reads' HO_7.out).2.1); rintro e w29 ⟨v1277, rfl, ho0, hb⟩; refine ⟨_, rfl, ?_⟩; refine sw3 ⟨Kd.R_elder' (st HO_7.out) (Kd.R_base ho0) hb⟩ ⟨Kd.R_lower (Kd.R_new' ho0 (Kd.R_lt (st HO_7.out))) (below_size (bb HB.out))⟩ ⟨below_step (bb HB.out) hb⟩ ?_; clear HO_7 HB; intro HO_7 HO1278 HB))
       go_ret
       exact ⟨_, by first | rfl | (simp [errW_none, errW_some] <;> rfl) | (simp only [← hji3, ← hji5]; first | rfl | (simp [errW_none, errW_some] <;> rfl)) | (simp [*, errW_none, errW_some] <;> rfl), by (with_reducible repeat (first | apply Kd.R_alloc | apply Kd.R_drewN | apply Kd.R_drew)); exact Kd.R_mono HO1278.out (fun _ hk => trivial), hbb⟩
   ·rw [if_neg c7] at H
    exact absurd H (by simp)
  ·rw [if_neg c6] at H
   exact absurd H (by simp)

def nat_Bit.f (l0 : List Int) (a1 : Int) : Option (Bool) := if a1 ≥ 0 then (if (wrap64 (Int.tdiv a1 64)) < (l0.length : Int) then (if 0 ≤ (wrap64 (Int.tdiv a1 64)) then (if 0 ≤ (Int.tmod a1 64) then (some ((Go.bits .and .u64 (shr .u64 (rd l0 (wrap64 (Int.tdiv a1 64))) (Int.tmod a1 64)) 1) == 1)) else (none)) else (none)) else (some false)) else (some false)
set_option maxHeartbeats 8000000 in
set_option maxRecDepth 100000 in
theorem nat_Bit.calls (A0 : Option Addr) (c0 : Nat) (l0 : List Int) (a1 : Int) (r : Bool) (w : World) (hr0 : Kd.C (Kd.int .u64) w A0 l0.length l0) (hc0 : l0.length ≤ c0) (h : nat_Bit.f l0 a1 = some r) :
  Calls Try.prog 117 #[.slice A0 l0.length c0, .int .i64 a1] w fun e w' => e = .returned (.bool r) ∧ Drawn0 w w' := by
 have HR0 := Aside0.mk hr0
 have HC0 := Aside0.mk hc0
 clear hr0 hc0
 have H := h
 clear h
 unfold nat_Bit.f at H
 by_cases c3 : a1 ≥ 0
 ·rw [if_pos c3] at H
  have c3b0 : decide (0 ≤ a1) = true := decide_eq_true c3
  clear c3
  by_cases c4 : (wrap64 (Int.tdiv a1 64)) < (l0.length : Int)
  ·rw [if_pos c4] at H
   have c4b0 : decide ((wrap64 (Int.tdiv a1 64)) < (l0.length : Int)) = true := decide_eq_true c4
   clear c4
   obtain ⟨ji5, hji5⟩ : ∃ j_ : Int, (wrap64 (Int.tdiv a1 64)) = j_ := ⟨_, rfl⟩
   rw [hji5] at H
   (try rw [hji5] at c4b0)
   have hji5w : (IntKind.i64.wrap (Int.tdiv a1 64)) = ji5 := (i64_w _).trans hji5
   by_cases c6 : 0 ≤ (ji5)
   ·rw [if_pos c6] at H
    have c6b0 : decide (0 ≤ (ji5)) = true := decide_eq_true c6
    clear c6
    obtain ⟨ji7, hji7⟩ : ∃ j_ : Int, (Int.tmod a1 64) = j_ := ⟨_, rfl⟩
    rw [hji7] at H
    by_cases c8 : 0 ≤ (ji7)
    ·rw [if_pos c8] at H
     have c8b0 := eq_true c8
     have c8b1 : decide (0 ≤ (ji7)) = true := decide_eq_true c8
     clear c8
     obtain ⟨ji9, hji9⟩ : ∃ j_ : Int, (shr .u64 (rd l0 (ji5)) (ji7)) = j_ := ⟨_, rfl⟩
     rw [hji9] at H
     have hji9_ : ((rd l0 (ji5)) / 2 ^ min (ji7).toNat 64) = ji9 := hji9
     have hji9z : (ji7) ≤ 64 → ((rd l0 (ji5)) / 2 ^ (ji7).toNat) = ji9 := shr_small hji9
     obtain rfl := Option.some.inj H
     have p1279 : 0 ≤ ((ji5) : Int) := of_decide_eq_true (by first | (with_reducible assumption) | assumption)
     have q1279 : (ji5) < (l0.length : Int) := of_decide_eq_true (by first | (with_reducible assumption) | assumption)
     obtain ⟨ad1279, e1279, hx1279_0⟩ := Kd.at_int HR0.out (ji5) p1279 q1279
     cases e1279
     replace p1279 := eq_true p1279
     replace q1279 := eq_true q1279
     go_enter Try.func117, Try.ntmps117
     go_wp2
     go_ret
     exact ⟨by first | rfl | (simp; done) | (simp only [← hji5, ← hji7, ← hji9] <;> (first | rfl | simp)) | (simp [*]; done), by repeat (first | exact Drawn0.refl _ | apply Drawn0.step)⟩
    ·rw [if_neg c8] at H
     exact absurd H (by simp)
   ·rw [if_neg c6] at H
    exact absurd H (by simp)
  ·rw [if_neg c4] at H
   have c4b0 : decide ((wrap64 (Int.tdiv a1 64)) < (l0.length : Int)) = false := decide_eq_false c4
   clear c4
   obtain rfl := Option.some.inj H
   go_enter Try.func117, Try.ntmps117
   go_wp2
   go_ret
   exact ⟨by first | rfl | (simp; done) | (simp [*]; done), by repeat (first | exact Drawn0.refl _ | apply Drawn0.step)⟩
 ·rw [if_neg c3] at H
  have c3b0 : decide (0 ≤ a1) = false := decide_eq_false c3
  clear c3
  obtain rfl := Option.some.inj H
  go_enter Try.func117, Try.ntmps117
  go_wp2
  go_ret
  exact ⟨by first | rfl | (simp; done) | (simp [*]; done), by repeat (first | exact Drawn0.refl _ | apply Drawn0.step)⟩

def nat_Even.l0 : Nat → List Int → Int → Int → Option (Int)
 | 0, _, _, _ => none
 | k + 1, x0, x7, x8 => if x8 < x7 then ((nat_Bit.f x0 x8).bind fun t1281 => (if t1281 = true then (some x8) else (nat_Even.l0 k x0 x7 (wrap64 (x8 + 1))))) else (some 0)
def nat_Even.f (k : Nat) (l0 : List Int) : Option (Int) := (nat_Bits.f k l0).bind fun t1280 => (nat_Even.l0 k l0 t1280 0)
set_option maxHeartbeats 8000000 in
set_option maxRecDepth 100000 in
theorem nat_Even.calls (k : Nat) (A0 : Option Addr) (c0 : Nat) (l0 : List Int) (r : Int) (w : World) (hr0 : Kd.C (Kd.int .u64) w A0 l0.length l0) (hc0 : l0.length ≤ c0) (h : nat_Even.f k l0 = some r) :
  Calls Try.prog 118 #[.slice A0 l0.length c0] w fun e w' => e = .returned (.int .i64 r) ∧ Drawn0 w w' := by
 have HR0 := Aside0.mk hr0
 have HC0 := Aside0.mk hc0
 clear hr0 hc0
 have H := h
 clear h
 unfold nat_Even.f at H
 obtain ⟨t1280, A2, H⟩ := bnd H
 have H' := Aside0.mk H
 clear H
 go_enter Try.func118, Try.ntmps118
 go_wp2_with (first | ((with_reducible refine gate_callee (f := 114) rfl ?_); refine goesL_ (some 6) rfl rfl Try.func114 (by kernel_rfl) rfl #[.slice A0 l0.length c0] rfl lx ?_; (with_reducible refine (nat_Bits.calls k _ _ l0 t1280 _ ?side1 ?side2 A2.out).mono ?_); (case side1 => exact cs HR0.out); (case side2 => exact HC0.out); rintro e w' ⟨rfl, ⟨nd, rfl⟩⟩; refine ⟨_, rfl, ?_⟩))
 go_loopg [8] k (fun kq v8 w' => ∃ (x8_1 : Int), v8 = .int .i64 x8_1 ∧ Aside0 (nat_Even.l0 kq l0 t1280 x8_1 = some r) ∧ Aside0 (kq ≤ k) ∧ Drawn0 w w')
 case atStart => exact ⟨(0), (by first | rfl | (simp; done) | (simp [*]; done)), H', ⟨Nat.le_refl _⟩, by repeat (first | exact Drawn0.refl _ | apply Drawn0.step)⟩
 case round =>
  clear H'
  obtain ⟨x8_1, rfl, HA, HK1, ⟨m1, rfl⟩⟩ := hrel
  cases gk with
  | zero => exact absurd HA.out (by simp [nat_Even.l0])
  | succ k1 =>
   have H := HA.out
   clear HA
   simp only [nat_Even.l0] at H
   by_cases c3 : x8_1 < t1280
   ·rw [if_pos c3] at H
    have c3b0 : decide (x8_1 < t1280) = true := decide_eq_true c3
    clear c3
    obtain ⟨t1281, A4, H⟩ := bnd H
    by_cases c5 : t1281 = true
    ·subst c5
     replace H := ift H
     obtain rfl := Option.some.inj H
     go_wp2_with (first | ((with_reducible refine gate_callee (f := 117) rfl ?_); refine goesL_ (some 13) rfl rfl Try.func117 (by kernel_rfl) rfl #[.slice A0 l0.length c0, .int .i64 x8_1] rfl lx ?_; (with_reducible refine (nat_Bit.calls _ _ l0 x8_1 true _ ?side1 ?side2 A4.out).mono ?_); (case side1 => exact cs HR0.out); (case side2 => exact HC0.out); rintro e w' ⟨rfl, ⟨nd, rfl⟩⟩; refine ⟨_, rfl, ?_⟩))
     go_ret
     exact ⟨by first | rfl | (simp; done) | (simp [*]; done), by repeat (first | exact Drawn0.refl _ | apply Drawn0.step)⟩
    ·replace c5 := Bool.eq_false_iff.mpr c5
     subst c5
     replace H := iff_ H
     have H' := Aside0.mk H
     clear H
     go_wp2_with (first | ((with_reducible refine gate_callee (f := 117) rfl ?_); refine goesL_ (some 13) rfl rfl Try.func117 (by kernel_rfl) rfl #[.slice A0 l0.length c0, .int .i64 x8_1] rfl lx ?_; (with_reducible refine (nat_Bit.calls _ _ l0 x8_1 false _ ?side1 ?side2 A4.out).mono ?_); (case side1 => exact cs HR0.out); (case side2 => exact HC0.out); rintro e w' ⟨rfl, ⟨nd, rfl⟩⟩; refine ⟨_, rfl, ?_⟩))
     go_roundg k1
     case measure => have := HK1.out; omega
     case rel => exact ⟨(wrap64 (x8_1 + 1)), (by first | rfl | (simp; done) | (simp [*]; done)), H', ⟨by have := HK1.out; omega⟩, by repeat (first | exact Drawn0.refl _ | apply Drawn0.step)⟩
   ·rw [if_neg c3] at H
    have c3b0 : decide (x8_1 < t1280) = false := decide_eq_false c3
    clear c3
    obtain rfl := Option.some.inj H
    go_wp2
    go_ret
    exact ⟨by first | rfl | (simp; done) | (simp [*]; done), by repeat (first | exact Drawn0.refl _ | apply Drawn0.step)⟩

def nat_Cmp.l0 : Nat → List Int → List Int → Int → Option (Int)
 | 0, _, _, _ => none
 | k + 1, x0, x1, x7 => if x7 ≥ 0 then (if 0 ≤ x7 then (if x7 < (x0.length : Int) then (if x7 < (x1.length : Int) then (if (rd x0 x7) < (rd x1 x7) then (some (-1)) else (if (rd x0 x7) > (rd x1 x7) then (some 1) else (nat_Cmp.l0 k x0 x1 (wrap64 (x7 - 1))))) else (none)) else (none)) else (none)) else (some 0)
def nat_Cmp.f (k : Nat) (l0 : List Int) (l1 : List Int) : Option (Int) := (nat_size.f k l0).bind fun t1324 => ((nat_size.f k l1).bind fun t1325 => (if t1324 = t1325 then (nat_Cmp.l0 k l0 l1 (wrap64 (t1324 - 1))) else (if t1324 < t1325 then (some (-1)) else (some 1))))
set_option maxHeartbeats 8000000 in
set_option maxRecDepth 100000 in
theorem nat_Cmp.calls (k : Nat) (A0 : Option Addr) (c0 : Nat) (l0 : List Int) (A1 : Option Addr) (c1 : Nat) (l1 : List Int) (r : Int) (w : World) (hr0 : Kd.C (Kd.int .u64) w A0 l0.length l0) (hc0 : l0.length ≤ c0) (hr1 : Kd.C (Kd.int .u64) w A1 l1.length l1) (hc1 : l1.length ≤ c1) (h : nat_Cmp.f k l0 l1 = some r) :
  Calls Try.prog 153 #[.slice A0 l0.length c0, .slice A1 l1.length c1] w fun e w' => e = .returned (.int .i64 r) ∧ Drawn0 w w' := by
 have HR0 := Aside0.mk hr0
 have HC0 := Aside0.mk hc0
 clear hr0 hc0
 have HR1 := Aside0.mk hr1
 have HC1 := Aside0.mk hc1
 clear hr1 hc1
 have H := h
 clear h
 unfold nat_Cmp.f at H
 obtain ⟨t1324, A3, H⟩ := bnd H
 obtain ⟨t1325, A4, H⟩ := bnd H
 refine if c5 : t1324 = t1325 then ?p71_ else ?n71_
 case p71_ =>
  rw [if_pos c5] at H
  have c5b0 : (t1324 == t1325) = true := beq_iff_eq.mpr c5
  have c5b1 : (t1324 != t1325) = false := bne_eq_false_iff_eq.mpr c5
  clear c5
  have H' := Aside0.mk H
  clear H
  go_enter Try.func153, Try.ntmps153
  iterate 6 (first | go_quiet (first | (go_at_call 149; (with_reducible refine (nat_size.calls k _ _ l0 t1324 _ ?side1 ?side2 A3.out).mono ?_); (case side1 => exact cs HR0.out); (case side2 => exact HC0.out); rintro e w' ⟨rfl, ⟨nd, rfl⟩⟩) | (go_at_call 149; (with_reducible refine (nat_size.calls k _ _ l1 t1325 _ ?side1 ?side2 A4.out).mono ?_); (case side1 => exact cs HR1.out); (case side2 => exact HC1.out); rintro e w' ⟨rfl, ⟨nd, rfl⟩⟩)) | go_wp2_with (first | (go_at_call 149; (with_reducible refine (nat_size.calls k _ _ l0 t1324 _ ?side1 ?side2 A3.out).mono ?_); (case side1 => exact cs HR0.out); (case side2 => exact HC0.out); rintro e w' ⟨rfl, ⟨nd, rfl⟩⟩) | (go_at_call 149; (with_reducible refine (nat_size.calls k _ _ l1 t1325 _ ?side1 ?side2 A4.out).mono ?_); (case side1 => exact cs HR1.out); (case side2 => exact HC1.out); rintro e w' ⟨rfl, ⟨nd, rfl⟩⟩)) | skip)
  go_loopg [7] k (fun kq v7 w' => ∃ (x7_1 : Int), v7 = .int .i64 x7_1 ∧ Aside0 (nat_Cmp.l0 kq l0 l1 x7_1 = some r) ∧ Aside0 (kq ≤ k) ∧ Drawn0 w w')
  case atStart => exact ⟨(wrap64 (t1324 - 1)), (by first | rfl | (simp; done) | (simp [*]; done)), H', ⟨Nat.le_refl _⟩, by repeat (first | exact Drawn0.refl _ | apply Drawn0.step)⟩
  case round =>
   clear H'
   obtain ⟨x7_1, rfl, HA, HK1, ⟨m1, rfl⟩⟩ := hrel
   cases gk with
   | zero => exact absurd HA.out (by simp [nat_Cmp.l0])
   | succ k1 =>
    have H := HA.out
    clear HA
    simp only [nat_Cmp.l0] at H
    by_cases c6 : x7_1 ≥ 0
    ·rw [if_pos c6] at H
     have c6b0 : decide (0 ≤ x7_1) = true := decide_eq_true c6
     clear c6
     by_cases c7 : 0 ≤ x7_1
     ·rw [if_pos c7] at H
      have c7b0 : decide (0 ≤ x7_1) = true := decide_eq_true c7
      clear c7
      by_cases c8 : x7_1 < (l0.length : Int)
      ·rw [if_pos c8] at H
       have c8b0 : decide (x7_1 < (l0.length : Int)) = true := decide_eq_true c8
       clear c8
       by_cases c9 : x7_1 < (l1.length : Int)
       ·rw [if_pos c9] at H
        have c9b0 : decide (x7_1 < (l1.length : Int)) = true := decide_eq_true c9
        clear c9
        by_cases c10 : (rd l0 x7_1) < (rd l1 x7_1)
        ·rw [if_pos c10] at H
         have c10b0 : decide ((rd l0 x7_1) < (rd l1 x7_1)) = true := decide_eq_true c10
         clear c10
         obtain rfl := Option.some.inj H
         have p1326 : 0 ≤ (x7_1 : Int) := of_decide_eq_true (by first | (with_reducible assumption) | assumption)
         have q1326 : x7_1 < (l0.length : Int) := of_decide_eq_true (by first | (with_reducible assumption) | assumption)
         obtain ⟨ad1326, e1326, hx1326_0⟩ := Kd.at_int HR0.out x7_1 p1326 q1326
         cases e1326
         replace p1326 := eq_true p1326
         replace q1326 := eq_true q1326
         have p1327 : 0 ≤ (x7_1 : Int) := of_decide_eq_true (by first | (with_reducible assumption) | assumption)
         have q1327 : x7_1 < (l1.length : Int) := of_decide_eq_true (by first | (with_reducible assumption) | assumption)
         obtain ⟨ad1327, e1327, hx1327_0⟩ := Kd.at_int HR1.out x7_1 p1327 q1327
         cases e1327
         replace p1327 := eq_true p1327
         replace q1327 := eq_true q1327
         go_wp2
         repeat (go_quiet (fail); try go_wp2)
         go_ret
         exact ⟨by first | rfl | (simp; done) | (simp [*]; done), by repeat (first | exact Drawn0.refl _ | apply Drawn0.step)⟩
        ·rw [if_neg c10] at H
         have c10b0 : decide ((rd l0 x7_1) < (rd l1 x7_1)) = false := decide_eq_false c10
         clear c10
         by_cases c11 : (rd l0 x7_1) > (rd l1 x7_1)
         ·rw [if_pos c11] at H
          have c11b0 : decide ((rd l1 x7_1) < (rd l0 x7_1)) = true := decide_eq_true c11
          clear c11
          obtain rfl := Option.some.inj H
          have p1326 : 0 ≤ (x7_1 : Int) := of_decide_eq_true (by first | (with_reducible assumption) | assumption)
          have q1326 : x7_1 < (l0.length : Int) := of_decide_eq_true (by first | (with_reducible assumption) | assumption)
          obtain ⟨ad1326, e1326, hx1326_0⟩ := Kd.at_int HR0.out x7_1 p1326 q1326
          cases e1326
          replace p1326 := eq_true p1326
          replace q1326 := eq_true q1326
          have p1327 : 0 ≤ (x7_1 : Int) := of_decide_eq_true (by first | (with_reducible assumption) | assumption)
          have q1327 : x7_1 < (l1.length : Int) := of_decide_eq_true (by first | (with_reducible assumption) | assumption)
          obtain ⟨ad1327, e1327, hx1327_0⟩ := Kd.at_int HR1.out x7_1 p1327 q1327
          cases e1327
          replace p1327 := eq_true p1327
          replace q1327 := eq_true q1327
          have p1328 : 0 ≤ (x7_1 : Int) := of_decide_eq_true (by first | (with_reducible assumption) | assumption)
          have q1328 : x7_1 < (l0.length : Int) := of_decide_eq_true (by first | (with_reducible assumption) | assumption)
          obtain ⟨ad1328, e1328, hx1328_0⟩ := Kd.at_int HR0.out x7_1 p1328 q1328
          obtain rfl : ad1326 = ad1328 := (by injection e1328)
          replace p1328 := eq_true p1328
          replace q1328 := eq_true q1328
          have p1329 : 0 ≤ (x7_1 : Int) := of_decide_eq_true (by first | (with_reducible assumption) | assumption)
          have q1329 : x7_1 < (l1.length : Int) := of_decide_eq_true (by first | (with_reducible assumption) | assumption)
          obtain ⟨ad1329, e1329, hx1329_0⟩ := Kd.at_int HR1.out x7_1 p1329 q1329
          obtain rfl : ad1327 = ad1329 := (by injection e1329)
          replace p1329 := eq_true p1329
          replace q1329 := eq_true q1329
          go_wp2
          repeat (go_quiet (fail); try go_wp2)
          go_ret
          exact ⟨by first | rfl | (simp; done) | (simp [*]; done), by repeat (first | exact Drawn0.refl _ | apply Drawn0.step)⟩
         ·rw [if_neg c11] at H
          have c11b0 : decide ((rd l1 x7_1) < (rd l0 x7_1)) = false := decide_eq_false c11
          clear c11
          have H' := Aside0.mk H
          clear H
          have p1326 : 0 ≤ (x7_1 : Int) := of_decide_eq_true (by first | (with_reducible assumption) | assumption)
          have q1326 : x7_1 < (l0.length : Int) := of_decide_eq_true (by first | (with_reducible assumption) | assumption)
          obtain ⟨ad1326, e1326, hx1326_0⟩ := Kd.at_int HR0.out x7_1 p1326 q1326
          cases e1326
          replace p1326 := eq_true p1326
          replace q1326 := eq_true q1326
          have p1327 : 0 ≤ (x7_1 : Int) := of_decide_eq_true (by first | (with_reducible assumption) | assumption)
          have q1327 : x7_1 < (l1.length : Int) := of_decide_eq_true (by first | (with_reducible assumption) | assumption)
          obtain ⟨ad1327, e1327, hx1327_0⟩ := Kd.at_int HR1.out x7_1 p1327 q1327
          cases e1327
          replace p1327 := eq_true p1327
          replace q1327 := eq_true q1327
          have p1328 : 0 ≤ (x7_1 : Int) := of_decide_eq_true (by first | (with_reducible assumption) | assumption)
          have q1328 : x7_1 < (l0.length : Int) := of_decide_eq_true (by first | (with_reducible assumption) | assumption)
          obtain ⟨ad1328, e1328, hx1328_0⟩ := Kd.at_int HR0.out x7_1 p1328 q1328
          obtain rfl : ad1326 = ad1328 := (by injection e1328)
          replace p1328 := eq_true p1328
          replace q1328 := eq_true q1328
          have p1329 : 0 ≤ (x7_1 : Int) := of_decide_eq_true (by first | (with_reducible assumption) | assumption)
          have q1329 : x7_1 < (l1.length : Int) := of_decide_eq_true (by first | (with_reducible assumption) | assumption)
          obtain ⟨ad1329, e1329, hx1329_0⟩ := Kd.at_int HR1.out x7_1 p1329 q1329
          obtain rfl : ad1327 = ad1329 := (by injection e1329)
          replace p1329 := eq_true p1329
          replace q1329 := eq_true q1329
          go_wp2
          repeat (go_quiet (fail); try go_wp2)
          go_roundg k1
          case measure => have := HK1.out; omega
          case rel => exact ⟨(wrap64 (x7_1 - 1)), (by first | rfl | (simp; done) | (simp [*]; done)), H', ⟨by have := HK1.out; omega⟩, by repeat (first | exact Drawn0.refl _ | apply Drawn0.step)⟩
       ·rw [if_neg c9] at H
        exact absurd H (by simp)
      ·rw [if_neg c8] at H
       exact absurd H (by simp)
     ·rw [if_neg c7] at H
      exact absurd H (by simp)
    ·rw [if_neg c6] at H
     have c6b0 : decide (0 ≤ x7_1) = false := decide_eq_false c6
     clear c6
     obtain rfl := Option.some.inj H
     go_wp2
     repeat (go_quiet (fail); try go_wp2)
     go_ret
     exact ⟨by first | rfl | (simp; done) | (simp [*]; done), by repeat (first | exact Drawn0.refl _ | apply Drawn0.step)⟩
 case' n71_ =>
  rw [if_neg c5] at H
  have c5b0 : (t1324 == t1325) = false := beq_eq_false_iff_ne.mpr c5
  have c5b1 : (t1324 != t1325) = true := bne_iff_ne.mpr c5
  refine if c12 : t1324 < t1325 then ?p72_ else ?n72_
  case' p72_ =>
   rw [if_pos c12] at H
   have c12b0 : decide (t1324 < t1325) = true := decide_eq_true c12
   clear c12
   obtain rfl := Option.some.inj H
  case' n72_ =>
   rw [if_neg c12] at H
   have c12b0 : decide (t1324 < t1325) = false := decide_eq_false c12
   clear c12
   obtain rfl := Option.some.inj H
 case p72_ | n72_ =>
  go_enter Try.func153, Try.ntmps153
  iterate 6 (first | go_quiet (first | (go_at_call 149; (with_reducible refine (nat_size.calls k _ _ l0 t1324 _ ?side1 ?side2 A3.out).mono ?_); (case side1 => exact cs HR0.out); (case side2 => exact HC0.out); rintro e w' ⟨rfl, ⟨nd, rfl⟩⟩) | (go_at_call 149; (with_reducible refine (nat_size.calls k _ _ l1 t1325 _ ?side1 ?side2 A4.out).mono ?_); (case side1 => exact cs HR1.out); (case side2 => exact HC1.out); rintro e w' ⟨rfl, ⟨nd, rfl⟩⟩)) | go_wp2_with (first | (go_at_call 149; (with_reducible refine (nat_size.calls k _ _ l0 t1324 _ ?side1 ?side2 A3.out).mono ?_); (case side1 => exact cs HR0.out); (case side2 => exact HC0.out); rintro e w' ⟨rfl, ⟨nd, rfl⟩⟩) | (go_at_call 149; (with_reducible refine (nat_size.calls k _ _ l1 t1325 _ ?side1 ?side2 A4.out).mono ?_); (case side1 => exact cs HR1.out); (case side2 => exact HC1.out); rintro e w' ⟨rfl, ⟨nd, rfl⟩⟩)) | skip)
  go_ret
  exact ⟨by first | rfl | (simp; done) | (simp [*]; done), by repeat (first | exact Drawn0.refl _ | apply Drawn0.step)⟩

end Go.Proofs.Ytbpggonjcnakgaa.P
