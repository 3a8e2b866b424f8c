/- Functions of one package as Lean functions, and walks: written by a program for this claim. -/
import Derived.Test.YtbpggonjcnakgaaFbase
import Derived.Test.YtbpggonjcnakgaaBlimb
import Derived.Test.YtbpggonjcnakgaaBnat
namespace Go.Proofs.Ytbpggonjcnakgaa.P
open Go.RowKit Go.Proofs.YtbpggonjcnakgaaW.PrintWords Go.Proofs.YtbpggonjcnakgaaW.PrintLast Go.Proofs.YtbpggonjcnakgaaW.PrintMore
attribute [local go_sem] max2_int min2_int max_two min_two max_three min_three max_four min_four   -- for this text's walks alone
set_option linter.unusedVariables false
set_option linter.unusedSimpArgs false

def quot_Word.l0 : Nat → List Int → Int → List Int → Int → Int → Option (List Int × Int × Bool)
 | 0, _, _, _, _, _ => none
 | k + 1, x0, x1, x7, x8, x9 => if x9 ≥ 0 then (if 0 ≤ x9 then (if x9 < (x0.length : Int) then ((limb_Div.f k x8 (rd x0 x9) x1).bind fun bt1334 => (if x9 < (x7.length : Int) then (quot_Word.l0 k x0 x1 (x7.set (x9 : Int).toNat bt1334.1) bt1334.2.1 (wrap64 (x9 - 1))) else (none))) else (none)) else (none)) else ((nat_Trim.f k x7).bind fun t1338 => (some (t1338, x8, true)))
def quot_Word.f (k : Nat) (l0 : List Int) (a1 : Int) : Option (List Int × Int × Bool) := if a1 = 0 then (some (([] : List Int), 0, false)) else (if 0 ≤ (l0.length : Int) then (if ((l0.length : Int) : Int).toNat ≤ 35184372088832 then (quot_Word.l0 k l0 a1 (List.replicate ((l0.length : Int) : Int).toNat 0) 0 (wrap64 ((l0.length : Int) - 1))) else (none)) else (none))
set_option maxHeartbeats 8000000 in
set_option maxRecDepth 100000 in
theorem quot_Word.calls (k : Nat) (A0 : Option Addr) (c0 : Nat) (l0 : List Int) (a1 : Int) (r1 : List Int) (r2 : Int) (r3 : Bool) (w : World) (hr0 : Kd.C (Kd.int .u64) w A0 l0.length l0) (hc0 : l0.length ≤ c0) (h : quot_Word.f k l0 a1 = some (r1, r2, r3)) :
  Calls Try.prog 154 #[.slice A0 l0.length c0, .int .u64 a1] w fun e w' => ∃ v0_ : Value, e = .returned (.tuple #[v0_, .int .u64 r2, .bool r3]) ∧ Kd.R (Kd.int .u64) 22 w' w.heap.size (fun _ => True) v0_ r1 ∧ Below w.heap.size w w' := by
 have HR0 := Aside0.mk hr0
 have HC0 := Aside0.mk hc0
 clear hr0 hc0
 have HB := Aside0.mk (Below.refl w.heap.size w)
 have H := h
 clear h
 unfold quot_Word.f at H
 by_cases c3 : a1 = 0
 ·rw [if_pos c3] at H
  have c3b0 : (a1 == 0) = true := beq_iff_eq.mpr c3
  have c3b1 : (a1 != 0) = false := bne_eq_false_iff_eq.mpr c3
  clear c3
  simp only [Option.some.injEq, Prod.mk.injEq] at H
  obtain ⟨rfl, rfl, rfl⟩ := H
  go_enter Try.func154, Try.ntmps154
  go_wp2
  go_ret3
  exact ⟨_, by first | rfl | (simp [errW_none, errW_some] <;> rfl) | (simp [*, errW_none, errW_some] <;> rfl), by first | exact Kd.R_nil _ _ _ _ _ | exact Kd.N_nil _ _ _ _ _ | exact Kd.V_nil _ _ _ _ _ | exact Kd.Q_nil _ _ _ _ _ | exact Kd.S_nil _ _ _ _ _, hbb⟩
 ·rw [if_neg c3] at H
  have c3b0 : (a1 == 0) = false := beq_eq_false_iff_ne.mpr c3
  have c3b1 : (a1 != 0) = true := bne_iff_ne.mpr c3
  by_cases c4 : 0 ≤ (l0.length : Int)
  ·rw [if_pos c4] at H
   have c4b0 := eq_true c4
   have c4b1 : decide (0 ≤ (l0.length : Int)) = true := decide_eq_true c4
   clear c4
   by_cases c5 : ((l0.length : Int) : Int).toNat ≤ 35184372088832
   ·rw [if_pos c5] at H
    have c5b0 := eq_true c5
    have c5b1 : decide (((l0.length : Int) : Int).toNat ≤ 35184372088832) = true := decide_eq_true c5
    clear c5
    obtain ⟨y1330, hy1330⟩ : ∃ y_ : List Int, y_ = (List.replicate ((l0.length : Int) : Int).toNat 0) := ⟨_, rfl⟩
    rw [← hy1330] at H
    have Ny1330 := Aside0.mk hy1330
    clear hy1330
    have H' := Aside0.mk H
    clear H
    go_enter Try.func154, Try.ntmps154
    go_wp2_with (first | ((with_reducible refine gate_dst (N := 17) rfl ?_); refine Kd.R_make (Kd.int .u64) _ 22 rfl (N := 17) rfl 30 _ _ rfl (l0.length : Int) rfl rfl Try.underlying30 (.int .u64 0) 8 info22 rfl (by decide) (by omega) 0 (ok := fun _ => True) (okp := fun _ => True) rfl (fun _ hk => hk) trivial (of_decide_eq_true (by first | (with_reducible assumption) | assumption)) (Nat.le_trans (Nat.mul_le_mul_right _ (of_decide_eq_true (by first | (with_reducible assumption) | assumption) : (l0.length : Int).toNat ≤ 35184372088832)) (by omega)) (Below.refl _ _) (Nat.le_refl _) ?_; intro v1331 w6 ho7 hb hg_ hnew_; clear hg_ hnew_; (first | rw [← Ny1330.out] at ho7 | (simp only [Int.reduceToNat] at ho7; rw [← Ny1330.out] at ho7)); refine sw2 ⟨Kd.R_lower ho7 (below_size (bb HB.out))⟩ ⟨below_step (bb HB.out) hb⟩ ?_; clear HB; intro HO1332 HB; clear hb ho7))
    go_loopg [8, 9] k (fun kq v8 v9 w' => ∃ (x7_1 : List Int) (x8_1 : Int) (x9_1 : Int), v8 = .int .u64 x8_1 ∧ v9 = .int .i64 x9_1 ∧ Aside0 (quot_Word.l0 kq l0 a1 x7_1 x8_1 x9_1 = some (r1, r2, r3)) ∧ Aside0 (kq ≤ k) ∧ Aside0 (Kd.R (Kd.int .u64) 22 w' w.heap.size (fun _ => True) v1331 x7_1) ∧ Aside0 (Below w.heap.size w w'))
    case atStart => exact ⟨(y1330), (0), (wrap64 ((l0.length : Int) - 1)), (by first | rfl | (simp; done) | (simp [*]; done)), (by first | rfl | (simp; done) | (simp [*]; done)), H', ⟨Nat.le_refl _⟩, ⟨by (with_reducible repeat (first | apply Kd.R_alloc | apply Kd.R_drewN | apply Kd.R_drew)); exact HO1332.out⟩, ⟨bb HB.out⟩⟩
    case round =>
     clear H'
     obtain ⟨x7_1, x8_1, x9_1, rfl, rfl, HA, HK1, HO_7, HB⟩ := hrel
     cases gk with
     | zero => exact absurd HA.out (by simp [quot_Word.l0])
     | succ k1 =>
      have H := HA.out
      clear HA
      simp only [quot_Word.l0] at H
      by_cases c8 : x9_1 ≥ 0
      ·rw [if_pos c8] at H
       have c8b0 : decide (0 ≤ x9_1) = true := decide_eq_true c8
       clear c8
       by_cases c9 : 0 ≤ x9_1
       ·rw [if_pos c9] at H
        have c9b0 : decide (0 ≤ x9_1) = true := decide_eq_true c9
        clear c9
        by_cases c10 : x9_1 < (l0.length : Int)
        ·rw [if_pos c10] at H
         have c10b0 : decide (x9_1 < (l0.length : Int)) = true := decide_eq_true c10
         clear c10
         obtain ⟨⟨t1334, t1335, t1336⟩, A11, H⟩ := bnd H
         dsimp only at H
         by_cases c12 : x9_1 < (x7_1.length : Int)
         ·rw [if_pos c12] at H
          have c12b0 : decide (x9_1 < (x7_1.length : Int)) = true := decide_eq_true c12
          clear c12
          obtain ⟨y1337, hy1337⟩ : ∃ y_ : List Int, y_ = (x7_1.set (x9_1 : Int).toNat t1334) := ⟨_, rfl⟩
          rw [← hy1337] at H
          have Ny1337 := Aside0.mk hy1337
          clear hy1337
          have H' := Aside0.mk H
          clear H
          have p1333 : 0 ≤ (x9_1 : Int) := of_decide_eq_true (by first | (with_reducible assumption) | assumption)
          have q1333 : x9_1 < (l0.length : Int) := of_decide_eq_true (by first | (with_reducible assumption) | assumption)
          obtain ⟨ad1333, e1333, hx1333_0⟩ := Kd.at_int HR0.out x9_1 p1333 q1333
          cases e1333
          replace hx1333_0 := (HB.out.cell (World.block_lt_of_cell? w _ hx1333_0)).trans hx1333_0
          replace p1333 := eq_true p1333
          replace q1333 := eq_true q1333
          go_wp2_with (first | ((with_reducible refine gate_callee (f := 122) rfl ?_); refine goesL_ (some 32) rfl rfl Try.func122 (by kernel_rfl) rfl #[.int .u64 x8_1, .int .u64 (rd l0 x9_1), .int .u64 a1] rfl lx ?_; (with_reducible refine (limb_Div.calls k1 x8_1 (rd l0 x9_1) a1 t1334 t1335 t1336 _ A11.out).mono ?_); rintro e w' ⟨rfl, ⟨nd, rfl⟩⟩; refine ⟨_, rfl, ?_⟩; (try (rw [drewN_self wr]; generalize hq_ : World.drewN wr _ = wr; have n0_ : Aside0 (Kd.R (Kd.int .u64) 22 wr w.heap.size (fun _ => True) v1331 x7_1) := ⟨by rw [← hq_]; exact (st HO_7.out)⟩; have n1_ : Aside0 (Below w.heap.size w wr) := ⟨by rw [← hq_]; exact (bb HB.out)⟩; clear HO_7 HB hq_; have HO_7 := n0_; have HB := n1_; clear n0_ n1_)); have p13 : 0 ≤ (x9_1 : Int) := of_decide_eq_true (by first | (with_reducible assumption) | assumption); have q13 : (x9_1 : Int) < ((x7_1.length : Int) : Int) := of_decide_eq_true (by first | (with_reducible assumption) | assumption); obtain ⟨go13, co13, eo13, gb13, gl13, cl13, HG13⟩ := Kd.R_form HO_7.out (by omega); (first | cases eo13 | (injection eo13 with ea_ en_ ec_; (first | subst ea_ | (injection ea_ with ea_; subst ea_)); subst ec_; clear en_)); have GB13 := Aside0.mk gb13; have GG13 := Aside0.mk HG13; clear gb13 gl13 HG13; obtain ⟨hx13_0, hf13_0⟩ := Kd.R_celln 0 HO_7.out (x9_1 : Int) p13 q13; replace p13 := eq_true p13; replace q13 := eq_true q13; obtain ⟨hy14_, hz14_⟩ := Kd.R_celln 0 HO_7.out (x9_1 : Int) (of_decide_eq_true (by first | (with_reducible assumption) | assumption)) (of_decide_eq_true (by first | (with_reducible assumption) | assumption)); have HP14 := Kd.R_putg HO_7.out (x9_1 : Int) t1334) | ((with_reducible refine gate_store (t := 22) (p := 40) rfl ?_); refine store_event (t := 22) (p := 40) (v := ?vo_w15) (w1 := (wr.setCell ⟨go13, (x9_1 : Int).toNat, none⟩ (.int .u64 t1334))) ?hg ?ho ?hn ?hr ?_; (case ho => rfl); (case hg => rfl); (case hn => rfl); (case hr => first | (go_simp; done) | (go_simp; rfl)); intro w15 hw; have hg : wr.grownBy w15 (some go13) := (by rw [hw]; exact HP14.2); have hp_ : Kd.R (Kd.int .u64) 22 w15 w.heap.size (fun _ => True) (.slice (some ⟨go13, 0, none⟩) x7_1.length co13) y1337 := (by rw [hw, Ny1337.out]; exact HP14.1); clear HP14; refine sw2 ⟨hp_⟩ ⟨(by rw [hw]; exact below_set (HB.out) GB13.out : Below w.heap.size w w15)⟩ ?_; clear HO_7 HB; intro HO_7 HB; clear hg hw hp_))
          go_roundg k1
          case measure => have := HK1.out; omega
          case rel => exact ⟨(y1337), (t1335), (wrap64 (x9_1 - 1)), (by first | rfl | (simp; done) | (simp [*]; done)), (by first | rfl | (simp; done) | (simp [*]; done)), H', ⟨by have := HK1.out; omega⟩, ⟨by (with_reducible repeat (first | apply Kd.R_alloc | apply Kd.R_drewN | apply Kd.R_drew)); exact HO_7.out⟩, ⟨bb HB.out⟩⟩
         ·rw [if_neg c12] at H
          exact absurd H (by simp)
        ·rw [if_neg c10] at H
         exact absurd H (by simp)
       ·rw [if_neg c9] at H
        exact absurd H (by simp)
      ·rw [if_neg c8] at H
       have c8b0 : decide (0 ≤ x9_1) = false := decide_eq_false c8
       clear c8
       obtain ⟨t1338, A16, H⟩ := bnd H
       simp only [Option.some.injEq, Prod.mk.injEq] at H
       obtain ⟨rfl, rfl, rfl⟩ := H
       obtain ⟨Ao17, co17, eo17⟩ := Kd.R_slice HO_7.out
       subst eo17
       go_wp2_with (first | ((with_reducible refine gate_callee (f := 148) rfl ?_); refine goesL_ (some 42) rfl rfl Try.func148 (by kernel_rfl) rfl #[.slice Ao17 x7_1.length co17] rfl lx ?_; (with_reducible refine (nat_Trim.calls k1 _ _ x7_1 t1338 _ ?side1 ?side2 A16.out).mono ?_); (case side1 => exact cs (Kd.R_reads' HO_7.out).2.2); (case side2 => exact (Kd.R_reads' HO_7.out).2.1); rintro e w18 ⟨v1339, rfl, ho0, hb⟩; refine ⟨_, rfl, ?_⟩; refine sw3 ⟨Kd.R_elder' (st HO_7.out) (Kd.R_base ho0) hb⟩ ⟨Kd.R_lower (Kd.R_new' ho0 (Kd.R_lt (st HO_7.out))) (below_size (bb HB.out))⟩ ⟨below_step (bb HB.out) hb⟩ ?_; clear HO_7 HB; intro HO_7 HO1340 HB))
       go_ret3
       exact ⟨_, by first | rfl | (simp [errW_none, errW_some] <;> rfl) | (simp [*, errW_none, errW_some] <;> rfl), by (with_reducible repeat (first | apply Kd.R_alloc | apply Kd.R_drewN | apply Kd.R_drew)); exact Kd.R_mono HO1340.out (fun _ hk => trivial), hbb⟩
   ·rw [if_neg c5] at H
    exact absurd H (by simp)
  ·rw [if_neg c4] at H
   exact absurd H (by simp)

def quot_correct.l0 : Nat → Int → Int → Int → Int → Int → Int → Option (Int)
 | 0, _, _, _, _, _, _ => none
 | k + 1, x0, x1, x2, x3, x4, x5 => (limb_Mul.f x0 x4).bind fun bt1341 => ((limb_Sub.f x2 bt1341.2 0).bind fun bt1343 => ((limb_Sub.f x1 bt1341.1 bt1343.2).bind fun bt1345 => ((limb_Mul.f x0 x5).bind fun bt1347 => (if bt1345.1 = 0 then (if bt1347.1 < bt1343.1 then (some x0) else (if bt1347.1 = bt1343.1 then (if bt1347.2 ≤ x3 then (some x0) else (quot_correct.l0 k (IntKind.u64.wrap (x0 - 1)) x1 x2 x3 x4 x5)) else (quot_correct.l0 k (IntKind.u64.wrap (x0 - 1)) x1 x2 x3 x4 x5))) else (some x0)))))
def quot_correct.f (k : Nat) (a0 : Int) (a1 : Int) (a2 : Int) (a3 : Int) (a4 : Int) (a5 : Int) : Option (Int) := quot_correct.l0 k a0 a1 a2 a3 a4 a5
set_option maxHeartbeats 8000000 in
set_option maxRecDepth 100000 in
theorem quot_correct.calls (k : Nat) (a0 : Int) (a1 : Int) (a2 : Int) (a3 : Int) (a4 : Int) (a5 : Int) (r : Int) (w : World) (h : quot_correct.f k a0 a1 a2 a3 a4 a5 = some r) :
  Calls Try.prog 162 #[.int .u64 a0, .int .u64 a1, .int .u64 a2, .int .u64 a3, .int .u64 a4, .int .u64 a5] w fun e w' => e = .returned (.int .u64 r) ∧ Drawn0 w w' := by
 have H := h
 clear h
 unfold quot_correct.f at H
 have H' := Aside0.mk H
 clear H
 go_enter Try.func162, Try.ntmps162
 go_wp2
 go_step3
 go_wp2
 go_step3
 go_wp2
 go_loopg [0] k (fun kq v0 w' => ∃ (x0_1 : Int), v0 = .int .u64 x0_1 ∧ Aside0 (quot_correct.l0 kq x0_1 a1 a2 a3 a4 a5 = some r) ∧ Aside0 (kq ≤ k) ∧ Drawn0 w w')
 case atStart => exact ⟨(a0), (by first | rfl | (simp; done) | (simp [*]; done)), H', ⟨Nat.le_refl _⟩, by repeat (first | exact Drawn0.refl _ | apply Drawn0.step)⟩
 case round =>
  clear H'
  obtain ⟨x0_1, rfl, HA, HK1, ⟨m1, rfl⟩⟩ := hrel
  cases gk with
  | zero => exact absurd HA.out (by simp [quot_correct.l0])
  | succ k1 =>
   have H := HA.out
   clear HA
   simp only [quot_correct.l0] at H
   obtain ⟨⟨t1341, t1342⟩, A7, H⟩ := bnd H
   dsimp only at H
   obtain ⟨⟨t1343, t1344⟩, A8, H⟩ := bnd H
   dsimp only at H
   obtain ⟨⟨t1345, t1346⟩, A9, H⟩ := bnd H
   dsimp only at H
   obtain ⟨⟨t1347, t1348⟩, A10, H⟩ := bnd H
   dsimp only at H
   refine if c11 : t1345 = 0 then ?p63_ else ?n63_
   case' p63_ =>
    rw [if_pos c11] at H
    have c11b0 : (t1345 == 0) = true := beq_iff_eq.mpr c11
    have c11b1 : (t1345 != 0) = false := bne_eq_false_iff_eq.mpr c11
    clear c11
    refine if c12 : t1347 < t1343 then ?p64_ else ?n64_
    case p64_ =>
     rw [if_pos c12] at H
     have c12b0 : decide (t1347 < t1343) = true := decide_eq_true c12
     clear c12
     obtain rfl := Option.some.inj H
     go_wp2_with (first | ((with_reducible refine gate_callee (f := 120) rfl ?_); refine goesL_ (some 22) rfl rfl Try.func120 (by kernel_rfl) rfl #[.int .u64 x0_1, .int .u64 a4] rfl lx ?_; (with_reducible refine (limb_Mul.calls x0_1 a4 t1341 t1342 _ A7.out).mono ?_); rintro e w' ⟨rfl, ⟨nd, rfl⟩⟩; refine ⟨_, rfl, ?_⟩) | ((with_reducible refine gate_callee (f := 163) rfl ?_); refine goesL_ (some 28) rfl rfl Try.func163 (by kernel_rfl) rfl #[.int .u64 a2, .int .u64 t1342, .int .u64 0] rfl lx ?_; (with_reducible refine (limb_Sub.calls a2 t1342 0 t1343 t1344 _ A8.out).mono ?_); rintro e w' ⟨rfl, ⟨nd, rfl⟩⟩; refine ⟨_, rfl, ?_⟩) | ((with_reducible refine gate_callee (f := 163) rfl ?_); refine goesL_ (some 35) rfl rfl Try.func163 (by kernel_rfl) rfl #[.int .u64 a1, .int .u64 t1341, .int .u64 t1344] rfl lx ?_; (with_reducible refine (limb_Sub.calls a1 t1341 t1344 t1345 t1346 _ A9.out).mono ?_); rintro e w' ⟨rfl, ⟨nd, rfl⟩⟩; refine ⟨_, rfl, ?_⟩) | ((with_reducible refine gate_callee (f := 120) rfl ?_); refine goesL_ (some 41) rfl rfl Try.func120 (by kernel_rfl) rfl #[.int .u64 x0_1, .int .u64 a5] rfl lx ?_; (with_reducible refine (limb_Mul.calls x0_1 a5 t1347 t1348 _ A10.out).mono ?_); rintro e w' ⟨rfl, ⟨nd, rfl⟩⟩; refine ⟨_, rfl, ?_⟩))
     (try rw [Exit.noGoto_ret])
     go_ret
     exact ⟨by first | rfl | (simp; done) | (simp [*]; done), by repeat (first | exact Drawn0.refl _ | apply Drawn0.step)⟩
    case' n64_ =>
     rw [if_neg c12] at H
     have c12b0 : decide (t1347 < t1343) = false := decide_eq_false c12
     clear c12
     refine if c13 : t1347 = t1343 then ?p65_ else ?n65_
     case' p65_ =>
      rw [if_pos c13] at H
      have c13b0 : (t1347 == t1343) = true := beq_iff_eq.mpr c13
      have c13b1 : (t1347 != t1343) = false := bne_eq_false_iff_eq.mpr c13
      clear c13
      refine if c14 : t1348 ≤ a3 then ?p66_ else ?n66_
      case p66_ =>
       rw [if_pos c14] at H
       have c14b0 : decide (t1348 ≤ a3) = true := decide_eq_true c14
       clear c14
       obtain rfl := Option.some.inj H
       go_wp2_with (first | ((with_reducible refine gate_callee (f := 120) rfl ?_); refine goesL_ (some 22) rfl rfl Try.func120 (by kernel_rfl) rfl #[.int .u64 x0_1, .int .u64 a4] rfl lx ?_; (with_reducible refine (limb_Mul.calls x0_1 a4 t1341 t1342 _ A7.out).mono ?_); rintro e w' ⟨rfl, ⟨nd, rfl⟩⟩; refine ⟨_, rfl, ?_⟩) | ((with_reducible refine gate_callee (f := 163) rfl ?_); refine goesL_ (some 28) rfl rfl Try.func163 (by kernel_rfl) rfl #[.int .u64 a2, .int .u64 t1342, .int .u64 0] rfl lx ?_; (with_reducible refine (limb_Sub.calls a2 t1342 0 t1343 t1344 _ A8.out).mono ?_); rintro e w' ⟨rfl, ⟨nd, rfl⟩⟩; refine ⟨_, rfl, ?_⟩) | ((with_reducible refine gate_callee (f := 163) rfl ?_); refine goesL_ (some 35) rfl rfl Try.func163 (by kernel_rfl) rfl #[.int .u64 a1, .int .u64 t1341, .int .u64 t1344] rfl lx ?_; (with_reducible refine (limb_Sub.calls a1 t1341 t1344 t1345 t1346 _ A9.out).mono ?_); rintro e w' ⟨rfl, ⟨nd, rfl⟩⟩; refine ⟨_, rfl, ?_⟩) | ((with_reducible refine gate_callee (f := 120) rfl ?_); refine goesL_ (some 41) rfl rfl Try.func120 (by kernel_rfl) rfl #[.int .u64 x0_1, .int .u64 a5] rfl lx ?_; (with_reducible refine (limb_Mul.calls x0_1 a5 t1347 t1348 _ A10.out).mono ?_); rintro e w' ⟨rfl, ⟨nd, rfl⟩⟩; refine ⟨_, rfl, ?_⟩))
       (try rw [Exit.noGoto_ret])
       go_ret
       exact ⟨by first | rfl | (simp; done) | (simp [*]; done), by repeat (first | exact Drawn0.refl _ | apply Drawn0.step)⟩
      case' n66_ =>
       rw [if_neg c14] at H
       have c14b0 : decide (t1348 ≤ a3) = false := decide_eq_false c14
       clear c14
       have H' := Aside0.mk H
       clear H
     case' n65_ =>
      rw [if_neg c13] at H
      have c13b0 : (t1347 == t1343) = false := beq_eq_false_iff_ne.mpr c13
      have c13b1 : (t1347 != t1343) = true := bne_iff_ne.mpr c13
      have H' := Aside0.mk H
      clear H
   case n63_ =>
    rw [if_neg c11] at H
    have c11b0 : (t1345 == 0) = false := beq_eq_false_iff_ne.mpr c11
    have c11b1 : (t1345 != 0) = true := bne_iff_ne.mpr c11
    obtain rfl := Option.some.inj H
    go_wp2_with (first | ((with_reducible refine gate_callee (f := 120) rfl ?_); refine goesL_ (some 22) rfl rfl Try.func120 (by kernel_rfl) rfl #[.int .u64 x0_1, .int .u64 a4] rfl lx ?_; (with_reducible refine (limb_Mul.calls x0_1 a4 t1341 t1342 _ A7.out).mono ?_); rintro e w' ⟨rfl, ⟨nd, rfl⟩⟩; refine ⟨_, rfl, ?_⟩) | ((with_reducible refine gate_callee (f := 163) rfl ?_); refine goesL_ (some 28) rfl rfl Try.func163 (by kernel_rfl) rfl #[.int .u64 a2, .int .u64 t1342, .int .u64 0] rfl lx ?_; (with_reducible refine (limb_Sub.calls a2 t1342 0 t1343 t1344 _ A8.out).mono ?_); rintro e w' ⟨rfl, ⟨nd, rfl⟩⟩; refine ⟨_, rfl, ?_⟩) | ((with_reducible refine gate_callee (f := 163) rfl ?_); refine goesL_ (some 35) rfl rfl Try.func163 (by kernel_rfl) rfl #[.int .u64 a1, .int .u64 t1341, .int .u64 t1344] rfl lx ?_; (with_reducible refine (limb_Sub.calls a1 t1341 t1344 t1345 t1346 _ A9.out).mono ?_); rintro e w' ⟨rfl, ⟨nd, rfl⟩⟩; refine ⟨_, rfl, ?_⟩) | ((with_reducible refine gate_callee (f := 120) rfl ?_); refine goesL_ (some 41) rfl rfl Try.func120 (by kernel_rfl) rfl #[.int .u64 x0_1, .int .u64 a5] rfl lx ?_; (with_reducible refine (limb_Mul.calls x0_1 a5 t1347 t1348 _ A10.out).mono ?_); rintro e w' ⟨rfl, ⟨nd, rfl⟩⟩; refine ⟨_, rfl, ?_⟩))
    (try rw [Exit.noGoto_ret])
    go_ret
    exact ⟨by first | rfl | (simp; done) | (simp [*]; done), by repeat (first | exact Drawn0.refl _ | apply Drawn0.step)⟩
   case p65_ | n65_ =>
    go_wp2_with (first | ((with_reducible refine gate_callee (f := 120) rfl ?_); refine goesL_ (some 22) rfl rfl Try.func120 (by kernel_rfl) rfl #[.int .u64 x0_1, .int .u64 a4] rfl lx ?_; (with_reducible refine (limb_Mul.calls x0_1 a4 t1341 t1342 _ A7.out).mono ?_); rintro e w' ⟨rfl, ⟨nd, rfl⟩⟩; refine ⟨_, rfl, ?_⟩) | ((with_reducible refine gate_callee (f := 163) rfl ?_); refine goesL_ (some 28) rfl rfl Try.func163 (by kernel_rfl) rfl #[.int .u64 a2, .int .u64 t1342, .int .u64 0] rfl lx ?_; (with_reducible refine (limb_Sub.calls a2 t1342 0 t1343 t1344 _ A8.out).mono ?_); rintro e w' ⟨rfl, ⟨nd, rfl⟩⟩; refine ⟨_, rfl, ?_⟩) | ((with_reducible refine gate_callee (f := 163) rfl ?_); refine goesL_ (some 35) rfl rfl Try.func163 (by kernel_rfl) rfl #[.int .u64 a1, .int .u64 t1341, .int .u64 t1344] rfl lx ?_; (with_reducible refine (limb_Sub.calls a1 t1341 t1344 t1345 t1346 _ A9.out).mono ?_); rintro e w' ⟨rfl, ⟨nd, rfl⟩⟩; refine ⟨_, rfl, ?_⟩) | ((with_reducible refine gate_callee (f := 120) rfl ?_); refine goesL_ (some 41) rfl rfl Try.func120 (by kernel_rfl) rfl #[.int .u64 x0_1, .int .u64 a5] rfl lx ?_; (with_reducible refine (limb_Mul.calls x0_1 a5 t1347 t1348 _ A10.out).mono ?_); rintro e w' ⟨rfl, ⟨nd, rfl⟩⟩; refine ⟨_, rfl, ?_⟩))
    go_roundg k1
    case measure => have := HK1.out; omega
    case rel => exact ⟨(IntKind.u64.wrap (x0_1 - 1)), (by first | rfl | (simp; done) | (simp [*]; done)), H', ⟨by have := HK1.out; omega⟩, by repeat (first | exact Drawn0.refl _ | apply Drawn0.step)⟩

def quot_guess.f (k : Nat) (l0 : List Int) (a1 : Int) (a2 : Int) (a3 : Int) : Option (Int) := if 0 ≤ a1 then (if a1 < (l0.length : Int) then (if 0 ≤ (wrap64 (a1 - 1)) then (if (wrap64 (a1 - 1)) < (l0.length : Int) then (if 0 ≤ (wrap64 (a1 - 2)) then (if (wrap64 (a1 - 2)) < (l0.length : Int) then (if (rd l0 a1) ≥ a2 then ((quot_correct.f k 18446744073709551615 (rd l0 a1) (rd l0 (wrap64 (a1 - 1))) (rd l0 (wrap64 (a1 - 2))) a2 a3).bind fun t1352 => (some t1352)) else ((limb_Div.f k (rd l0 a1) (rd l0 (wrap64 (a1 - 1))) a2).bind fun bt1353 => ((quot_correct.f k bt1353.1 (rd l0 a1) (rd l0 (wrap64 (a1 - 1))) (rd l0 (wrap64 (a1 - 2))) a2 a3).bind fun t1356 => (some t1356)))) else (none)) else (none)) else (none)) else (none)) else (none)) else (none)
set_option maxHeartbeats 8000000 in
set_option maxRecDepth 100000 in
theorem quot_guess.calls (k : Nat) (A0 : Option Addr) (c0 : Nat) (l0 : List Int) (a1 : Int) (a2 : Int) (a3 : Int) (r : Int) (w : World) (hr0 : Kd.C (Kd.int .u64) w A0 l0.length l0) (hc0 : l0.length ≤ c0) (h : quot_guess.f k l0 a1 a2 a3 = some r) :
  Calls Try.prog 158 #[.slice A0 l0.length c0, .int .i64 a1, .int .u64 a2, .int .u64 a3] w fun e w' => e = .returned (.int .u64 r) ∧ Drawn0 w w' := by
 have HR0 := Aside0.mk hr0
 have HC0 := Aside0.mk hc0
 clear hr0 hc0
 have H := h
 clear h
 unfold quot_guess.f at H
 refine if c5 : 0 ≤ a1 then ?p86_ else ?n86_
 case' p86_ =>
  rw [if_pos c5] at H
  have c5b0 : decide (0 ≤ a1) = true := decide_eq_true c5
  clear c5
  refine if c6 : a1 < (l0.length : Int) then ?p87_ else ?n87_
  case' p87_ =>
   rw [if_pos c6] at H
   have c6b0 : decide (a1 < (l0.length : Int)) = true := decide_eq_true c6
   clear c6
   obtain ⟨ji7, hji7⟩ : ∃ j_ : Int, (wrap64 (a1 - 1)) = j_ := ⟨_, rfl⟩
   rw [hji7] at H
   have hji7w : (IntKind.i64.wrap (a1 - 1)) = ji7 := (i64_w _).trans hji7
   refine if c8 : 0 ≤ (ji7) then ?p88_ else ?n88_
   case' p88_ =>
    rw [if_pos c8] at H
    have c8b0 : decide (0 ≤ (ji7)) = true := decide_eq_true c8
    clear c8
    refine if c9 : (ji7) < (l0.length : Int) then ?p89_ else ?n89_
    case' p89_ =>
     rw [if_pos c9] at H
     have c9b0 : decide ((ji7) < (l0.length : Int)) = true := decide_eq_true c9
     clear c9
     obtain ⟨ji10, hji10⟩ : ∃ j_ : Int, (wrap64 (a1 - 2)) = j_ := ⟨_, rfl⟩
     rw [hji10] at H
     have hji10w : (IntKind.i64.wrap (a1 - 2)) = ji10 := (i64_w _).trans hji10
     refine if c11 : 0 ≤ (ji10) then ?p90_ else ?n90_
     case' p90_ =>
      rw [if_pos c11] at H
      have c11b0 : decide (0 ≤ (ji10)) = true := decide_eq_true c11
      clear c11
      refine if c12 : (ji10) < (l0.length : Int) then ?p91_ else ?n91_
      case' p91_ =>
       rw [if_pos c12] at H
       have c12b0 : decide ((ji10) < (l0.length : Int)) = true := decide_eq_true c12
       clear c12
       refine if c13 : (rd l0 a1) ≥ a2 then ?p92_ else ?n92_
       case' p92_ =>
        rw [if_pos c13] at H
        have c13b0 : decide (a2 ≤ (rd l0 a1)) = true := decide_eq_true c13
        clear c13
        obtain ⟨t1352, A14, H⟩ := bnd H
        obtain rfl := Option.some.inj H
        have p1349 : 0 ≤ (a1 : Int) := of_decide_eq_true (by first | (with_reducible assumption) | assumption)
        have q1349 : a1 < (l0.length : Int) := of_decide_eq_true (by first | (with_reducible assumption) | assumption)
        obtain ⟨ad1349, e1349, hx1349_0⟩ := Kd.at_int HR0.out a1 p1349 q1349
        cases e1349
        replace p1349 := eq_true p1349
        replace q1349 := eq_true q1349
        have p1350 : 0 ≤ ((ji7) : Int) := of_decide_eq_true (by first | (with_reducible assumption) | assumption)
        have q1350 : (ji7) < (l0.length : Int) := of_decide_eq_true (by first | (with_reducible assumption) | assumption)
        obtain ⟨ad1350, e1350, hx1350_0⟩ := Kd.at_int HR0.out (ji7) p1350 q1350
        obtain rfl : ad1349 = ad1350 := (by injection e1350)
        replace p1350 := eq_true p1350
        replace q1350 := eq_true q1350
        have p1351 : 0 ≤ ((ji10) : Int) := of_decide_eq_true (by first | (with_reducible assumption) | assumption)
        have q1351 : (ji10) < (l0.length : Int) := of_decide_eq_true (by first | (with_reducible assumption) | assumption)
        obtain ⟨ad1351, e1351, hx1351_0⟩ := Kd.at_int HR0.out (ji10) p1351 q1351
        obtain rfl : ad1349 = ad1351 := (by injection e1351)
        replace p1351 := eq_true p1351
        replace q1351 := eq_true q1351
       case' n92_ =>
        rw [if_neg c13] at H
        have c13b0 : decide (a2 ≤ (rd l0 a1)) = false := decide_eq_false c13
        clear c13
        obtain ⟨⟨t1353, t1354, t1355⟩, A15, H⟩ := bnd H
        dsimp only at H
        obtain ⟨t1356, A16, H⟩ := bnd H
        obtain rfl := Option.some.inj H
        have p1349 : 0 ≤ (a1 : Int) := of_decide_eq_true (by first | (with_reducible assumption) | assumption)
        have q1349 : a1 < (l0.length : Int) := of_decide_eq_true (by first | (with_reducible assumption) | assumption)
        obtain ⟨ad1349, e1349, hx1349_0⟩ := Kd.at_int HR0.out a1 p1349 q1349
        cases e1349
        replace p1349 := eq_true p1349
        replace q1349 := eq_true q1349
        have p1350 : 0 ≤ ((ji7) : Int) := of_decide_eq_true (by first | (with_reducible assumption) | assumption)
        have q1350 : (ji7) < (l0.length : Int) := of_decide_eq_true (by first | (with_reducible assumption) | assumption)
        obtain ⟨ad1350, e1350, hx1350_0⟩ := Kd.at_int HR0.out (ji7) p1350 q1350
        obtain rfl : ad1349 = ad1350 := (by injection e1350)
        replace p1350 := eq_true p1350
        replace q1350 := eq_true q1350
        have p1351 : 0 ≤ ((ji10) : Int) := of_decide_eq_true (by first | (with_reducible assumption) | assumption)
        have q1351 : (ji10) < (l0.length : Int) := of_decide_eq_true (by first | (with_reducible assumption) | assumption)
        obtain ⟨ad1351, e1351, hx1351_0⟩ := Kd.at_int HR0.out (ji10) p1351 q1351
        obtain rfl : ad1349 = ad1351 := (by injection e1351)
        replace p1351 := eq_true p1351
        replace q1351 := eq_true q1351
      case n91_ =>
       rw [if_neg c12] at H
       exact absurd H (by simp)
     case n90_ =>
      rw [if_neg c11] at H
      exact absurd H (by simp)
    case n89_ =>
     rw [if_neg c9] at H
     exact absurd H (by simp)
   case n88_ =>
    rw [if_neg c8] at H
    exact absurd H (by simp)
  case n87_ =>
   rw [if_neg c6] at H
   exact absurd H (by simp)
 case n86_ =>
  rw [if_neg c5] at H
  exact absurd H (by simp)
 case p92_ | n92_ =>
  go_enter Try.func158, Try.ntmps158
  iterate 6 (first | go_quiet (first | (go_at_call 122; (with_reducible refine (limb_Div.calls k (rd l0 a1) (rd l0 (ji7)) a2 t1353 t1354 t1355 _ A15.out).mono ?_); rintro e w' ⟨rfl, ⟨nd, rfl⟩⟩) | (go_at_call 162; (with_reducible refine (quot_correct.calls k t1353 (rd l0 a1) (rd l0 (ji7)) (rd l0 (ji10)) a2 a3 t1356 _ A16.out).mono ?_); rintro e w' ⟨rfl, ⟨nd, rfl⟩⟩) | (go_at_call 162; (with_reducible refine (quot_correct.calls k 18446744073709551615 (rd l0 a1) (rd l0 (ji7)) (rd l0 (ji10)) a2 a3 t1352 _ A14.out).mono ?_); rintro e w' ⟨rfl, ⟨nd, rfl⟩⟩)) | go_wp2_with (first | (go_at_call 122; (with_reducible refine (limb_Div.calls k (rd l0 a1) (rd l0 (ji7)) a2 t1353 t1354 t1355 _ A15.out).mono ?_); rintro e w' ⟨rfl, ⟨nd, rfl⟩⟩) | (go_at_call 162; (with_reducible refine (quot_correct.calls k t1353 (rd l0 a1) (rd l0 (ji7)) (rd l0 (ji10)) a2 a3 t1356 _ A16.out).mono ?_); rintro e w' ⟨rfl, ⟨nd, rfl⟩⟩) | (go_at_call 162; (with_reducible refine (quot_correct.calls k 18446744073709551615 (rd l0 a1) (rd l0 (ji7)) (rd l0 (ji10)) a2 a3 t1352 _ A14.out).mono ?_); rintro e w' ⟨rfl, ⟨nd, rfl⟩⟩)) | skip)
  go_ret
  exact ⟨by first | rfl | (simp; done) | (simp only [← hji7, ← hji10] <;> (first | rfl | simp)) | (simp [*]; done), by repeat (first | exact Drawn0.refl _ | apply Drawn0.step)⟩

def quot_take.l0 : Nat → List Int → List Int → Int → Int → Int → Int → List Int → Int → Int → Option (Bool × List Int)
 | 0, _, _, _, _, _, _, _, _, _ => none
 | k + 1, x0, x1, x2, x3, x9, x10, x20, x21, x22 => if x22 < x21 then (if 0 ≤ x22 then (if x22 < (x20.length : Int) then ((limb_Mul.f (rd x20 x22) x3).bind fun bt1358 => ((limb_Add.f bt1358.2 x9 0).bind fun bt1360 => (if 0 ≤ (wrap64 (x2 + x22)) then (if (wrap64 (x2 + x22)) < (x0.length : Int) then ((limb_Sub.f (rd x0 (wrap64 (x2 + x22))) bt1360.1 x10).bind fun bt1363 => (quot_take.l0 k (x0.set ((wrap64 (x2 + x22)) : Int).toNat bt1363.1) x1 x2 x3 (IntKind.u64.wrap (bt1358.1 + bt1360.2)) bt1363.2 x20 x21 (wrap64 (x22 + 1)))) else (none)) else (none)))) else (none)) else (none)) else (if 0 ≤ (wrap64 (x2 + (x1.length : Int))) then (if (wrap64 (x2 + (x1.length : Int))) < (x0.length : Int) then ((limb_Sub.f (rd x0 (wrap64 (x2 + (x1.length : Int)))) x9 x10).bind fun bt1367 => (some ((bt1367.2 != 0), (x0.set ((wrap64 (x2 + (x1.length : Int))) : Int).toNat bt1367.1)))) else (none)) else (none))
def quot_take.f (k : Nat) (l0 : List Int) (l1 : List Int) (a2 : Int) (a3 : Int) : Option (Bool × List Int) := quot_take.l0 k l0 l1 a2 a3 0 0 l1 (l1.length : Int) 0
set_option maxHeartbeats 8000000 in
set_option maxRecDepth 100000 in
theorem quot_take.calls (k : Nat) (P0_ : Nat → Prop) (u9000_ : Value) (l0 : List Int) (A1 : Option Addr) (c1 : Nat) (l1 : List Int) (a2 : Int) (a3 : Int) (r1 : Bool) (r2 : List Int) (w0 w : World) (hB : Below w0.heap.size w0 w) (ho0 : Kd.R (Kd.int .u64) 22 w w0.heap.size P0_ u9000_ l0) (hr1 : ∀ W_, Kept w W_ (fun k_ => P0_ k_) → Kd.C (Kd.int .u64) W_ A1 l1.length l1) (hc1 : l1.length ≤ c1) (h : quot_take.f k l0 l1 a2 a3 = some (r1, r2)) :
  Calls Try.prog 159 #[u9000_, .slice A1 l1.length c1, .int .i64 a2, .int .u64 a3] w fun e w' => e = .returned (.bool r1) ∧ Kd.R (Kd.int .u64) 22 w' w0.heap.size (fun k_ => (P0_ k_ ∨ w.heap.size ≤ k_)) u9000_ r2 ∧ Below w0.heap.size w0 w' ∧ Kept w w' (fun k_ => P0_ k_) := by
 have HO0 := Aside0.mk (show Kd.R (Kd.int .u64) 22 w w0.heap.size (fun k_ => (P0_ k_ ∨ w.heap.size ≤ k_)) u9000_ l0 from Kd.R_mono ho0 (fun k_ hk => (.inl hk)))
 have HR1 := Aside0.mk hr1
 have HC1 := Aside0.mk hc1
 clear hr1 hc1
 have HK := Aside0.mk (Kept.refl w (fun k_ => P0_ k_))
 have HW0 := Aside0.mk hB.size
 have HB := Aside0.mk hB
 clear hB
 have H := h
 clear h
 unfold quot_take.f at H
 have H' := Aside0.mk H
 clear H
 go_enter Try.func159, Try.ntmps159
 go_wp2
 go_loopg [9, 10, 22] k (fun kq v9 v10 v22 w' => ∃ (x0_1 : List Int) (x9_1 : Int) (x10_1 : Int) (x22_1 : Int), v9 = .int .u64 x9_1 ∧ v10 = .int .u64 x10_1 ∧ v22 = .int .i64 x22_1 ∧ Aside0 (quot_take.l0 kq x0_1 l1 a2 a3 x9_1 x10_1 l1 (l1.length : Int) x22_1 = some (r1, r2)) ∧ Aside0 (kq ≤ k) ∧ Aside0 (Kd.R (Kd.int .u64) 22 w' w0.heap.size (fun k_ => (P0_ k_ ∨ w.heap.size ≤ k_)) u9000_ x0_1) ∧ Aside0 (Kept w w' (fun k_ => P0_ k_)) ∧ Aside0 (Below w0.heap.size w0 w'))
 case atStart => exact ⟨(l0), (0), (0), (0), (by first | rfl | (simp; done) | (simp [*]; done)), (by first | rfl | (simp; done) | (simp [*]; done)), (by first | rfl | (simp; done) | (simp [*]; done)), H', ⟨Nat.le_refl _⟩, ⟨by (with_reducible repeat (first | apply Kd.R_alloc | apply Kd.R_drewN | apply Kd.R_drew)); exact HO0.out⟩, ⟨hkk⟩, ⟨bb HB.out⟩⟩
 case round =>
  clear H'
  obtain ⟨x0_1, x9_1, x10_1, x22_1, rfl, rfl, rfl, HA, HK1, HO_0, HK, HB⟩ := hrel
  cases gk with
  | zero => exact absurd HA.out (by simp [quot_take.l0])
  | succ k1 =>
   have H := HA.out
   clear HA
   simp only [quot_take.l0] at H
   by_cases c5 : x22_1 < (l1.length : Int)
   ·rw [if_pos c5] at H
    have c5b0 : decide (x22_1 < (l1.length : Int)) = true := decide_eq_true c5
    clear c5
    by_cases c6 : 0 ≤ x22_1
    ·rw [if_pos c6] at H
     have c6b0 : decide (0 ≤ x22_1) = true := decide_eq_true c6
     clear c6
     by_cases c7 : x22_1 < (l1.length : Int)
     ·rw [if_pos c7] at H
      have c7b0 : decide (x22_1 < (l1.length : Int)) = true := decide_eq_true c7
      clear c7
      obtain ⟨⟨t1358, t1359⟩, A8, H⟩ := bnd H
      dsimp only at H
      obtain ⟨⟨t1360, t1361⟩, A9, H⟩ := bnd H
      dsimp only at H
      obtain ⟨ji10, hji10⟩ : ∃ j_ : Int, (wrap64 (a2 + x22_1)) = j_ := ⟨_, rfl⟩
      rw [hji10] at H
      (try rw [hji10] at A8)
      (try rw [hji10] at A9)
      have hji10w : (IntKind.i64.wrap (a2 + x22_1)) = ji10 := (i64_w _).trans hji10
      by_cases c11 : 0 ≤ (ji10)
      ·rw [if_pos c11] at H
       have c11b0 : decide (0 ≤ (ji10)) = true := decide_eq_true c11
       clear c11
       by_cases c12 : (ji10) < (x0_1.length : Int)
       ·rw [if_pos c12] at H
        have c12b0 : decide ((ji10) < (x0_1.length : Int)) = true := decide_eq_true c12
        clear c12
        obtain ⟨⟨t1363, t1364⟩, A13, H⟩ := bnd H
        dsimp only at H
        obtain ⟨y1365, hy1365⟩ : ∃ y_ : List Int, y_ = (x0_1.set ((ji10) : Int).toNat t1363) := ⟨_, rfl⟩
        rw [← hy1365] at H
        have Ny1365 := Aside0.mk hy1365
        clear hy1365
        have H' := Aside0.mk H
        clear H
        have p1357 : 0 ≤ (x22_1 : Int) := of_decide_eq_true (by first | (with_reducible assumption) | assumption)
        have q1357 : x22_1 < (l1.length : Int) := of_decide_eq_true (by first | (with_reducible assumption) | assumption)
        obtain ⟨ad1357, e1357, hx1357_0⟩ := Kd.at_int (Kd.C_kept_now HR1.out HK.out) x22_1 p1357 q1357
        cases e1357
        replace p1357 := eq_true p1357
        replace q1357 := eq_true q1357
        go_wp2_with (first | ((with_reducible refine gate_callee (f := 120) rfl ?_); refine goesL_ (some 30) rfl rfl Try.func120 (by kernel_rfl) rfl #[.int .u64 (rd l1 x22_1), .int .u64 a3] rfl lx ?_; (with_reducible refine (limb_Mul.calls (rd l1 x22_1) a3 t1358 t1359 _ A8.out).mono ?_); rintro e w' ⟨rfl, ⟨nd, rfl⟩⟩; refine ⟨_, rfl, ?_⟩; (try (rw [drewN_self wr]; generalize hq_ : World.drewN wr _ = wr; have n0_ : Aside0 (Kd.R (Kd.int .u64) 22 wr w0.heap.size (fun k_ => (P0_ k_ ∨ w.heap.size ≤ k_)) u9000_ x0_1) := ⟨by rw [← hq_]; exact (st HO_0.out)⟩; have n1_ : Aside0 (Kept w wr (fun k_ => P0_ k_)) := ⟨by rw [← hq_]; exact hkk⟩; have n2_ : Aside0 (Below w0.heap.size w0 wr) := ⟨by rw [← hq_]; exact (bb HB.out)⟩; clear HO_0 HK HB hq_; have HO_0 := n0_; have HK := n1_; have HB := n2_; clear n0_ n1_ n2_))) | ((with_reducible refine gate_callee (f := 147) rfl ?_); refine goesL_ (some 36) rfl rfl Try.func147 (by kernel_rfl) rfl #[.int .u64 t1359, .int .u64 x9_1, .int .u64 0] rfl lx ?_; (with_reducible refine (limb_Add.calls t1359 x9_1 0 t1360 t1361 _ A9.out).mono ?_); rintro e w' ⟨rfl, ⟨nd, rfl⟩⟩; refine ⟨_, rfl, ?_⟩; (try (rw [drewN_self wr]; generalize hq_ : World.drewN wr _ = wr; have n0_ : Aside0 (Kd.R (Kd.int .u64) 22 wr w0.heap.size (fun k_ => (P0_ k_ ∨ w.heap.size ≤ k_)) u9000_ x0_1) := ⟨by rw [← hq_]; exact (st HO_0.out)⟩; have n1_ : Aside0 (Kept w wr (fun k_ => P0_ k_)) := ⟨by rw [← hq_]; exact hkk⟩; have n2_ : Aside0 (Below w0.heap.size w0 wr) := ⟨by rw [← hq_]; exact (bb HB.out)⟩; clear HO_0 HK HB hq_; have HO_0 := n0_; have HK := n1_; have HB := n2_; clear n0_ n1_ n2_)); obtain ⟨Ao15, co15, eo15⟩ := Kd.R_slice HO_0.out; subst eo15; have p1362 : 0 ≤ ((ji10) : Int) := of_decide_eq_true (by first | (with_reducible assumption) | assumption); have q1362 : (ji10) < (x0_1.length : Int) := of_decide_eq_true (by first | (with_reducible assumption) | assumption); obtain ⟨ad1362, e1362, hx1362_0⟩ := Kd.at_int (Kd.R_reads' HO_0.out).2.2 (ji10) p1362 q1362; cases e1362; replace p1362 := eq_true p1362; replace q1362 := eq_true q1362) | ((with_reducible refine gate_callee (f := 163) rfl ?_); refine goesL_ (some 51) rfl rfl Try.func163 (by kernel_rfl) rfl #[.int .u64 (rd x0_1 (ji10)), .int .u64 t1360, .int .u64 x10_1] rfl (by (try simp only [List.map_toArray, List.map_cons, List.map_nil]); first | done | (simp only [hji10]; rfl) | rfl | (simp only [List.length_drop, List.length_take]; rfl) | (simp only [*]; done)) ?_; (with_reducible refine (limb_Sub.calls (rd x0_1 (ji10)) t1360 x10_1 t1363 t1364 _ A13.out).mono ?_); rintro e w' ⟨rfl, ⟨nd, rfl⟩⟩; refine ⟨_, rfl, ?_⟩; (try (rw [drewN_self wr]; generalize hq_ : World.drewN wr _ = wr; have n0_ : Aside0 (Kd.R (Kd.int .u64) 22 wr w0.heap.size (fun k_ => (P0_ k_ ∨ w.heap.size ≤ k_)) (.slice (some ad1362) x0_1.length co15) x0_1) := ⟨by rw [← hq_]; exact (st HO_0.out)⟩; have n1_ : Aside0 (Kept w wr (fun k_ => P0_ k_)) := ⟨by rw [← hq_]; exact hkk⟩; have n2_ : Aside0 (Below w0.heap.size w0 wr) := ⟨by rw [← hq_]; exact (bb HB.out)⟩; clear HO_0 HK HB hq_; have HO_0 := n0_; have HK := n1_; have HB := n2_; clear n0_ n1_ n2_)); have p14 : 0 ≤ ((ji10) : Int) := of_decide_eq_true (by first | (with_reducible assumption) | assumption); have q14 : ((ji10) : Int) < ((x0_1.length : Int) : Int) := of_decide_eq_true (by first | (with_reducible assumption) | assumption); obtain ⟨go14, co14, eo14, gb14, gl14, cl14, HG14⟩ := Kd.R_form HO_0.out (by omega); (first | cases eo14 | (injection eo14 with ea_ en_ ec_; (first | subst ea_ | (injection ea_ with ea_; subst ea_)); subst ec_; clear en_)); have GB14 := Aside0.mk gb14; have GG14 := Aside0.mk HG14; clear gb14 gl14 HG14; have HMgo14 := Aside0.mk (show (P0_ go14 ∨ w.heap.size ≤ go14) from (HO_0.out.1 _ rfl)); (first | simp only [add_plain] at hx1362_0 | skip); obtain ⟨hx14_0, hf14_0⟩ := Kd.R_celln 0 HO_0.out ((ji10) : Int) p14 q14; replace p14 := eq_true p14; replace q14 := eq_true q14; obtain ⟨hy16_, hz16_⟩ := Kd.R_celln 0 HO_0.out ((ji10) : Int) (of_decide_eq_true (by first | (with_reducible assumption) | assumption)) (of_decide_eq_true (by first | (with_reducible assumption) | assumption)); have HP16 := Kd.R_putg HO_0.out ((ji10) : Int) t1363) | ((with_reducible refine gate_store (t := 22) (p := 60) rfl ?_); refine store_event (t := 22) (p := 60) (v := ?vo_w17) (w1 := (wr.setCell ⟨go14, ((ji10) : Int).toNat, none⟩ (.int .u64 t1363))) ?hg ?ho ?hn ?hr ?_; (case ho => rfl); (case hg => rfl); (case hn => rfl); (case hr => first | (go_simp; done) | (go_simp; rfl)); intro w17 hw; have hg : wr.grownBy w17 (some go14) := (by rw [hw]; exact HP16.2); have hp_ : Kd.R (Kd.int .u64) 22 w17 w0.heap.size (fun k_ => (P0_ k_ ∨ w.heap.size ≤ k_)) (.slice (some ⟨go14, 0, none⟩) x0_1.length co15) y1365 := (by rw [hw, Ny1365.out]; exact HP16.1); clear HP16; refine sw3 ⟨hp_⟩ ⟨(by rw [hw]; exact below_set (HB.out) GB14.out : Below w0.heap.size w0 w17)⟩ ⟨Kept.of_grown (S := (fun k_ => P0_ k_)) hg hkk (fun k_ e_ => (HO_0.out.1 k_ e_))⟩ ?_; clear HO_0 HB HK; intro HO_0 HB HK; clear hg hw hp_))
        go_roundg k1
        case measure => have := HK1.out; omega
        case rel => exact ⟨(y1365), (IntKind.u64.wrap (t1358 + t1361)), (t1364), (wrap64 (x22_1 + 1)), (by first | rfl | (simp; done) | (simp [*]; done)), (by first | rfl | (simp; done) | (simp [*]; done)), (by first | rfl | (simp; done) | (simp [*]; done)), H', ⟨by have := HK1.out; omega⟩, ⟨by (with_reducible repeat (first | apply Kd.R_alloc | apply Kd.R_drewN | apply Kd.R_drew)); exact HO_0.out⟩, ⟨hkk⟩, ⟨bb HB.out⟩⟩
       ·rw [if_neg c12] at H
        exact absurd H (by simp)
      ·rw [if_neg c11] at H
       exact absurd H (by simp)
     ·rw [if_neg c7] at H
      exact absurd H (by simp)
    ·rw [if_neg c6] at H
     exact absurd H (by simp)
   ·rw [if_neg c5] at H
    have c5b0 : decide (x22_1 < (l1.length : Int)) = false := decide_eq_false c5
    clear c5
    obtain ⟨ji18, hji18⟩ : ∃ j_ : Int, (wrap64 (a2 + (l1.length : Int))) = j_ := ⟨_, rfl⟩
    rw [hji18] at H
    have hji18w : (IntKind.i64.wrap (a2 + (l1.length : Int))) = ji18 := (i64_w _).trans hji18
    by_cases c19 : 0 ≤ (ji18)
    ·rw [if_pos c19] at H
     have c19b0 : decide (0 ≤ (ji18)) = true := decide_eq_true c19
     clear c19
     by_cases c20 : (ji18) < (x0_1.length : Int)
     ·rw [if_pos c20] at H
      have c20b0 : decide ((ji18) < (x0_1.length : Int)) = true := decide_eq_true c20
      clear c20
      obtain ⟨⟨t1367, t1368⟩, A21, H⟩ := bnd H
      dsimp only at H
      obtain ⟨y1369, hy1369⟩ : ∃ y_ : List Int, y_ = (x0_1.set ((ji18) : Int).toNat t1367) := ⟨_, rfl⟩
      rw [← hy1369] at H
      have Ny1369 := Aside0.mk hy1369
      clear hy1369
      simp only [Option.some.injEq, Prod.mk.injEq] at H
      obtain ⟨rfl, rfl⟩ := H
      obtain ⟨Ao23, co23, eo23⟩ := Kd.R_slice HO_0.out
      subst eo23
      have p1366 : 0 ≤ ((ji18) : Int) := of_decide_eq_true (by first | (with_reducible assumption) | assumption)
      have q1366 : (ji18) < (x0_1.length : Int) := of_decide_eq_true (by first | (with_reducible assumption) | assumption)
      obtain ⟨ad1366, e1366, hx1366_0⟩ := Kd.at_int (Kd.R_reads' HO_0.out).2.2 (ji18) p1366 q1366
      cases e1366
      replace p1366 := eq_true p1366
      replace q1366 := eq_true q1366
      go_wp2_with (first | ((with_reducible refine gate_callee (f := 163) rfl ?_); refine goesL_ (some 72) rfl rfl Try.func163 (by kernel_rfl) rfl #[.int .u64 (rd x0_1 (ji18)), .int .u64 x9_1, .int .u64 x10_1] rfl (by (try simp only [List.map_toArray, List.map_cons, List.map_nil]); first | done | (simp only [hji18]; rfl) | rfl | (simp only [List.length_drop, List.length_take]; rfl) | (simp only [*]; done)) ?_; (with_reducible refine (limb_Sub.calls (rd x0_1 (ji18)) x9_1 x10_1 t1367 t1368 _ A21.out).mono ?_); rintro e w' ⟨rfl, ⟨nd, rfl⟩⟩; refine ⟨_, rfl, ?_⟩; (try (rw [drewN_self wr]; generalize hq_ : World.drewN wr _ = wr; have n0_ : Aside0 (Kd.R (Kd.int .u64) 22 wr w0.heap.size (fun k_ => (P0_ k_ ∨ w.heap.size ≤ k_)) (.slice (some ad1366) x0_1.length co23) x0_1) := ⟨by rw [← hq_]; exact (st HO_0.out)⟩; have n1_ : Aside0 (Kept w wr (fun k_ => P0_ k_)) := ⟨by rw [← hq_]; exact hkk⟩; have n2_ : Aside0 (Below w0.heap.size w0 wr) := ⟨by rw [← hq_]; exact (bb HB.out)⟩; clear HO_0 HK HB hq_; have HO_0 := n0_; have HK := n1_; have HB := n2_; clear n0_ n1_ n2_)); have p22 : 0 ≤ ((ji18) : Int) := of_decide_eq_true (by first | (with_reducible assumption) | assumption); have q22 : ((ji18) : Int) < ((x0_1.length : Int) : Int) := of_decide_eq_true (by first | (with_reducible assumption) | assumption); obtain ⟨go22, co22, eo22, gb22, gl22, cl22, HG22⟩ := Kd.R_form HO_0.out (by omega); (first | cases eo22 | (injection eo22 with ea_ en_ ec_; (first | subst ea_ | (injection ea_ with ea_; subst ea_)); subst ec_; clear en_)); have GB22 := Aside0.mk gb22; have GG22 := Aside0.mk HG22; clear gb22 gl22 HG22; have HMgo22 := Aside0.mk (show (P0_ go22 ∨ w.heap.size ≤ go22) from (HO_0.out.1 _ rfl)); (first | simp only [add_plain] at hx1366_0 | skip); obtain ⟨hx22_0, hf22_0⟩ := Kd.R_celln 0 HO_0.out ((ji18) : Int) p22 q22; replace p22 := eq_true p22; replace q22 := eq_true q22; obtain ⟨hy24_, hz24_⟩ := Kd.R_celln 0 HO_0.out ((ji18) : Int) (of_decide_eq_true (by first | (with_reducible assumption) | assumption)) (of_decide_eq_true (by first | (with_reducible assumption) | assumption)); have HP24 := Kd.R_putg HO_0.out ((ji18) : Int) t1367) | ((with_reducible refine gate_store (t := 22) (p := 81) rfl ?_); refine store_event (t := 22) (p := 81) (v := ?vo_w25) (w1 := (wr.setCell ⟨go22, ((ji18) : Int).toNat, none⟩ (.int .u64 t1367))) ?hg ?ho ?hn ?hr ?_; (case ho => rfl); (case hg => rfl); (case hn => rfl); (case hr => first | (go_simp; done) | (go_simp; rfl)); intro w25 hw; have hg : wr.grownBy w25 (some go22) := (by rw [hw]; exact HP24.2); have hp_ : Kd.R (Kd.int .u64) 22 w25 w0.heap.size (fun k_ => (P0_ k_ ∨ w.heap.size ≤ k_)) (.slice (some ⟨go22, 0, none⟩) x0_1.length co23) y1369 := (by rw [hw, Ny1369.out]; exact HP24.1); clear HP24; refine sw3 ⟨hp_⟩ ⟨(by rw [hw]; exact below_set (HB.out) GB22.out : Below w0.heap.size w0 w25)⟩ ⟨Kept.of_grown (S := (fun k_ => P0_ k_)) hg hkk (fun k_ e_ => (HO_0.out.1 k_ e_))⟩ ?_; clear HO_0 HB HK; intro HO_0 HB HK; clear hg hw hp_))
      go_ret
      exact ⟨by first | rfl | (simp [errW_none, errW_some] <;> rfl) | (simp only [← hji18]; first | rfl | (simp [errW_none, errW_some] <;> rfl)) | (simp [*, errW_none, errW_some] <;> rfl), by (with_reducible repeat (first | apply Kd.R_alloc | apply Kd.R_drewN | apply Kd.R_drew)); exact HO_0.out, hbb, hkk⟩
     ·rw [if_neg c20] at H
      exact absurd H (by simp)
    ·rw [if_neg c19] at H
     exact absurd H (by simp)

def quot_back.l0 : Nat → List Int → List Int → Int → Int → List Int → Int → Int → Option (List Int)
 | 0, _, _, _, _, _, _, _ => none
 | k + 1, x0, x1, x2, x6, x11, x12, x13 => if x13 < x12 then (if 0 ≤ x13 then (if x13 < (x11.length : Int) then (if 0 ≤ (wrap64 (x2 + x13)) then (if (wrap64 (x2 + x13)) < (x0.length : Int) then ((limb_Add.f (rd x0 (wrap64 (x2 + x13))) (rd x11 x13) x6).bind fun bt1372 => (quot_back.l0 k (x0.set ((wrap64 (x2 + x13)) : Int).toNat bt1372.1) x1 x2 bt1372.2 x11 x12 (wrap64 (x13 + 1)))) else (none)) else (none)) else (none)) else (none)) else (if 0 ≤ (wrap64 (x2 + (x1.length : Int))) then (if (wrap64 (x2 + (x1.length : Int))) < (x0.length : Int) then (some (x0.set ((wrap64 (x2 + (x1.length : Int))) : Int).toNat (IntKind.u64.wrap ((rd x0 (wrap64 (x2 + (x1.length : Int)))) + x6)))) else (none)) else (none))
def quot_back.f (k : Nat) (l0 : List Int) (l1 : List Int) (a2 : Int) : Option (List Int) := quot_back.l0 k l0 l1 a2 0 l1 (l1.length : Int) 0
set_option maxHeartbeats 8000000 in
set_option maxRecDepth 100000 in
theorem quot_back.calls (k : Nat) (P0_ : Nat → Prop) (u9000_ : Value) (l0 : List Int) (A1 : Option Addr) (c1 : Nat) (l1 : List Int) (a2 : Int) (r : List Int) (w0 w : World) (hB : Below w0.heap.size w0 w) (ho0 : Kd.R (Kd.int .u64) 22 w w0.heap.size P0_ u9000_ l0) (hr1 : ∀ W_, Kept w W_ (fun k_ => P0_ k_) → Kd.C (Kd.int .u64) W_ A1 l1.length l1) (hc1 : l1.length ≤ c1) (h : quot_back.f k l0 l1 a2 = some r) :
  Calls Try.prog 160 #[u9000_, .slice A1 l1.length c1, .int .i64 a2] w fun e w' => e = .returned (.tuple #[]) ∧ Kd.R (Kd.int .u64) 22 w' w0.heap.size (fun k_ => (P0_ k_ ∨ w.heap.size ≤ k_)) u9000_ r ∧ Below w0.heap.size w0 w' ∧ Kept w w' (fun k_ => P0_ k_) := by
 have HO0 := Aside0.mk (show Kd.R (Kd.int .u64) 22 w w0.heap.size (fun k_ => (P0_ k_ ∨ w.heap.size ≤ k_)) u9000_ l0 from Kd.R_mono ho0 (fun k_ hk => (.inl hk)))
 have HR1 := Aside0.mk hr1
 have HC1 := Aside0.mk hc1
 clear hr1 hc1
 have HK := Aside0.mk (Kept.refl w (fun k_ => P0_ k_))
 have HW0 := Aside0.mk hB.size
 have HB := Aside0.mk hB
 clear hB
 have H := h
 clear h
 unfold quot_back.f at H
 have H' := Aside0.mk H
 clear H
 go_enter Try.func160, Try.ntmps160
 go_wp2
 go_loopg [6, 13] k (fun kq v6 v13 w' => ∃ (x0_1 : List Int) (x6_1 : Int) (x13_1 : Int), v6 = .int .u64 x6_1 ∧ v13 = .int .i64 x13_1 ∧ Aside0 (quot_back.l0 kq x0_1 l1 a2 x6_1 l1 (l1.length : Int) x13_1 = some r) ∧ Aside0 (kq ≤ k) ∧ Aside0 (Kd.R (Kd.int .u64) 22 w' w0.heap.size (fun k_ => (P0_ k_ ∨ w.heap.size ≤ k_)) u9000_ x0_1) ∧ Aside0 (Kept w w' (fun k_ => P0_ k_)) ∧ Aside0 (Below w0.heap.size w0 w'))
 case atStart => exact ⟨(l0), (0), (0), (by first | rfl | (simp; done) | (simp [*]; done)), (by first | rfl | (simp; done) | (simp [*]; done)), H', ⟨Nat.le_refl _⟩, ⟨by (with_reducible repeat (first | apply Kd.R_alloc | apply Kd.R_drewN | apply Kd.R_drew)); exact HO0.out⟩, ⟨hkk⟩, ⟨bb HB.out⟩⟩
 case round =>
  clear H'
  obtain ⟨x0_1, x6_1, x13_1, rfl, rfl, HA, HK1, HO_0, HK, HB⟩ := hrel
  cases gk with
  | zero => exact absurd HA.out (by simp [quot_back.l0])
  | succ k1 =>
   have H := HA.out
   clear HA
   simp only [quot_back.l0] at H
   by_cases c4 : x13_1 < (l1.length : Int)
   ·rw [if_pos c4] at H
    have c4b0 : decide (x13_1 < (l1.length : Int)) = true := decide_eq_true c4
    clear c4
    by_cases c5 : 0 ≤ x13_1
    ·rw [if_pos c5] at H
     have c5b0 : decide (0 ≤ x13_1) = true := decide_eq_true c5
     clear c5
     by_cases c6 : x13_1 < (l1.length : Int)
     ·rw [if_pos c6] at H
      have c6b0 : decide (x13_1 < (l1.length : Int)) = true := decide_eq_true c6
      clear c6
      obtain ⟨ji7, hji7⟩ : ∃ j_ : Int, (wrap64 (a2 + x13_1)) = j_ := ⟨_, rfl⟩
      rw [hji7] at H
      have hji7w : (IntKind.i64.wrap (a2 + x13_1)) = ji7 := (i64_w _).trans hji7
      by_cases c8 : 0 ≤ (ji7)
      ·rw [if_pos c8] at H
       have c8b0 : decide (0 ≤ (ji7)) = true := decide_eq_true c8
       clear c8
       by_cases c9 : (ji7) < (x0_1.length : Int)
       ·rw [if_pos c9] at H
        have c9b0 : decide ((ji7) < (x0_1.length : Int)) = true := decide_eq_true c9
        clear c9
        obtain ⟨⟨t1372, t1373⟩, A10, H⟩ := bnd H
        dsimp only at H
        obtain ⟨y1374, hy1374⟩ : ∃ y_ : List Int, y_ = (x0_1.set ((ji7) : Int).toNat t1372) := ⟨_, rfl⟩
        rw [← hy1374] at H
        have Ny1374 := Aside0.mk hy1374
        clear hy1374
        have H' := Aside0.mk H
        clear H
        have p1370 : 0 ≤ (x13_1 : Int) := of_decide_eq_true (by first | (with_reducible assumption) | assumption)
        have q1370 : x13_1 < (l1.length : Int) := of_decide_eq_true (by first | (with_reducible assumption) | assumption)
        obtain ⟨ad1370, e1370, hx1370_0⟩ := Kd.at_int (Kd.C_kept_now HR1.out HK.out) x13_1 p1370 q1370
        cases e1370
        replace p1370 := eq_true p1370
        replace q1370 := eq_true q1370
        obtain ⟨Ao12, co12, eo12⟩ := Kd.R_slice HO_0.out
        subst eo12
        have p1371 : 0 ≤ ((ji7) : Int) := of_decide_eq_true (by first | (with_reducible assumption) | assumption)
        have q1371 : (ji7) < (x0_1.length : Int) := of_decide_eq_true (by first | (with_reducible assumption) | assumption)
        obtain ⟨ad1371, e1371, hx1371_0⟩ := Kd.at_int (Kd.R_reads' HO_0.out).2.2 (ji7) p1371 q1371
        cases e1371
        replace p1371 := eq_true p1371
        replace q1371 := eq_true q1371
        go_wp2_with (first | ((with_reducible refine gate_callee (f := 147) rfl ?_); refine goesL_ (some 27) rfl rfl Try.func147 (by kernel_rfl) rfl #[.int .u64 (rd x0_1 (ji7)), .int .u64 (rd l1 x13_1), .int .u64 x6_1] rfl (by (try simp only [List.map_toArray, List.map_cons, List.map_nil]); first | done | (simp only [hji7]; rfl) | rfl | (simp only [List.length_drop, List.length_take]; rfl) | (simp only [*]; done)) ?_; (with_reducible refine (limb_Add.calls (rd x0_1 (ji7)) (rd l1 x13_1) x6_1 t1372 t1373 _ A10.out).mono ?_); rintro e w' ⟨rfl, ⟨nd, rfl⟩⟩; refine ⟨_, rfl, ?_⟩; (try (rw [drewN_self wr]; generalize hq_ : World.drewN wr _ = wr; have n0_ : Aside0 (Kd.R (Kd.int .u64) 22 wr w0.heap.size (fun k_ => (P0_ k_ ∨ w.heap.size ≤ k_)) (.slice (some ad1371) x0_1.length co12) x0_1) := ⟨by rw [← hq_]; exact (st HO_0.out)⟩; have n1_ : Aside0 (Kept w wr (fun k_ => P0_ k_)) := ⟨by rw [← hq_]; exact hkk⟩; have n2_ : Aside0 (Below w0.heap.size w0 wr) := ⟨by rw [← hq_]; exact (bb HB.out)⟩; clear HO_0 HK HB hq_; have HO_0 := n0_; have HK := n1_; have HB := n2_; clear n0_ n1_ n2_)); have p11 : 0 ≤ ((ji7) : Int) := of_decide_eq_true (by first | (with_reducible assumption) | assumption); have q11 : ((ji7) : Int) < ((x0_1.length : Int) : Int) := of_decide_eq_true (by first | (with_reducible assumption) | assumption); obtain ⟨go11, co11, eo11, gb11, gl11, cl11, HG11⟩ := Kd.R_form HO_0.out (by omega); (first | cases eo11 | (injection eo11 with ea_ en_ ec_; (first | subst ea_ | (injection ea_ with ea_; subst ea_)); subst ec_; clear en_)); have GB11 := Aside0.mk gb11; have GG11 := Aside0.mk HG11; clear gb11 gl11 HG11; have HMgo11 := Aside0.mk (show (P0_ go11 ∨ w.heap.size ≤ go11) from (HO_0.out.1 _ rfl)); (first | simp only [add_plain] at hx1371_0 | skip); obtain ⟨hx11_0, hf11_0⟩ := Kd.R_celln 0 HO_0.out ((ji7) : Int) p11 q11; replace p11 := eq_true p11; replace q11 := eq_true q11; obtain ⟨hy13_, hz13_⟩ := Kd.R_celln 0 HO_0.out ((ji7) : Int) (of_decide_eq_true (by first | (with_reducible assumption) | assumption)) (of_decide_eq_true (by first | (with_reducible assumption) | assumption)); have HP13 := Kd.R_putg HO_0.out ((ji7) : Int) t1372) | ((with_reducible refine gate_store (t := 22) (p := 36) rfl ?_); refine store_event (t := 22) (p := 36) (v := ?vo_w14) (w1 := (wr.setCell ⟨go11, ((ji7) : Int).toNat, none⟩ (.int .u64 t1372))) ?hg ?ho ?hn ?hr ?_; (case ho => rfl); (case hg => rfl); (case hn => rfl); (case hr => first | (go_simp; done) | (go_simp; rfl)); intro w14 hw; have hg : wr.grownBy w14 (some go11) := (by rw [hw]; exact HP13.2); have hp_ : Kd.R (Kd.int .u64) 22 w14 w0.heap.size (fun k_ => (P0_ k_ ∨ w.heap.size ≤ k_)) (.slice (some ⟨go11, 0, none⟩) x0_1.length co12) y1374 := (by rw [hw, Ny1374.out]; exact HP13.1); clear HP13; refine sw3 ⟨hp_⟩ ⟨(by rw [hw]; exact below_set (HB.out) GB11.out : Below w0.heap.size w0 w14)⟩ ⟨Kept.of_grown (S := (fun k_ => P0_ k_)) hg hkk (fun k_ e_ => (HO_0.out.1 k_ e_))⟩ ?_; clear HO_0 HB HK; intro HO_0 HB HK; clear hg hw hp_))
        go_roundg k1
        case measure => have := HK1.out; omega
        case rel => exact ⟨(y1374), (t1373), (wrap64 (x13_1 + 1)), (by first | rfl | (simp; done) | (simp [*]; done)), (by first | rfl | (simp; done) | (simp [*]; done)), H', ⟨by have := HK1.out; omega⟩, ⟨by (with_reducible repeat (first | apply Kd.R_alloc | apply Kd.R_drewN | apply Kd.R_drew)); exact HO_0.out⟩, ⟨hkk⟩, ⟨bb HB.out⟩⟩
       ·rw [if_neg c9] at H
        exact absurd H (by simp)
      ·rw [if_neg c8] at H
       exact absurd H (by simp)
     ·rw [if_neg c6] at H
      exact absurd H (by simp)
    ·rw [if_neg c5] at H
     exact absurd H (by simp)
   ·rw [if_neg c4] at H
    have c4b0 : decide (x13_1 < (l1.length : Int)) = false := decide_eq_false c4
    clear c4
    obtain ⟨ji15, hji15⟩ : ∃ j_ : Int, (wrap64 (a2 + (l1.length : Int))) = j_ := ⟨_, rfl⟩
    rw [hji15] at H
    have hji15w : (IntKind.i64.wrap (a2 + (l1.length : Int))) = ji15 := (i64_w _).trans hji15
    by_cases c16 : 0 ≤ (ji15)
    ·rw [if_pos c16] at H
     have c16b0 : decide (0 ≤ (ji15)) = true := decide_eq_true c16
     clear c16
     by_cases c17 : (ji15) < (x0_1.length : Int)
     ·rw [if_pos c17] at H
      have c17b0 : decide ((ji15) < (x0_1.length : Int)) = true := decide_eq_true c17
      clear c17
      obtain ⟨y1376, hy1376⟩ : ∃ y_ : List Int, y_ = (x0_1.set ((ji15) : Int).toNat (IntKind.u64.wrap ((rd x0_1 (ji15)) + x6_1))) := ⟨_, rfl⟩
      rw [← hy1376] at H
      have Ny1376 := Aside0.mk hy1376
      clear hy1376
      obtain rfl := Option.some.inj H
      obtain ⟨Ao19, co19, eo19⟩ := Kd.R_slice HO_0.out
      subst eo19
      have p1375 : 0 ≤ ((ji15) : Int) := of_decide_eq_true (by first | (with_reducible assumption) | assumption)
      have q1375 : (ji15) < (x0_1.length : Int) := of_decide_eq_true (by first | (with_reducible assumption) | assumption)
      obtain ⟨ad1375, e1375, hx1375_0⟩ := Kd.at_int (Kd.R_reads' HO_0.out).2.2 (ji15) p1375 q1375
      cases e1375
      replace p1375 := eq_true p1375
      replace q1375 := eq_true q1375
      have p18 : 0 ≤ ((ji15) : Int) := of_decide_eq_true (by first | (with_reducible assumption) | assumption)
      have q18 : ((ji15) : Int) < ((x0_1.length : Int) : Int) := of_decide_eq_true (by first | (with_reducible assumption) | assumption)
      obtain ⟨go18, co18, eo18, gb18, gl18, cl18, HG18⟩ := Kd.R_form HO_0.out (by omega)
      (first | cases eo18 | (injection eo18 with ea_ en_ ec_; (first | subst ea_ | (injection ea_ with ea_; subst ea_)); subst ec_; clear en_))
      have GB18 := Aside0.mk gb18
      have GG18 := Aside0.mk HG18
      clear gb18 gl18 HG18
      have HMgo18 := Aside0.mk (show (P0_ go18 ∨ w.heap.size ≤ go18) from (HO_0.out.1 _ rfl))
      (first | simp only [add_plain] at hx1375_0 | skip)
      obtain ⟨hx18_0, hf18_0⟩ := Kd.R_celln 0 HO_0.out ((ji15) : Int) p18 q18
      replace p18 := eq_true p18
      replace q18 := eq_true q18
      have HP20 := Kd.R_putg HO_0.out ((ji15) : Int) (IntKind.u64.wrap ((rd x0_1 (ji15)) + x6_1))
      go_wp2_with (first | ((with_reducible refine gate_store (t := 22) (p := 47) rfl ?_); refine store_event (t := 22) (p := 47) (v := ?vo_w21) (w1 := (wr.setCell ⟨go18, ((ji15) : Int).toNat, none⟩ (.int .u64 (IntKind.u64.wrap ((rd x0_1 (ji15)) + x6_1))))) ?hg ?ho ?hn ?hr ?_; (case ho => rfl); (case hg => rfl); (case hn => rfl); (case hr => first | (go_simp; done) | (go_simp; rfl)); intro w21 hw; have hg : wr.grownBy w21 (some go18) := (by rw [hw]; exact HP20.2); have hp_ : Kd.R (Kd.int .u64) 22 w21 w0.heap.size (fun k_ => (P0_ k_ ∨ w.heap.size ≤ k_)) (.slice (some ⟨go18, 0, none⟩) x0_1.length co19) y1376 := (by rw [hw, Ny1376.out]; exact HP20.1); clear HP20; refine sw3 ⟨hp_⟩ ⟨(by rw [hw]; exact below_set (HB.out) GB18.out : Below w0.heap.size w0 w21)⟩ ⟨Kept.of_grown (S := (fun k_ => P0_ k_)) hg hkk (fun k_ e_ => (HO_0.out.1 k_ e_))⟩ ?_; clear HO_0 HB HK; intro HO_0 HB HK; clear hg hw hp_))
      first | go_end0 | ((try simp only [Exit.inBlock, Exit.then]); refine bodyPost_ret (results_none rfl _ _ _) rfl ?_)
      exact ⟨by first | rfl | (simp [errW_none, errW_some] <;> rfl) | (simp only [← hji15]; first | rfl | (simp [errW_none, errW_some] <;> rfl)) | (simp [*, errW_none, errW_some] <;> rfl), by (with_reducible repeat (first | apply Kd.R_alloc | apply Kd.R_drewN | apply Kd.R_drew)); exact HO_0.out, hbb, hkk⟩
     ·rw [if_neg c17] at H
      exact absurd H (by simp)
    ·rw [if_neg c16] at H
     exact absurd H (by simp)

mutual
def quot_long.l0 : Nat → List Int → Int → List Int → List Int → Option (List Int × List Int)
 | 0, _, _, _, _ => none
 | k + 1, x0, x6, x7, x8 => if (x8.length : Int) < (wrap64 ((x0.length : Int) + 1)) then (if x8.length < 17592186044416 then (quot_long.l0 k x0 x6 x7 (x8 ++ [0])) else (none)) else (if 0 ≤ (wrap64 ((x8.length : Int) - (x7.length : Int))) then (if (wrap64 ((x8.length : Int) - (x7.length : Int)) : Int).toNat ≤ 35184372088832 then ((some (List.replicate (wrap64 ((x8.length : Int) - (x7.length : Int)) : Int).toNat 0 : List Int)).bind fun y1387 => (quot_long.l1 k x6 x7 x8 (x7.length : Int) y1387 (wrap64 ((y1387.length : Int) - 1)))) else (none)) else (none))
def quot_long.l1 : Nat → Int → List Int → List Int → Int → List Int → Int → Option (List Int × List Int)
 | 0, _, _, _, _, _, _ => none
 | k + 1, x6, x7, x8, x9, x10, x11 => if x11 ≥ 0 then (if 0 ≤ (wrap64 (x9 - 1)) then (if (wrap64 (x9 - 1)) < (x7.length : Int) then (if 0 ≤ (wrap64 (x9 - 2)) then (if (wrap64 (x9 - 2)) < (x7.length : Int) then ((quot_guess.f k x8 (wrap64 (x11 + x9)) (rd x7 (wrap64 (x9 - 1))) (rd x7 (wrap64 (x9 - 2)))).bind fun t1398 => ((quot_take.f k x8 x7 x11 t1398).bind fun bt1399 => (if bt1399.1 = true then ((quot_back.f k bt1399.2 x7 x11).bind fun t1401 => (if 0 ≤ x11 then (if x11 < (x10.length : Int) then (quot_long.l1 k x6 x7 t1401 x9 (x10.set (x11 : Int).toNat (IntKind.u64.wrap (t1398 - 1))) (wrap64 (x11 - 1))) else (none)) else (none))) else (if 0 ≤ x11 then (if x11 < (x10.length : Int) then (quot_long.l1 k x6 x7 bt1399.2 x9 (x10.set (x11 : Int).toNat t1398) (wrap64 (x11 - 1))) else (none)) else (none))))) else (none)) else (none)) else (none)) else (none)) else ((nat_Trim.f k x10).bind fun t1390 => ((nat_Shr.f k x8 x6).bind fun t1393 => (some (t1390, t1393))))
end
def quot_long.f (k : Nat) (l0 : List Int) (l1 : List Int) : Option (List Int × List Int) := (nat_Bits.f k l1).bind fun t1377 => ((nat_Shl.f k l1 (wrap64 ((wrap64 (64 * (l1.length : Int))) - t1377))).bind fun t1378 => ((nat_Shl.f k l0 (wrap64 ((wrap64 (64 * (l1.length : Int))) - t1377))).bind fun t1381 => (quot_long.l0 k l0 (wrap64 ((wrap64 (64 * (l1.length : Int))) - t1377)) t1378 t1381)))
set_option maxHeartbeats 8000000 in
set_option maxRecDepth 100000 in
theorem quot_long.calls (k : Nat) (A0 : Option Addr) (c0 : Nat) (l0 : List Int) (A1 : Option Addr) (c1 : Nat) (l1 : List Int) (r1 : List Int) (r2 : List Int) (w : World) (hr0 : Kd.C (Kd.int .u64) w A0 l0.length l0) (hc0 : l0.length ≤ c0) (hr1 : Kd.C (Kd.int .u64) w A1 l1.length l1) (hc1 : l1.length ≤ c1) (h : quot_long.f k l0 l1 = some (r1, r2)) :
  Calls Try.prog 155 #[.slice A0 l0.length c0, .slice A1 l1.length c1] w fun e w' => ∃ v0_ v1_ : Value, e = .returned (.tuple #[v0_, v1_]) ∧ Kd.R (Kd.int .u64) 22 w' w.heap.size (fun k_ => some k_ ≠ (v1_ : Value).ownBlock) v0_ r1 ∧ Kd.R (Kd.int .u64) 22 w' w.heap.size (fun k_ => some k_ ≠ (v0_ : Value).ownBlock) v1_ r2 ∧ Below w.heap.size w w' := by
 have HR0 := Aside0.mk hr0
 have HC0 := Aside0.mk hc0
 clear hr0 hc0
 have HR1 := Aside0.mk hr1
 have HC1 := Aside0.mk hc1
 clear hr1 hc1
 have HB := Aside0.mk (Below.refl w.heap.size w)
 have H := h
 clear h
 unfold quot_long.f at H
 obtain ⟨t1377, A3, H⟩ := bnd H
 obtain ⟨t1378, A4, H⟩ := bnd H
 obtain ⟨t1381, A5, H⟩ := bnd H
 have H' := Aside0.mk H
 clear H
 go_enter Try.func155, Try.ntmps155
 iterate 6 (first | go_quiet (first | (go_at_call 114; (with_reducible refine (nat_Bits.calls k _ _ l1 t1377 _ ?side1 ?side2 A3.out).mono ?_); (case side1 => exact cs HR1.out); (case side2 => exact HC1.out); rintro e w' ⟨rfl, ⟨nd, rfl⟩⟩) | (go_at_call 112; (with_reducible refine (nat_Shl.calls k _ _ l1 (wrap64 ((wrap64 (64 * (l1.length : Int))) - t1377)) t1378 _ ?side1 ?side2 A4.out).mono ?_); (case side1 => exact cs HR1.out); (case side2 => exact HC1.out); rintro e w6 ⟨v1379, rfl, ho0, hb⟩; refine sw2 ⟨Kd.R_lower ho0 (below_size (bb HB.out))⟩ ⟨below_step (bb HB.out) hb⟩ ?_; clear HB; intro HO1380 HB) | (go_at_call 112; (with_reducible refine (nat_Shl.calls k _ _ l0 (wrap64 ((wrap64 (64 * (l1.length : Int))) - t1377)) t1381 _ ?side1 ?side2 A5.out).mono ?_); (case side1 => exact cs (Kd.C_below HR0.out HB.out)); (case side2 => exact HC0.out); rintro e w7 ⟨v1382, rfl, ho0, hb⟩; refine sw3 ⟨Kd.R_elder' (st HO1380.out) (Kd.R_base ho0) hb⟩ ⟨Kd.R_lower (Kd.R_new' ho0 (Kd.R_lt (st HO1380.out))) (below_size (bb HB.out))⟩ ⟨below_step (bb HB.out) hb⟩ ?_; clear HO1380 HB; intro HO1380 HO1383 HB)) | go_wp2_with (first | (go_at_call 114; (with_reducible refine (nat_Bits.calls k _ _ l1 t1377 _ ?side1 ?side2 A3.out).mono ?_); (case side1 => exact cs HR1.out); (case side2 => exact HC1.out); rintro e w' ⟨rfl, ⟨nd, rfl⟩⟩) | (go_at_call 112; (with_reducible refine (nat_Shl.calls k _ _ l1 (wrap64 ((wrap64 (64 * (l1.length : Int))) - t1377)) t1378 _ ?side1 ?side2 A4.out).mono ?_); (case side1 => exact cs HR1.out); (case side2 => exact HC1.out); rintro e w6 ⟨v1379, rfl, ho0, hb⟩; refine sw2 ⟨Kd.R_lower ho0 (below_size (bb HB.out))⟩ ⟨below_step (bb HB.out) hb⟩ ?_; clear HB; intro HO1380 HB) | (go_at_call 112; (with_reducible refine (nat_Shl.calls k _ _ l0 (wrap64 ((wrap64 (64 * (l1.length : Int))) - t1377)) t1381 _ ?side1 ?side2 A5.out).mono ?_); (case side1 => exact cs (Kd.C_below HR0.out HB.out)); (case side2 => exact HC0.out); rintro e w7 ⟨v1382, rfl, ho0, hb⟩; refine sw3 ⟨Kd.R_elder' (st HO1380.out) (Kd.R_base ho0) hb⟩ ⟨Kd.R_lower (Kd.R_new' ho0 (Kd.R_lt (st HO1380.out))) (below_size (bb HB.out))⟩ ⟨below_step (bb HB.out) hb⟩ ?_; clear HO1380 HB; intro HO1380 HO1383 HB)) | skip)
 go_loopg [8] k (fun kq v8 w' => ∃ (x8_1 : List Int), Aside0 (quot_long.l0 kq l0 (wrap64 ((wrap64 (64 * (l1.length : Int))) - t1377)) t1378 x8_1 = some (r1, r2)) ∧ Aside0 (kq ≤ k) ∧ Aside0 (Kd.R (Kd.int .u64) 22 w' w.heap.size (fun k_ => some k_ ≠ (v8 : Value).ownBlock) v1379 t1378) ∧ Aside0 (Kd.R (Kd.int .u64) 22 w' w.heap.size (fun k_ => some k_ ≠ (v1379 : Value).ownBlock) v8 x8_1) ∧ Aside0 (Below w.heap.size w w'))
 case atStart => exact ⟨(t1381), H', ⟨Nat.le_refl _⟩, ⟨by (with_reducible repeat (first | apply Kd.R_alloc | apply Kd.R_drewN | apply Kd.R_drew)); exact Kd.R_mono HO1380.out (fun _ hk => hk.2)⟩, ⟨by (with_reducible repeat (first | apply Kd.R_alloc | apply Kd.R_drewN | apply Kd.R_drew)); exact Kd.R_mono HO1383.out (fun _ hk => hk.2)⟩, ⟨bb HB.out⟩⟩
 case round =>
  clear H'
  obtain ⟨x8_1, HA, HK1, HO_7, HO_8, HB⟩ := hrel
  cases gk with
  | zero => exact absurd HA.out (by simp [quot_long.l0])
  | succ k1 =>
   have H := HA.out
   clear HA
   simp only [quot_long.l0] at H
   by_cases c8 : (x8_1.length : Int) < (wrap64 ((l0.length : Int) + 1))
   ·rw [if_pos c8] at H
    have c8b0 : decide ((x8_1.length : Int) < (wrap64 ((l0.length : Int) + 1))) = true := decide_eq_true c8
    clear c8
    by_cases c9 : x8_1.length < 17592186044416
    ·rw [if_pos c9] at H
     have LMc9 := Aside0.mk c9
     clear c9
     obtain ⟨y1384, hy1384⟩ : ∃ y_ : List Int, y_ = (x8_1 ++ [0]) := ⟨_, rfl⟩
     rw [← hy1384] at H
     have Ny1384 := Aside0.mk hy1384
     clear hy1384
     have H' := Aside0.mk H
     clear H
     obtain ⟨Ao10, co10, eo10⟩ := Kd.R_slice HO_8.out
     subst eo10
     iterate 6 (first | go_quiet (first | ((with_reducible refine gate_builtin (b := .append) (xs := #[.tmp 31, .tmp 32]) rfl ?_); at_builtin; refine Kd.R_append (Kd.int .u64) (w0 := w) w.heap.size rfl (.tmp 31) (.tmp 32) 30 22 (.int .u64 0) 8 rfl Try.underlying30 info22 rfl (by decide) (by omega) (.slice Ao10 x8_1.length co10) x8_1 0 [.int .u64 0] (fun k_ => some k_ ≠ (v1379 : Value).ownBlock) (fun _ => False) rfl rfl ?aP (fun _ hk => hk.elim) ?aF ?aO ?aB ?aS ?aL ?_; (case aP => exact rfl); (case aB => exact (bb HB.out)); (case aF => exact (fun k_ hk => Kd.fresh' (Kd.R_lt (st HO_7.out)) k_ hk)); (case aO => exact (st HO_8.out)); (case aS => exact (below_size (bb HB.out))); (case aL => have := LMc9.out; omega); intro v1385 w11 ho hb hg hat; rw [← Ny1384.out] at ho; refine sw3 ⟨Kd.R_after (ok := (fun _ => True)) (st (Kd.R_mono HO_7.out (fun _ hk => ⟨trivial, hk⟩))) hg hat⟩ ⟨hb⟩ ⟨ho⟩ ?_; clear HO_7 HB HO_8; intro HO_7 HB HO1386; clear ho hb hg hat)) | go_wp2_with (first | ((with_reducible refine gate_builtin (b := .append) (xs := #[.tmp 31, .tmp 32]) rfl ?_); at_builtin; refine Kd.R_append (Kd.int .u64) (w0 := w) w.heap.size rfl (.tmp 31) (.tmp 32) 30 22 (.int .u64 0) 8 rfl Try.underlying30 info22 rfl (by decide) (by omega) (.slice Ao10 x8_1.length co10) x8_1 0 [.int .u64 0] (fun k_ => some k_ ≠ (v1379 : Value).ownBlock) (fun _ => False) rfl rfl ?aP (fun _ hk => hk.elim) ?aF ?aO ?aB ?aS ?aL ?_; (case aP => exact rfl); (case aB => exact (bb HB.out)); (case aF => exact (fun k_ hk => Kd.fresh' (Kd.R_lt (st HO_7.out)) k_ hk)); (case aO => exact (st HO_8.out)); (case aS => exact (below_size (bb HB.out))); (case aL => have := LMc9.out; omega); intro v1385 w11 ho hb hg hat; rw [← Ny1384.out] at ho; refine sw3 ⟨Kd.R_after (ok := (fun _ => True)) (st (Kd.R_mono HO_7.out (fun _ hk => ⟨trivial, hk⟩))) hg hat⟩ ⟨hb⟩ ⟨ho⟩ ?_; clear HO_7 HB HO_8; intro HO_7 HB HO1386; clear ho hb hg hat)) | skip)
     go_roundg k1
     case measure => have := HK1.out; omega
     case rel => exact ⟨(y1384), H', ⟨by have := HK1.out; omega⟩, ⟨by (with_reducible repeat (first | apply Kd.R_alloc | apply Kd.R_drewN | apply Kd.R_drew)); exact Kd.R_mono HO_7.out (fun _ hk => hk.2)⟩, ⟨by (with_reducible repeat (first | apply Kd.R_alloc | apply Kd.R_drewN | apply Kd.R_drew)); exact HO1386.out⟩, ⟨bb HB.out⟩⟩
    ·rw [if_neg c9] at H
     exact absurd H (by simp)
   ·rw [if_neg c8] at H
    have c8b0 : decide ((x8_1.length : Int) < (wrap64 ((l0.length : Int) + 1))) = false := decide_eq_false c8
    clear c8
    obtain ⟨ji12, hji12⟩ : ∃ j_ : Int, (wrap64 ((x8_1.length : Int) - (t1378.length : Int))) = j_ := ⟨_, rfl⟩
    rw [hji12] at H
    have hji12w : (IntKind.i64.wrap ((x8_1.length : Int) - (t1378.length : Int))) = ji12 := (i64_w _).trans hji12
    by_cases c13 : 0 ≤ (ji12)
    ·rw [if_pos c13] at H
     have c13b0 := eq_true c13
     have c13b1 : decide (0 ≤ (ji12)) = true := decide_eq_true c13
     clear c13
     by_cases c14 : (ji12 : Int).toNat ≤ 35184372088832
     ·rw [if_pos c14] at H
      have c14b0 := eq_true c14
      have c14b1 : decide ((ji12 : Int).toNat ≤ 35184372088832) = true := decide_eq_true c14
      clear c14
      obtain ⟨y1387, hy1387⟩ : ∃ y_ : List Int, y_ = (List.replicate (ji12 : Int).toNat 0) := ⟨_, rfl⟩
      rw [← hy1387] at H
      have Ny1387 := Aside0.mk hy1387
      clear hy1387
      have H' := Aside0.mk H
      clear H
      obtain ⟨Ao15, co15, eo15⟩ := Kd.R_slice HO_8.out
      subst eo15
      obtain ⟨Ao16, co16, eo16⟩ := Kd.R_slice HO_7.out
      subst eo16
      iterate 6 (first | go_quiet (first | ((with_reducible refine gate_dst (N := 40) rfl ?_); refine Kd.R_make (Kd.int .u64) _ 22 rfl (N := 40) rfl 30 _ _ rfl ji12 rfl rfl Try.underlying30 (.int .u64 0) 8 info22 rfl (by decide) (by omega) 0 (ok := fun _ => True) (okp := fun _ => True) rfl (fun _ hk => hk) trivial (of_decide_eq_true (by first | (with_reducible assumption) | assumption)) (Nat.le_trans (Nat.mul_le_mul_right _ (of_decide_eq_true (by first | (with_reducible assumption) | assumption) : ji12.toNat ≤ 35184372088832)) (by omega)) (Below.refl _ _) (Nat.le_refl _) ?_; intro v1388 w17 ho18 hb hg_ hnew_; clear hg_ hnew_; (first | rw [← Ny1387.out] at ho18 | (simp only [Int.reduceToNat] at ho18; rw [← Ny1387.out] at ho18)); refine sw4 ⟨Kd.R_elder' (st HO_7.out) (Kd.R_base ho18) hb⟩ ⟨Kd.R_elder' (st HO_8.out) (Kd.R_base ho18) hb⟩ ⟨Kd.R_lower (Kd.R_new' (Kd.R_new' ho18 (Kd.R_lt (st HO_7.out))) (Kd.R_lt (st HO_8.out))) (below_size (bb HB.out))⟩ ⟨below_step (bb HB.out) hb⟩ ?_; clear HO_7 HO_8 HB; intro HO_7 HO_8 HO1389 HB; clear hb ho18; obtain ⟨Ao19, co19, eo19⟩ := Kd.R_slice HO1389.out; subst eo19)) | go_wp2_with (first | ((with_reducible refine gate_dst (N := 40) rfl ?_); refine Kd.R_make (Kd.int .u64) _ 22 rfl (N := 40) rfl 30 _ _ rfl ji12 rfl rfl Try.underlying30 (.int .u64 0) 8 info22 rfl (by decide) (by omega) 0 (ok := fun _ => True) (okp := fun _ => True) rfl (fun _ hk => hk) trivial (of_decide_eq_true (by first | (with_reducible assumption) | assumption)) (Nat.le_trans (Nat.mul_le_mul_right _ (of_decide_eq_true (by first | (with_reducible assumption) | assumption) : ji12.toNat ≤ 35184372088832)) (by omega)) (Below.refl _ _) (Nat.le_refl _) ?_; intro v1388 w17 ho18 hb hg_ hnew_; clear hg_ hnew_; (first | rw [← Ny1387.out] at ho18 | (simp only [Int.reduceToNat] at ho18; rw [← Ny1387.out] at ho18)); refine sw4 ⟨Kd.R_elder' (st HO_7.out) (Kd.R_base ho18) hb⟩ ⟨Kd.R_elder' (st HO_8.out) (Kd.R_base ho18) hb⟩ ⟨Kd.R_lower (Kd.R_new' (Kd.R_new' ho18 (Kd.R_lt (st HO_7.out))) (Kd.R_lt (st HO_8.out))) (below_size (bb HB.out))⟩ ⟨below_step (bb HB.out) hb⟩ ?_; clear HO_7 HO_8 HB; intro HO_7 HO_8 HO1389 HB; clear hb ho18; obtain ⟨Ao19, co19, eo19⟩ := Kd.R_slice HO1389.out; subst eo19)) | skip)
      go_loopg [11] k1 (fun kq v11 w' => ∃ (x8_2 : List Int) (x10_2 : List Int) (x11_2 : Int), v11 = .int .i64 x11_2 ∧ Aside0 (quot_long.l1 kq (wrap64 ((wrap64 (64 * (l1.length : Int))) - t1377)) t1378 x8_2 (t1378.length : Int) x10_2 x11_2 = some (r1, r2)) ∧ Aside0 (kq ≤ k1) ∧ Aside0 (Kd.R (Kd.int .u64) 22 w' w.heap.size (fun k_ => some k_ ≠ ((.slice Ao15 x8_1.length co15) : Value).ownBlock ∧ some k_ ≠ ((.slice Ao19 y1387.length co19) : Value).ownBlock) (.slice Ao16 t1378.length co16) t1378) ∧ Aside0 (Kd.R (Kd.int .u64) 22 w' w.heap.size (fun k_ => some k_ ≠ ((.slice Ao16 t1378.length co16) : Value).ownBlock ∧ some k_ ≠ ((.slice Ao19 y1387.length co19) : Value).ownBlock) (.slice Ao15 x8_1.length co15) x8_2) ∧ Aside0 (Kd.R (Kd.int .u64) 22 w' w.heap.size (fun k_ => some k_ ≠ ((.slice Ao16 t1378.length co16) : Value).ownBlock ∧ some k_ ≠ ((.slice Ao15 x8_1.length co15) : Value).ownBlock) (.slice Ao19 y1387.length co19) x10_2) ∧ Aside0 (Below w.heap.size w w'))
      case atStart => exact ⟨(x8_1), (y1387), (wrap64 ((y1387.length : Int) - 1)), (by first | rfl | (simp; done) | (simp [*]; done)), H', ⟨Nat.le_refl _⟩, ⟨by (with_reducible repeat (first | apply Kd.R_alloc | apply Kd.R_drewN | apply Kd.R_drew)); exact HO_7.out⟩, ⟨by (with_reducible repeat (first | apply Kd.R_alloc | apply Kd.R_drewN | apply Kd.R_drew)); exact HO_8.out⟩, ⟨by (with_reducible repeat (first | apply Kd.R_alloc | apply Kd.R_drewN | apply Kd.R_drew)); exact Kd.R_mono HO1389.out (fun _ hk => ⟨hk.1.2, hk.2⟩)⟩, ⟨bb HB.out⟩⟩
      case round =>
       clear H'
       obtain ⟨x8_2, x10_2, x11_2, rfl, HA, HK2, HO_7, HO_8, HO_10, HB⟩ := hrel
       have hl8_2 := (Kd.R_reads' HO_8.out).1
       rw [hl8_2] at HO_8
       (try simp only [hl8_2])
       (try simp only [hl8_2] at HO_7)
       (try simp only [hl8_2] at HO_10)
       have hl10_2 := (Kd.R_reads' HO_10.out).1
       rw [hl10_2] at HO_10
       (try simp only [hl10_2])
       (try simp only [hl10_2] at HO_7)
       (try simp only [hl10_2] at HO_8)
       cases gk with
       | zero => exact absurd HA.out (by simp [quot_long.l1])
       | succ k2 =>
        have H := HA.out
        clear HA
        simp only [quot_long.l1] at H
        by_cases c20 : x11_2 ≥ 0
        ·rw [if_pos c20] at H
         have c20b0 : decide (0 ≤ x11_2) = true := decide_eq_true c20
         clear c20
         obtain ⟨ji21, hji21⟩ : ∃ j_ : Int, (wrap64 ((t1378.length : Int) - 1)) = j_ := ⟨_, rfl⟩
         rw [hji21] at H
         have hji21w : (IntKind.i64.wrap ((t1378.length : Int) - 1)) = ji21 := (i64_w _).trans hji21
         by_cases c22 : 0 ≤ (ji21)
         ·rw [if_pos c22] at H
          have c22b0 : decide (0 ≤ (ji21)) = true := decide_eq_true c22
          clear c22
          by_cases c23 : (ji21) < (t1378.length : Int)
          ·rw [if_pos c23] at H
           have c23b0 : decide ((ji21) < (t1378.length : Int)) = true := decide_eq_true c23
           clear c23
           (try (have c23bh0_0 := c23b0; simp only [hl8_2] at c23bh0_0))
           (try (have c23bh1_0 := c23b0; simp only [hl10_2] at c23bh1_0))
           obtain ⟨ji24, hji24⟩ : ∃ j_ : Int, (wrap64 ((t1378.length : Int) - 2)) = j_ := ⟨_, rfl⟩
           rw [hji24] at H
           have hji24w : (IntKind.i64.wrap ((t1378.length : Int) - 2)) = ji24 := (i64_w _).trans hji24
           by_cases c25 : 0 ≤ (ji24)
           ·rw [if_pos c25] at H
            have c25b0 : decide (0 ≤ (ji24)) = true := decide_eq_true c25
            clear c25
            by_cases c26 : (ji24) < (t1378.length : Int)
            ·rw [if_pos c26] at H
             have c26b0 : decide ((ji24) < (t1378.length : Int)) = true := decide_eq_true c26
             clear c26
             (try (have c26bh0_0 := c26b0; simp only [hl8_2] at c26bh0_0))
             (try (have c26bh1_0 := c26b0; simp only [hl10_2] at c26bh1_0))
             obtain ⟨t1398, A27, H⟩ := bnd H
             obtain ⟨⟨t1399, t1400⟩, A28, H⟩ := bnd H
             dsimp only at H
             by_cases c29 : t1399 = true
             ·subst c29
              replace H := ift H
              obtain ⟨t1401, A30, H⟩ := bnd H
              by_cases c31 : 0 ≤ x11_2
              ·rw [if_pos c31] at H
               have c31b0 : decide (0 ≤ x11_2) = true := decide_eq_true c31
               clear c31
               by_cases c32 : x11_2 < (x10_2.length : Int)
               ·rw [if_pos c32] at H
                have c32b0 : decide (x11_2 < (x10_2.length : Int)) = true := decide_eq_true c32
                clear c32
                (try (have c32bh0_0 := c32b0; simp only [hl8_2] at c32bh0_0))
                (try (have c32bh1_0 := c32b0; simp only [hl10_2] at c32bh1_0))
                obtain ⟨y1402, hy1402⟩ : ∃ y_ : List Int, y_ = (x10_2.set (x11_2 : Int).toNat (IntKind.u64.wrap (t1398 - 1))) := ⟨_, rfl⟩
                rw [← hy1402] at H
                have Ny1402 := Aside0.mk hy1402
                clear hy1402
                have H' := Aside0.mk H
                clear H
                have p1396 : 0 ≤ ((ji21) : Int) := of_decide_eq_true (by first | (with_reducible assumption) | assumption)
                have q1396 : (ji21) < (t1378.length : Int) := of_decide_eq_true (by first | (with_reducible assumption) | assumption)
                obtain ⟨ad1396, e1396, hx1396_0⟩ := Kd.at_int (Kd.R_reads' HO_7.out).2.2 (ji21) p1396 q1396
                cases e1396
                replace p1396 := eq_true p1396
                replace q1396 := eq_true q1396
                have p1397 : 0 ≤ ((ji24) : Int) := of_decide_eq_true (by first | (with_reducible assumption) | assumption)
                have q1397 : (ji24) < (t1378.length : Int) := of_decide_eq_true (by first | (with_reducible assumption) | assumption)
                obtain ⟨ad1397, e1397, hx1397_0⟩ := Kd.at_int (Kd.R_reads' HO_7.out).2.2 (ji24) p1397 q1397
                obtain rfl : ad1396 = ad1397 := (by injection e1397)
                replace p1397 := eq_true p1397
                replace q1397 := eq_true q1397
                iterate 6 (first | go_quiet (first | (go_at_call 158; (with_reducible refine (quot_guess.calls k2 _ _ x8_2 (wrap64 (x11_2 + (t1378.length : Int))) (rd t1378 (ji21)) (rd t1378 (ji24)) t1398 _ ?side1 ?side2 A27.out).mono ?_); (case side1 => exact cs (Kd.R_reads' HO_8.out).2.2); (case side2 => exact (Kd.R_reads' HO_8.out).2.1); rintro e w' ⟨rfl, ⟨nd, rfl⟩⟩; (try first | exact ⟨rfl, _, World.drewN_drewN _ _ _⟩ | exact ⟨rfl, _, Eq.trans (World.drewN_drewN _ _ _) (congrArg (World.drewN _) (Nat.add_assoc _ _ _))⟩)) | (go_at_call 159; (with_reducible refine (quot_take.calls k2 (fun k_ => some k_ = (.slice Ao15 x8_2.length co15 : Value).ownBlock) (.slice Ao15 x8_2.length co15) x8_2 _ _ t1378 x11_2 t1398 true t1400 w _ ?side1 ?side2 ?side3 ?side4 A28.out).mono ?_); (case side1 => repeat (first | (with_reducible first | exact HB.out | apply below_alloc | apply pw_below_drewN | apply below_drew1) | exact HB.out)); (case side2 => exact Kd.R_tight rfl HO_8.out); (case side3 => exact Kd.C_kept_own (HO_7.out) (fun k_ hk_ hs_ => (hk_.1) hs_)); (case side4 => exact (Kd.R_reads' HO_7.out).2.1); rintro e w34 ⟨rfl, hy0, hb, hkp⟩; refine sw4 ⟨Kd.R_mono (ok' := fun k_ => some k_ ≠ (.slice Ao15 x8_2.length co15 : Value).ownBlock ∧ some k_ ≠ (.slice Ao19 x10_2.length co19 : Value).ownBlock) (Kd.R_keptB (HO_7.out) hkp (fun k_ hk_ hs_ => (hk_.1) hs_)) (fun k_ hk_ => ⟨hk_.1.1, hk_.1.2⟩)⟩ ⟨Kd.R_reok rfl hy0 (fun k_ e_ => HO_8.out.1 k_ e_)⟩ ⟨Kd.R_mono (ok' := fun k_ => some k_ ≠ (.slice (some ad1396) t1378.length co16 : Value).ownBlock ∧ some k_ ≠ (.slice Ao15 x8_2.length co15 : Value).ownBlock) (Kd.R_keptB (HO_10.out) hkp (fun k_ hk_ hs_ => (hk_.2) hs_)) (fun k_ hk_ => ⟨hk_.1.1, hk_.1.2⟩)⟩ ⟨hb⟩ ?_; clear HO_7 HO_8 HO_10 HB; intro HO_7 HO_8 HO_10 HB) | (go_at_call 160; (with_reducible refine (quot_back.calls k2 (fun k_ => some k_ = (.slice Ao15 x8_2.length co15 : Value).ownBlock) (.slice Ao15 x8_2.length co15) t1400 _ _ t1378 x11_2 t1401 w _ ?side1 ?side2 ?side3 ?side4 A30.out).mono ?_); (case side1 => repeat (first | (with_reducible first | exact HB.out | apply below_alloc | apply pw_below_drewN | apply below_drew1) | exact HB.out)); (case side2 => exact Kd.R_tight rfl HO_8.out); (case side3 => exact Kd.C_kept_own (HO_7.out) (fun k_ hk_ hs_ => (hk_.1) hs_)); (case side4 => exact (Kd.R_reads' HO_7.out).2.1); rintro e w35 ⟨rfl, hy0, hb, hkp⟩; refine sw4 ⟨Kd.R_mono (ok' := fun k_ => some k_ ≠ (.slice Ao15 x8_2.length co15 : Value).ownBlock ∧ some k_ ≠ (.slice Ao19 x10_2.length co19 : Value).ownBlock) (Kd.R_keptB (HO_7.out) hkp (fun k_ hk_ hs_ => (hk_.1) hs_)) (fun k_ hk_ => ⟨hk_.1.1, hk_.1.2⟩)⟩ ⟨Kd.R_reok rfl hy0 (fun k_ e_ => HO_8.out.1 k_ e_)⟩ ⟨Kd.R_mono (ok' := fun k_ => some k_ ≠ (.slice (some ad1396) t1378.length co16 : Value).ownBlock ∧ some k_ ≠ (.slice Ao15 x8_2.length co15 : Value).ownBlock) (Kd.R_keptB (HO_10.out) hkp (fun k_ hk_ hs_ => (hk_.2) hs_)) (fun k_ hk_ => ⟨hk_.1.1, hk_.1.2⟩)⟩ ⟨hb⟩ ?_; clear HO_7 HO_8 HO_10 HB; intro HO_7 HO_8 HO_10 HB; have p33 : 0 ≤ (x11_2 : Int) := of_decide_eq_true (by first | (with_reducible assumption) | assumption); have q33 : (x11_2 : Int) < ((x10_2.length : Int) : Int) := of_decide_eq_true (by first | (with_reducible assumption) | assumption); obtain ⟨go33, co33, eo33, gb33, gl33, cl33, HG33⟩ := Kd.R_form HO_10.out (by omega); (first | cases eo33 | (injection eo33 with ea_ en_ ec_; (first | subst ea_ | (injection ea_ with ea_; subst ea_)); subst ec_; clear en_)); have GB33 := Aside0.mk gb33; have GG33 := Aside0.mk HG33; clear gb33 gl33 HG33; obtain ⟨hx33_0, hf33_0⟩ := Kd.R_celln 0 HO_10.out (x11_2 : Int) p33 q33; replace p33 := eq_true p33; replace q33 := eq_true q33; obtain ⟨hy36_, hz36_⟩ := Kd.R_celln 0 HO_10.out (x11_2 : Int) (of_decide_eq_true (by first | (with_reducible assumption) | assumption)) (of_decide_eq_true (by first | (with_reducible assumption) | assumption)); have HP36 := Kd.R_putg HO_10.out (x11_2 : Int) (IntKind.u64.wrap (t1398 - 1))) | ((with_reducible refine gate_store (t := 22) (p := 77) rfl ?_); (try (rw [drewN_self w35]; generalize hq_ : World.drewN w35 _ = w35; have n0_ := Aside0.mk (Kd.R_at hq_ HO_7.out); have n1_ := Aside0.mk (Kd.R_at hq_ HO_8.out); have n2_ := Aside0.mk (Kd.R_at hq_ HO_10.out); have n3_ := Aside0.mk (below_at hq_ HB.out); clear hq_ HO_7 HO_8 HO_10 HB; have HO_7 := n0_; have HO_8 := n1_; have HO_10 := n2_; have HB := n3_; clear n0_ n1_ n2_ n3_; (try (obtain ⟨hx33_0, hf33_0⟩ := Kd.R_celln 0 HO_10.out (x11_2 : Int) (of_eq_true p33) (of_eq_true q33))); (try (obtain ⟨hy36_, hz36_⟩ := Kd.R_celln 0 HO_10.out (x11_2 : Int) (of_decide_eq_true (by first | (with_reducible assumption) | assumption)) (of_decide_eq_true (by first | (with_reducible assumption) | assumption)))); (try (have HP36 := Kd.R_putg HO_10.out (x11_2 : Int) (IntKind.u64.wrap (t1398 - 1)))))); refine store_event (t := 22) (p := 77) (v := ?vo_w37) (w1 := (w35.setCell ⟨go33, (x11_2 : Int).toNat, none⟩ (.int .u64 (IntKind.u64.wrap (t1398 - 1))))) ?hg ?ho ?hn ?hr ?_; (case ho => rfl); (case hg => rfl); (case hn => rfl); (case hr => first | (go_simp; done) | (go_simp; rfl)); intro w37 hw; have hg : w35.grownBy w37 (some go33) := (by rw [hw]; exact HP36.2); have hp_ : Kd.R (Kd.int .u64) 22 w37 w.heap.size (fun k_ => some k_ ≠ (.slice (some ad1396) t1378.length co16 : Value).ownBlock ∧ some k_ ≠ (.slice Ao15 x8_2.length co15 : Value).ownBlock) (.slice (some ⟨go33, 0, none⟩) x10_2.length co19) y1402 := (by rw [hw, Ny1402.out]; exact HP36.1); clear HP36; refine sw4 ⟨Kd.R_after (v := (.slice (some ⟨go33, 0, none⟩) x10_2.length co19)) (v1 := (.slice (some ⟨go33, 0, none⟩) x10_2.length co19)) (ok := (fun k_ => some k_ ≠ (.slice Ao15 x8_2.length co15 : Value).ownBlock)) (st HO_7.out) hg (.inl rfl)⟩ ⟨Kd.R_after (v := (.slice (some ⟨go33, 0, none⟩) x10_2.length co19)) (v1 := (.slice (some ⟨go33, 0, none⟩) x10_2.length co19)) (ok := (fun k_ => some k_ ≠ (.slice (some ad1396) t1378.length co16 : Value).ownBlock)) (st HO_8.out) hg (.inl rfl)⟩ ⟨hp_⟩ ⟨(by rw [hw]; exact below_set (HB.out) GB33.out : Below w.heap.size w w37)⟩ ?_; clear HO_7 HO_8 HO_10 HB; intro HO_7 HO_8 HO_10 HB; clear hg hw hp_)) | go_wp2_with (first | (go_at_call 158; (with_reducible refine (quot_guess.calls k2 _ _ x8_2 (wrap64 (x11_2 + (t1378.length : Int))) (rd t1378 (ji21)) (rd t1378 (ji24)) t1398 _ ?side1 ?side2 A27.out).mono ?_); (case side1 => exact cs (Kd.R_reads' HO_8.out).2.2); (case side2 => exact (Kd.R_reads' HO_8.out).2.1); rintro e w' ⟨rfl, ⟨nd, rfl⟩⟩; (try first | exact ⟨rfl, _, World.drewN_drewN _ _ _⟩ | exact ⟨rfl, _, Eq.trans (World.drewN_drewN _ _ _) (congrArg (World.drewN _) (Nat.add_assoc _ _ _))⟩)) | (go_at_call 159; (with_reducible refine (quot_take.calls k2 (fun k_ => some k_ = (.slice Ao15 x8_2.length co15 : Value).ownBlock) (.slice Ao15 x8_2.length co15) x8_2 _ _ t1378 x11_2 t1398 true t1400 w _ ?side1 ?side2 ?side3 ?side4 A28.out).mono ?_); (case side1 => repeat (first | (with_reducible first | exact HB.out | apply below_alloc | apply pw_below_drewN | apply below_drew1) | exact HB.out)); (case side2 => exact Kd.R_tight rfl HO_8.out); (case side3 => exact Kd.C_kept_own (HO_7.out) (fun k_ hk_ hs_ => (hk_.1) hs_)); (case side4 => exact (Kd.R_reads' HO_7.out).2.1); rintro e w34 ⟨rfl, hy0, hb, hkp⟩; refine sw4 ⟨Kd.R_mono (ok' := fun k_ => some k_ ≠ (.slice Ao15 x8_2.length co15 : Value).ownBlock ∧ some k_ ≠ (.slice Ao19 x10_2.length co19 : Value).ownBlock) (Kd.R_keptB (HO_7.out) hkp (fun k_ hk_ hs_ => (hk_.1) hs_)) (fun k_ hk_ => ⟨hk_.1.1, hk_.1.2⟩)⟩ ⟨Kd.R_reok rfl hy0 (fun k_ e_ => HO_8.out.1 k_ e_)⟩ ⟨Kd.R_mono (ok' := fun k_ => some k_ ≠ (.slice (some ad1396) t1378.length co16 : Value).ownBlock ∧ some k_ ≠ (.slice Ao15 x8_2.length co15 : Value).ownBlock) (Kd.R_keptB (HO_10.out) hkp (fun k_ hk_ hs_ => (hk_.2) hs_)) (fun k_ hk_ => ⟨hk_.1.1, hk_.1.2⟩)⟩ ⟨hb⟩ ?_; clear HO_7 HO_8 HO_10 HB; intro HO_7 HO_8 HO_10 HB) | (go_at_call 160; (with_reducible refine (quot_back.calls k2 (fun k_ => some k_ = (.slice Ao15 x8_2.length co15 : Value).ownBlock) (.slice Ao15 x8_2.length co15) t1400 _ _ t1378 x11_2 t1401 w _ ?side1 ?side2 ?side3 ?side4 A30.out).mono ?_); (case side1 => repeat (first | (with_reducible first | exact HB.out | apply below_alloc | apply pw_below_drewN | apply below_drew1) | exact HB.out)); (case side2 => exact Kd.R_tight rfl HO_8.out); (case side3 => exact Kd.C_kept_own (HO_7.out) (fun k_ hk_ hs_ => (hk_.1) hs_)); (case side4 => exact (Kd.R_reads' HO_7.out).2.1); rintro e w35 ⟨rfl, hy0, hb, hkp⟩; refine sw4 ⟨Kd.R_mono (ok' := fun k_ => some k_ ≠ (.slice Ao15 x8_2.length co15 : Value).ownBlock ∧ some k_ ≠ (.slice Ao19 x10_2.length co19 : Value).ownBlock) (Kd.R_keptB (HO_7.out) hkp (fun k_ hk_ hs_ => (hk_.1) hs_)) (fun k_ hk_ => ⟨hk_.1.1, hk_.1.2⟩)⟩ ⟨Kd.R_reok rfl hy0 (fun k_ e_ => HO_8.out.1 k_ e_)⟩ ⟨Kd.R_mono (ok' := fun k_ => some k_ ≠ (.slice (some ad1396) t1378.length co16 : Value).ownBlock ∧ some k_ ≠ (.slice Ao15 x8_2.length co15 : Value).ownBlock) (Kd.R_keptB (HO_10.out) hkp (fun k_ hk_ hs_ => (hk_.2) hs_)) (fun k_ hk_ => ⟨hk_.1.1, hk_.1.2⟩)⟩ ⟨hb⟩ ?_; clear HO_7 HO_8 HO_10 HB; intro HO_7 HO_8 HO_10 HB; have p33 : 0 ≤ (x11_2 : Int) := of_decide_eq_true (by first | (with_reducible assumption) | assumption); have q33 : (x11_2 : Int) < ((x10_2.length : Int) : Int) := of_decide_eq_true (by first | (with_reducible assumption) | assumption); obtain ⟨go33, co33, eo33, gb33, gl33, cl33, HG33⟩ := Kd.R_form HO_10.out (by omega); (first | cases eo33 | (injection eo33 with ea_ en_ ec_; (first | subst ea_ | (injection ea_ with ea_; subst ea_)); subst ec_; clear en_)); have GB33 := Aside0.mk gb33; have GG33 := Aside0.mk HG33; clear gb33 gl33 HG33; obtain ⟨hx33_0, hf33_0⟩ := Kd.R_celln 0 HO_10.out (x11_2 : Int) p33 q33; replace p33 := eq_true p33; replace q33 := eq_true q33; obtain ⟨hy36_, hz36_⟩ := Kd.R_celln 0 HO_10.out (x11_2 : Int) (of_decide_eq_true (by first | (with_reducible assumption) | assumption)) (of_decide_eq_true (by first | (with_reducible assumption) | assumption)); have HP36 := Kd.R_putg HO_10.out (x11_2 : Int) (IntKind.u64.wrap (t1398 - 1))) | ((with_reducible refine gate_store (t := 22) (p := 77) rfl ?_); (try (rw [drewN_self w35]; generalize hq_ : World.drewN w35 _ = w35; have n0_ := Aside0.mk (Kd.R_at hq_ HO_7.out); have n1_ := Aside0.mk (Kd.R_at hq_ HO_8.out); have n2_ := Aside0.mk (Kd.R_at hq_ HO_10.out); have n3_ := Aside0.mk (below_at hq_ HB.out); clear hq_ HO_7 HO_8 HO_10 HB; have HO_7 := n0_; have HO_8 := n1_; have HO_10 := n2_; have HB := n3_; clear n0_ n1_ n2_ n3_; (try (obtain ⟨hx33_0, hf33_0⟩ := Kd.R_celln 0 HO_10.out (x11_2 : Int) (of_eq_true p33) (of_eq_true q33))); (try (obtain ⟨hy36_, hz36_⟩ := Kd.R_celln 0 HO_10.out (x11_2 : Int) (of_decide_eq_true (by first | (with_reducible assumption) | assumption)) (of_decide_eq_true (by first | (with_reducible assumption) | assumption)))); (try (have HP36 := Kd.R_putg HO_10.out (x11_2 : Int) (IntKind.u64.wrap (t1398 - 1)))))); refine store_event (t := 22) (p := 77) (v := ?vo_w37) (w1 := (w35.setCell ⟨go33, (x11_2 : Int).toNat, none⟩ (.int .u64 (IntKind.u64.wrap (t1398 - 1))))) ?hg ?ho ?hn ?hr ?_; (case ho => rfl); (case hg => rfl); (case hn => rfl); (case hr => first | (go_simp; done) | (go_simp; rfl)); intro w37 hw; have hg : w35.grownBy w37 (some go33) := (by rw [hw]; exact HP36.2); have hp_ : Kd.R (Kd.int .u64) 22 w37 w.heap.size (fun k_ => some k_ ≠ (.slice (some ad1396) t1378.length co16 : Value).ownBlock ∧ some k_ ≠ (.slice Ao15 x8_2.length co15 : Value).ownBlock) (.slice (some ⟨go33, 0, none⟩) x10_2.length co19) y1402 := (by rw [hw, Ny1402.out]; exact HP36.1); clear HP36; refine sw4 ⟨Kd.R_after (v := (.slice (some ⟨go33, 0, none⟩) x10_2.length co19)) (v1 := (.slice (some ⟨go33, 0, none⟩) x10_2.length co19)) (ok := (fun k_ => some k_ ≠ (.slice Ao15 x8_2.length co15 : Value).ownBlock)) (st HO_7.out) hg (.inl rfl)⟩ ⟨Kd.R_after (v := (.slice (some ⟨go33, 0, none⟩) x10_2.length co19)) (v1 := (.slice (some ⟨go33, 0, none⟩) x10_2.length co19)) (ok := (fun k_ => some k_ ≠ (.slice (some ad1396) t1378.length co16 : Value).ownBlock)) (st HO_8.out) hg (.inl rfl)⟩ ⟨hp_⟩ ⟨(by rw [hw]; exact below_set (HB.out) GB33.out : Below w.heap.size w w37)⟩ ?_; clear HO_7 HO_8 HO_10 HB; intro HO_7 HO_8 HO_10 HB; clear hg hw hp_)) | skip)
                (try simp only [← hl8_2, ← hl10_2])
                go_roundg k2
                case measure => have := HK1.out; have := HK2.out; omega
                case rel => exact ⟨(t1401), (y1402), (wrap64 (x11_2 - 1)), (by first | rfl | (simp; done) | (simp [*]; done)), H', ⟨by have := HK1.out; have := HK2.out; omega⟩, ⟨by (try simp only [hl8_2]); (try simp only [hl10_2]); (with_reducible repeat (first | apply Kd.R_alloc | apply Kd.R_drewN | apply Kd.R_drew)); exact HO_7.out⟩, ⟨by (try simp only [hl8_2]); (try simp only [hl10_2]); (with_reducible repeat (first | apply Kd.R_alloc | apply Kd.R_drewN | apply Kd.R_drew)); exact HO_8.out⟩, ⟨by (try simp only [hl8_2]); (try simp only [hl10_2]); (with_reducible repeat (first | apply Kd.R_alloc | apply Kd.R_drewN | apply Kd.R_drew)); exact HO_10.out⟩, ⟨bb HB.out⟩⟩
               ·rw [if_neg c32] at H
                exact absurd H (by simp)
              ·rw [if_neg c31] at H
               exact absurd H (by simp)
             ·replace c29 := Bool.eq_false_iff.mpr c29
              subst c29
              replace H := iff_ H
              by_cases c38 : 0 ≤ x11_2
              ·rw [if_pos c38] at H
               have c38b0 : decide (0 ≤ x11_2) = true := decide_eq_true c38
               clear c38
               by_cases c39 : x11_2 < (x10_2.length : Int)
               ·rw [if_pos c39] at H
                have c39b0 : decide (x11_2 < (x10_2.length : Int)) = true := decide_eq_true c39
                clear c39
                (try (have c39bh0_0 := c39b0; simp only [hl8_2] at c39bh0_0))
                (try (have c39bh1_0 := c39b0; simp only [hl10_2] at c39bh1_0))
                obtain ⟨y1403, hy1403⟩ : ∃ y_ : List Int, y_ = (x10_2.set (x11_2 : Int).toNat t1398) := ⟨_, rfl⟩
                rw [← hy1403] at H
                have Ny1403 := Aside0.mk hy1403
                clear hy1403
                have H' := Aside0.mk H
                clear H
                have p1396 : 0 ≤ ((ji21) : Int) := of_decide_eq_true (by first | (with_reducible assumption) | assumption)
                have q1396 : (ji21) < (t1378.length : Int) := of_decide_eq_true (by first | (with_reducible assumption) | assumption)
                obtain ⟨ad1396, e1396, hx1396_0⟩ := Kd.at_int (Kd.R_reads' HO_7.out).2.2 (ji21) p1396 q1396
                cases e1396
                replace p1396 := eq_true p1396
                replace q1396 := eq_true q1396
                have p1397 : 0 ≤ ((ji24) : Int) := of_decide_eq_true (by first | (with_reducible assumption) | assumption)
                have q1397 : (ji24) < (t1378.length : Int) := of_decide_eq_true (by first | (with_reducible assumption) | assumption)
                obtain ⟨ad1397, e1397, hx1397_0⟩ := Kd.at_int (Kd.R_reads' HO_7.out).2.2 (ji24) p1397 q1397
                obtain rfl : ad1396 = ad1397 := (by injection e1397)
                replace p1397 := eq_true p1397
                replace q1397 := eq_true q1397
                iterate 6 (first | go_quiet (first | (go_at_call 158; (with_reducible refine (quot_guess.calls k2 _ _ x8_2 (wrap64 (x11_2 + (t1378.length : Int))) (rd t1378 (ji21)) (rd t1378 (ji24)) t1398 _ ?side1 ?side2 A27.out).mono ?_); (case side1 => exact cs (Kd.R_reads' HO_8.out).2.2); (case side2 => exact (Kd.R_reads' HO_8.out).2.1); rintro e w' ⟨rfl, ⟨nd, rfl⟩⟩; (try first | exact ⟨rfl, _, World.drewN_drewN _ _ _⟩ | exact ⟨rfl, _, Eq.trans (World.drewN_drewN _ _ _) (congrArg (World.drewN _) (Nat.add_assoc _ _ _))⟩)) | (go_at_call 159; (with_reducible refine (quot_take.calls k2 (fun k_ => some k_ = (.slice Ao15 x8_2.length co15 : Value).ownBlock) (.slice Ao15 x8_2.length co15) x8_2 _ _ t1378 x11_2 t1398 false t1400 w _ ?side1 ?side2 ?side3 ?side4 A28.out).mono ?_); (case side1 => repeat (first | (with_reducible first | exact HB.out | apply below_alloc | apply pw_below_drewN | apply below_drew1) | exact HB.out)); (case side2 => exact Kd.R_tight rfl HO_8.out); (case side3 => exact Kd.C_kept_own (HO_7.out) (fun k_ hk_ hs_ => (hk_.1) hs_)); (case side4 => exact (Kd.R_reads' HO_7.out).2.1); rintro e w41 ⟨rfl, hy0, hb, hkp⟩; refine sw4 ⟨Kd.R_mono (ok' := fun k_ => some k_ ≠ (.slice Ao15 x8_2.length co15 : Value).ownBlock ∧ some k_ ≠ (.slice Ao19 x10_2.length co19 : Value).ownBlock) (Kd.R_keptB (HO_7.out) hkp (fun k_ hk_ hs_ => (hk_.1) hs_)) (fun k_ hk_ => ⟨hk_.1.1, hk_.1.2⟩)⟩ ⟨Kd.R_reok rfl hy0 (fun k_ e_ => HO_8.out.1 k_ e_)⟩ ⟨Kd.R_mono (ok' := fun k_ => some k_ ≠ (.slice (some ad1396) t1378.length co16 : Value).ownBlock ∧ some k_ ≠ (.slice Ao15 x8_2.length co15 : Value).ownBlock) (Kd.R_keptB (HO_10.out) hkp (fun k_ hk_ hs_ => (hk_.2) hs_)) (fun k_ hk_ => ⟨hk_.1.1, hk_.1.2⟩)⟩ ⟨hb⟩ ?_; clear HO_7 HO_8 HO_10 HB; intro HO_7 HO_8 HO_10 HB; have p40 : 0 ≤ (x11_2 : Int) := of_decide_eq_true (by first | (with_reducible assumption) | assumption); have q40 : (x11_2 : Int) < ((x10_2.length : Int) : Int) := of_decide_eq_true (by first | (with_reducible assumption) | assumption); obtain ⟨go40, co40, eo40, gb40, gl40, cl40, HG40⟩ := Kd.R_form HO_10.out (by omega); (first | cases eo40 | (injection eo40 with ea_ en_ ec_; (first | subst ea_ | (injection ea_ with ea_; subst ea_)); subst ec_; clear en_)); have GB40 := Aside0.mk gb40; have GG40 := Aside0.mk HG40; clear gb40 gl40 HG40; obtain ⟨hx40_0, hf40_0⟩ := Kd.R_celln 0 HO_10.out (x11_2 : Int) p40 q40; replace p40 := eq_true p40; replace q40 := eq_true q40; obtain ⟨hy42_, hz42_⟩ := Kd.R_celln 0 HO_10.out (x11_2 : Int) (of_decide_eq_true (by first | (with_reducible assumption) | assumption)) (of_decide_eq_true (by first | (with_reducible assumption) | assumption)); have HP42 := Kd.R_putg HO_10.out (x11_2 : Int) t1398) | ((with_reducible refine gate_store (t := 22) (p := 77) rfl ?_); (try (rw [drewN_self w41]; generalize hq_ : World.drewN w41 _ = w41; have n0_ := Aside0.mk (Kd.R_at hq_ HO_7.out); have n1_ := Aside0.mk (Kd.R_at hq_ HO_8.out); have n2_ := Aside0.mk (Kd.R_at hq_ HO_10.out); have n3_ := Aside0.mk (below_at hq_ HB.out); clear hq_ HO_7 HO_8 HO_10 HB; have HO_7 := n0_; have HO_8 := n1_; have HO_10 := n2_; have HB := n3_; clear n0_ n1_ n2_ n3_; (try (obtain ⟨hx40_0, hf40_0⟩ := Kd.R_celln 0 HO_10.out (x11_2 : Int) (of_eq_true p40) (of_eq_true q40))); (try (obtain ⟨hy42_, hz42_⟩ := Kd.R_celln 0 HO_10.out (x11_2 : Int) (of_decide_eq_true (by first | (with_reducible assumption) | assumption)) (of_decide_eq_true (by first | (with_reducible assumption) | assumption)))); (try (have HP42 := Kd.R_putg HO_10.out (x11_2 : Int) t1398)))); refine store_event (t := 22) (p := 77) (v := ?vo_w43) (w1 := (w41.setCell ⟨go40, (x11_2 : Int).toNat, none⟩ (.int .u64 t1398))) ?hg ?ho ?hn ?hr ?_; (case ho => rfl); (case hg => rfl); (case hn => rfl); (case hr => first | (go_simp; done) | (go_simp; rfl)); intro w43 hw; have hg : w41.grownBy w43 (some go40) := (by rw [hw]; exact HP42.2); have hp_ : Kd.R (Kd.int .u64) 22 w43 w.heap.size (fun k_ => some k_ ≠ (.slice (some ad1396) t1378.length co16 : Value).ownBlock ∧ some k_ ≠ (.slice Ao15 x8_2.length co15 : Value).ownBlock) (.slice (some ⟨go40, 0, none⟩) x10_2.length co19) y1403 := (by rw [hw, Ny1403.out]; exact HP42.1); clear HP42; refine sw4 ⟨Kd.R_after (v := (.slice (some ⟨go40, 0, none⟩) x10_2.length co19)) (v1 := (.slice (some ⟨go40, 0, none⟩) x10_2.length co19)) (ok := (fun k_ => some k_ ≠ (.slice Ao15 x8_2.length co15 : Value).ownBlock)) (st HO_7.out) hg (.inl rfl)⟩ ⟨Kd.R_after (v := (.slice (some ⟨go40, 0, none⟩) x10_2.length co19)) (v1 := (.slice (some ⟨go40, 0, none⟩) x10_2.length co19)) (ok := (fun k_ => some k_ ≠ (.slice (some ad1396) t1378.length co16 : Value).ownBlock)) (st HO_8.out) hg (.inl rfl)⟩ ⟨hp_⟩ ⟨(by rw [hw]; exact below_set (HB.out) GB40.out : Below w.heap.size w w43)⟩ ?_; clear HO_7 HO_8 HO_10 HB; intro HO_7 HO_8 HO_10 HB; clear hg hw hp_)) | go_wp2_with (first | (go_at_call 158; (with_reducible refine (quot_guess.calls k2 _ _ x8_2 (wrap64 (x11_2 + (t1378.length : Int))) (rd t1378 (ji21)) (rd t1378 (ji24)) t1398 _ ?side1 ?side2 A27.out).mono ?_); (case side1 => exact cs (Kd.R_reads' HO_8.out).2.2); (case side2 => exact (Kd.R_reads' HO_8.out).2.1); rintro e w' ⟨rfl, ⟨nd, rfl⟩⟩; (try first | exact ⟨rfl, _, World.drewN_drewN _ _ _⟩ | exact ⟨rfl, _, Eq.trans (World.drewN_drewN _ _ _) (congrArg (World.drewN _) (Nat.add_assoc _ _ _))⟩)) | (go_at_call 159; (with_reducible refine (quot_take.calls k2 (fun k_ => some k_ = (.slice Ao15 x8_2.length co15 : Value).ownBlock) (.slice Ao15 x8_2.length co15) x8_2 _ _ t1378 x11_2 t1398 false t1400 w _ ?side1 ?side2 ?side3 ?side4 A28.out).mono ?_); (case side1 => repeat (first | (with_reducible first | exact HB.out | apply below_alloc | apply pw_below_drewN | apply below_drew1) | exact HB.out)); (case side2 => exact Kd.R_tight rfl HO_8.out); (case side3 => exact Kd.C_kept_own (HO_7.out) (fun k_ hk_ hs_ => (hk_.1) hs_)); (case side4 => exact (Kd.R_reads' HO_7.out).2.1); rintro e w41 ⟨rfl, hy0, hb, hkp⟩; refine sw4 ⟨Kd.R_mono (ok' := fun k_ => some k_ ≠ (.slice Ao15 x8_2.length co15 : Value).ownBlock ∧ some k_ ≠ (.slice Ao19 x10_2.length co19 : Value).ownBlock) (Kd.R_keptB (HO_7.out) hkp (fun k_ hk_ hs_ => (hk_.1) hs_)) (fun k_ hk_ => ⟨hk_.1.1, hk_.1.2⟩)⟩ ⟨Kd.R_reok rfl hy0 (fun k_ e_ => HO_8.out.1 k_ e_)⟩ ⟨Kd.R_mono (ok' := fun k_ => some k_ ≠ (.slice (some ad1396) t1378.length co16 : Value).ownBlock ∧ some k_ ≠ (.slice Ao15 x8_2.length co15 : Value).ownBlock) (Kd.R_keptB (HO_10.out) hkp (fun k_ hk_ hs_ => (hk_.2) hs_)) (fun k_ hk_ => ⟨hk_.1.1, hk_.1.2⟩)⟩ ⟨hb⟩ ?_; clear HO_7 HO_8 HO_10 HB; intro HO_7 HO_8 HO_10 HB; have p40 : 0 ≤ (x11_2 : Int) := of_decide_eq_true (by first | (with_reducible assumption) | assumption); have q40 : (x11_2 : Int) < ((x10_2.length : Int) : Int) := of_decide_eq_true (by first | (with_reducible assumption) | assumption); obtain ⟨go40, co40, eo40, gb40, gl40, cl40, HG40⟩ := Kd.R_form HO_10.out (by omega); (first | cases eo40 | (injection eo40 with ea_ en_ ec_; (first | subst ea_ | (injection ea_ with ea_; subst ea_)); subst ec_; clear en_)); have GB40 := Aside0.mk gb40; have GG40 := Aside0.mk HG40; clear gb40 gl40 HG40; obtain ⟨hx40_0, hf40_0⟩ := Kd.R_celln 0 HO_10.out (x11_2 : Int) p40 q40; replace p40 := eq_true p40; replace q40 := eq_true q40; obtain ⟨hy42_, hz42_⟩ := Kd.R_celln 0 HO_10.out (x11_2 : Int) (of_decide_eq_true (by first | (with_reducible assumption) | assumption)) (of_decide_eq_true (by first | (with_reducible assumption) | assumption)); have HP42 := Kd.R_putg HO_10.out (x11_2 : Int) t1398) | ((with_reducible refine gate_store (t := 22) (p := 77) rfl ?_); (try (rw [drewN_self w41]; generalize hq_ : World.drewN w41 _ = w41; have n0_ := Aside0.mk (Kd.R_at hq_ HO_7.out); have n1_ := Aside0.mk (Kd.R_at hq_ HO_8.out); have n2_ := Aside0.mk (Kd.R_at hq_ HO_10.out); have n3_ := Aside0.mk (below_at hq_ HB.out); clear hq_ HO_7 HO_8 HO_10 HB; have HO_7 := n0_; have HO_8 := n1_; have HO_10 := n2_; have HB := n3_; clear n0_ n1_ n2_ n3_; (try (obtain ⟨hx40_0, hf40_0⟩ := Kd.R_celln 0 HO_10.out (x11_2 : Int) (of_eq_true p40) (of_eq_true q40))); (try (obtain ⟨hy42_, hz42_⟩ := Kd.R_celln 0 HO_10.out (x11_2 : Int) (of_decide_eq_true (by first | (with_reducible assumption) | assumption)) (of_decide_eq_true (by first | (with_reducible assumption) | assumption)))); (try (have HP42 := Kd.R_putg HO_10.out (x11_2 : Int) t1398)))); refine store_event (t := 22) (p := 77) (v := ?vo_w43) (w1 := (w41.setCell ⟨go40, (x11_2 : Int).toNat, none⟩ (.int .u64 t1398))) ?hg ?ho ?hn ?hr ?_; (case ho => rfl); (case hg => rfl); (case hn => rfl); (case hr => first | (go_simp; done) | (go_simp; rfl)); intro w43 hw; have hg : w41.grownBy w43 (some go40) := (by rw [hw]; exact HP42.2); have hp_ : Kd.R (Kd.int .u64) 22 w43 w.heap.size (fun k_ => some k_ ≠ (.slice (some ad1396) t1378.length co16 : Value).ownBlock ∧ some k_ ≠ (.slice Ao15 x8_2.length co15 : Value).ownBlock) (.slice (some ⟨go40, 0, none⟩) x10_2.length co19) y1403 := (by rw [hw, Ny1403.out]; exact HP42.1); clear HP42; refine sw4 ⟨Kd.R_after (v := (.slice (some ⟨go40, 0, none⟩) x10_2.length co19)) (v1 := (.slice (some ⟨go40, 0, none⟩) x10_2.length co19)) (ok := (fun k_ => some k_ ≠ (.slice Ao15 x8_2.length co15 : Value).ownBlock)) (st HO_7.out) hg (.inl rfl)⟩ ⟨Kd.R_after (v := (.slice (some ⟨go40, 0, none⟩) x10_2.length co19)) (v1 := (.slice (some ⟨go40, 0, none⟩) x10_2.length co19)) (ok := (fun k_ => some k_ ≠ (.slice (some ad1396) t1378.length co16 : Value).ownBlock)) (st HO_8.out) hg (.inl rfl)⟩ ⟨hp_⟩ ⟨(by rw [hw]; exact below_set (HB.out) GB40.out : Below w.heap.size w w43)⟩ ?_; clear HO_7 HO_8 HO_10 HB; intro HO_7 HO_8 HO_10 HB; clear hg hw hp_)) | skip)
                (try simp only [← hl8_2, ← hl10_2])
                go_roundg k2
                case measure => have := HK1.out; have := HK2.out; omega
                case rel => exact ⟨(t1400), (y1403), (wrap64 (x11_2 - 1)), (by first | rfl | (simp; done) | (simp [*]; done)), H', ⟨by have := HK1.out; have := HK2.out; omega⟩, ⟨by (try simp only [hl8_2]); (try simp only [hl10_2]); (with_reducible repeat (first | apply Kd.R_alloc | apply Kd.R_drewN | apply Kd.R_drew)); exact HO_7.out⟩, ⟨by (try simp only [hl8_2]); (try simp only [hl10_2]); (with_reducible repeat (first | apply Kd.R_alloc | apply Kd.R_drewN | apply Kd.R_drew)); exact HO_8.out⟩, ⟨by (try simp only [hl8_2]); (try simp only [hl10_2]); (with_reducible repeat (first | apply Kd.R_alloc | apply Kd.R_drewN | apply Kd.R_drew)); exact HO_10.out⟩, ⟨bb HB.out⟩⟩
               ·rw [if_neg c39] at H
                exact absurd H (by simp)
              ·rw [if_neg c38] at H
               exact absurd H (by simp)
            ·rw [if_neg c26] at H
             exact absurd H (by simp)
           ·rw [if_neg c25] at H
            exact absurd H (by simp)
          ·rw [if_neg c23] at H
           exact absurd H (by simp)
         ·rw [if_neg c22] at H
          exact absurd H (by simp)
        ·rw [if_neg c20] at H
         have c20b0 : decide (0 ≤ x11_2) = false := decide_eq_false c20
         clear c20
         obtain ⟨t1390, A44, H⟩ := bnd H
         obtain ⟨t1393, A45, H⟩ := bnd H
         simp only [Option.some.injEq, Prod.mk.injEq] at H
         obtain ⟨rfl, rfl⟩ := H
         iterate 6 (first | go_quiet (first | (go_at_call 148; (with_reducible refine (nat_Trim.calls k2 _ _ x10_2 t1390 _ ?side1 ?side2 A44.out).mono ?_); (case side1 => exact cs (Kd.R_reads' HO_10.out).2.2); (case side2 => exact (Kd.R_reads' HO_10.out).2.1); rintro e w46 ⟨v1391, rfl, ho0, hb⟩; refine sw5 ⟨Kd.R_elder' (st HO_7.out) (Kd.R_base ho0) hb⟩ ⟨Kd.R_elder' (st HO_8.out) (Kd.R_base ho0) hb⟩ ⟨Kd.R_elder' (st HO_10.out) (Kd.R_base ho0) hb⟩ ⟨Kd.R_lower (Kd.R_new' (Kd.R_new' (Kd.R_new' ho0 (Kd.R_lt (st HO_7.out))) (Kd.R_lt (st HO_8.out))) (Kd.R_lt (st HO_10.out))) (below_size (bb HB.out))⟩ ⟨below_step (bb HB.out) hb⟩ ?_; clear HO_7 HO_8 HO_10 HB; intro HO_7 HO_8 HO_10 HO1392 HB) | (go_at_call 116; (with_reducible refine (nat_Shr.calls k2 _ _ x8_2 (wrap64 ((wrap64 (64 * (l1.length : Int))) - t1377)) t1393 _ ?side1 ?side2 A45.out).mono ?_); (case side1 => exact cs (Kd.R_reads' HO_8.out).2.2); (case side2 => exact (Kd.R_reads' HO_8.out).2.1); rintro e w47 ⟨v1394, rfl, ho0, hb⟩; refine sw6 ⟨Kd.R_elder' (st HO_7.out) (Kd.R_base ho0) hb⟩ ⟨Kd.R_elder' (st HO_8.out) (Kd.R_base ho0) hb⟩ ⟨Kd.R_elder' (st HO_10.out) (Kd.R_base ho0) hb⟩ ⟨Kd.R_elder' (st HO1392.out) (Kd.R_base ho0) hb⟩ ⟨Kd.R_lower (Kd.R_new' (Kd.R_new' (Kd.R_new' (Kd.R_new' ho0 (Kd.R_lt (st HO_7.out))) (Kd.R_lt (st HO_8.out))) (Kd.R_lt (st HO_10.out))) (Kd.R_lt (st HO1392.out))) (below_size (bb HB.out))⟩ ⟨below_step (bb HB.out) hb⟩ ?_; clear HO_7 HO_8 HO_10 HO1392 HB; intro HO_7 HO_8 HO_10 HO1392 HO1395 HB)) | go_wp2_with (first | (go_at_call 148; (with_reducible refine (nat_Trim.calls k2 _ _ x10_2 t1390 _ ?side1 ?side2 A44.out).mono ?_); (case side1 => exact cs (Kd.R_reads' HO_10.out).2.2); (case side2 => exact (Kd.R_reads' HO_10.out).2.1); rintro e w46 ⟨v1391, rfl, ho0, hb⟩; refine sw5 ⟨Kd.R_elder' (st HO_7.out) (Kd.R_base ho0) hb⟩ ⟨Kd.R_elder' (st HO_8.out) (Kd.R_base ho0) hb⟩ ⟨Kd.R_elder' (st HO_10.out) (Kd.R_base ho0) hb⟩ ⟨Kd.R_lower (Kd.R_new' (Kd.R_new' (Kd.R_new' ho0 (Kd.R_lt (st HO_7.out))) (Kd.R_lt (st HO_8.out))) (Kd.R_lt (st HO_10.out))) (below_size (bb HB.out))⟩ ⟨below_step (bb HB.out) hb⟩ ?_; clear HO_7 HO_8 HO_10 HB; intro HO_7 HO_8 HO_10 HO1392 HB) | (go_at_call 116; (with_reducible refine (nat_Shr.calls k2 _ _ x8_2 (wrap64 ((wrap64 (64 * (l1.length : Int))) - t1377)) t1393 _ ?side1 ?side2 A45.out).mono ?_); (case side1 => exact cs (Kd.R_reads' HO_8.out).2.2); (case side2 => exact (Kd.R_reads' HO_8.out).2.1); rintro e w47 ⟨v1394, rfl, ho0, hb⟩; refine sw6 ⟨Kd.R_elder' (st HO_7.out) (Kd.R_base ho0) hb⟩ ⟨Kd.R_elder' (st HO_8.out) (Kd.R_base ho0) hb⟩ ⟨Kd.R_elder' (st HO_10.out) (Kd.R_base ho0) hb⟩ ⟨Kd.R_elder' (st HO1392.out) (Kd.R_base ho0) hb⟩ ⟨Kd.R_lower (Kd.R_new' (Kd.R_new' (Kd.R_new' (Kd.R_new' ho0 (Kd.R_lt (st HO_7.out))) (Kd.R_lt (st HO_8.out))) (Kd.R_lt (st HO_10.out))) (Kd.R_lt (st HO1392.out))) (below_size (bb HB.out))⟩ ⟨below_step (bb HB.out) hb⟩ ?_; clear HO_7 HO_8 HO_10 HO1392 HB; intro HO_7 HO_8 HO_10 HO1392 HO1395 HB)) | skip)
         go_ret2
         exact ⟨_, _, by first | rfl | (simp [errW_none, errW_some] <;> rfl) | (simp only [← hji12]; first | rfl | (simp [errW_none, errW_some] <;> rfl)) | (simp [*, errW_none, errW_some] <;> rfl), by (with_reducible repeat (first | apply Kd.R_alloc | apply Kd.R_drewN | apply Kd.R_drew)); exact Kd.R_mono HO1392.out (fun _ hk => hk.2), by (with_reducible repeat (first | apply Kd.R_alloc | apply Kd.R_drewN | apply Kd.R_drew)); exact Kd.R_mono HO1395.out (fun _ hk => hk.2), hbb⟩
     ·rw [if_neg c14] at H
      exact absurd H (by simp)
    ·rw [if_neg c13] at H
     exact absurd H (by simp)

def quot_Div.f (k : Nat) (l0 : List Int) (l1 : List Int) : Option (List Int × List Int × Bool) := (nat_Trim.f k l0).bind fun t1404 => ((nat_Trim.f k l1).bind fun t1407 => (if (t1407.length : Int) = 0 then (some (([] : List Int), ([] : List Int), false)) else ((nat_Cmp.f k t1404 t1407).bind fun t1410 => (if t1410 < 0 then (some (([] : List Int), t1404, true)) else (if (t1407.length : Int) = 1 then (if 0 < (t1407.length : Int) then ((quot_Word.f k t1404 (rd t1407 0)).bind fun bt1412 => ((nat_Of.f k bt1412.2.1).bind fun t1417 => (some (bt1412.1, t1417, true)))) else (none)) else ((quot_long.f k t1404 t1407).bind fun bt1420 => (some (bt1420.1, bt1420.2, true))))))))
set_option maxHeartbeats 8000000 in
set_option maxRecDepth 100000 in
theorem quot_Div.calls (k : Nat) (A0 : Option Addr) (c0 : Nat) (l0 : List Int) (A1 : Option Addr) (c1 : Nat) (l1 : List Int) (r1 : List Int) (r2 : List Int) (r3 : Bool) (w : World) (hr0 : Kd.C (Kd.int .u64) w A0 l0.length l0) (hc0 : l0.length ≤ c0) (hr1 : Kd.C (Kd.int .u64) w A1 l1.length l1) (hc1 : l1.length ≤ c1) (h : quot_Div.f k l0 l1 = some (r1, r2, r3)) :
  Calls Try.prog 133 #[.slice A0 l0.length c0, .slice A1 l1.length c1] w fun e w' => ∃ v0_ v1_ : Value, e = .returned (.tuple #[v0_, v1_, .bool r3]) ∧ Kd.R (Kd.int .u64) 22 w' w.heap.size (fun k_ => some k_ ≠ (v1_ : Value).ownBlock) v0_ r1 ∧ Kd.R (Kd.int .u64) 22 w' w.heap.size (fun k_ => some k_ ≠ (v0_ : Value).ownBlock) v1_ r2 ∧ Below w.heap.size w w' := by
 have HR0 := Aside0.mk hr0
 have HC0 := Aside0.mk hc0
 clear hr0 hc0
 have HR1 := Aside0.mk hr1
 have HC1 := Aside0.mk hc1
 clear hr1 hc1
 have HB := Aside0.mk (Below.refl w.heap.size w)
 have H := h
 clear h
 unfold quot_Div.f at H
 obtain ⟨t1404, A3, H⟩ := bnd H
 obtain ⟨t1407, A4, H⟩ := bnd H
 by_cases c5 : (t1407.length : Int) = 0
 ·rw [if_pos c5] at H
  have c5b0 : ((t1407.length : Int) == 0) = true := beq_iff_eq.mpr c5
  have c5b1 : ((t1407.length : Int) != 0) = false := bne_eq_false_iff_eq.mpr c5
  clear c5
  simp only [Option.some.injEq, Prod.mk.injEq] at H
  obtain ⟨rfl, rfl, rfl⟩ := H
  go_enter Try.func133, Try.ntmps133
  go_wp2_with (first | ((with_reducible refine gate_callee (f := 148) rfl ?_); refine goesL_ (some 13) rfl rfl Try.func148 (by kernel_rfl) rfl #[.slice A0 l0.length c0] rfl lx ?_; (with_reducible refine (nat_Trim.calls k _ _ l0 t1404 _ ?side1 ?side2 A3.out).mono ?_); (case side1 => exact cs HR0.out); (case side2 => exact HC0.out); rintro e w6 ⟨v1405, rfl, ho0, hb⟩; refine ⟨_, rfl, ?_⟩; refine sw2 ⟨Kd.R_lower ho0 (below_size (bb HB.out))⟩ ⟨below_step (bb HB.out) hb⟩ ?_; clear HB; intro HO1406 HB) | ((with_reducible refine gate_callee (f := 148) rfl ?_); refine goesL_ (some 15) rfl rfl Try.func148 (by kernel_rfl) rfl #[.slice A1 l1.length c1] rfl lx ?_; (with_reducible refine (nat_Trim.calls k _ _ l1 t1407 _ ?side1 ?side2 A4.out).mono ?_); (case side1 => exact cs (Kd.C_below HR1.out HB.out)); (case side2 => exact HC1.out); rintro e w7 ⟨v1408, rfl, ho0, hb⟩; refine ⟨_, rfl, ?_⟩; refine sw3 ⟨Kd.R_elder' (st HO1406.out) (Kd.R_base ho0) hb⟩ ⟨Kd.R_lower (Kd.R_new' ho0 (Kd.R_lt (st HO1406.out))) (below_size (bb HB.out))⟩ ⟨below_step (bb HB.out) hb⟩ ?_; clear HO1406 HB; intro HO1406 HO1409 HB; obtain ⟨Ao8, co8, eo8⟩ := Kd.R_slice HO1409.out; subst eo8))
  go_ret3
  exact ⟨_, _, by first | rfl | (simp [errW_none, errW_some] <;> rfl) | (simp [*, errW_none, errW_some] <;> rfl), by first | exact Kd.R_nil _ _ _ _ _ | exact Kd.N_nil _ _ _ _ _ | exact Kd.V_nil _ _ _ _ _ | exact Kd.Q_nil _ _ _ _ _ | exact Kd.S_nil _ _ _ _ _, by first | exact Kd.R_nil _ _ _ _ _ | exact Kd.N_nil _ _ _ _ _ | exact Kd.V_nil _ _ _ _ _ | exact Kd.Q_nil _ _ _ _ _ | exact Kd.S_nil _ _ _ _ _, hbb⟩
 ·rw [if_neg c5] at H
  have c5b0 : ((t1407.length : Int) == 0) = false := beq_eq_false_iff_ne.mpr c5
  have c5b1 : ((t1407.length : Int) != 0) = true := bne_iff_ne.mpr c5
  have c5b2 : ¬ (t1407 = []) := fun h_ => c5 (by rw [h_]; rfl)
  obtain ⟨t1410, A9, H⟩ := bnd H
  by_cases c10 : t1410 < 0
  ·rw [if_pos c10] at H
   have c10b0 : decide (t1410 < 0) = true := decide_eq_true c10
   clear c10
   simp only [Option.some.injEq, Prod.mk.injEq] at H
   obtain ⟨rfl, rfl, rfl⟩ := H
   go_enter Try.func133, Try.ntmps133
   go_wp2_with (first | ((with_reducible refine gate_callee (f := 148) rfl ?_); refine goesL_ (some 13) rfl rfl Try.func148 (by kernel_rfl) rfl #[.slice A0 l0.length c0] rfl lx ?_; (with_reducible refine (nat_Trim.calls k _ _ l0 t1404 _ ?side1 ?side2 A3.out).mono ?_); (case side1 => exact cs HR0.out); (case side2 => exact HC0.out); rintro e w11 ⟨v1405, rfl, ho0, hb⟩; refine ⟨_, rfl, ?_⟩; refine sw2 ⟨Kd.R_lower ho0 (below_size (bb HB.out))⟩ ⟨below_step (bb HB.out) hb⟩ ?_; clear HB; intro HO1406 HB) | ((with_reducible refine gate_callee (f := 148) rfl ?_); refine goesL_ (some 15) rfl rfl Try.func148 (by kernel_rfl) rfl #[.slice A1 l1.length c1] rfl lx ?_; (with_reducible refine (nat_Trim.calls k _ _ l1 t1407 _ ?side1 ?side2 A4.out).mono ?_); (case side1 => exact cs (Kd.C_below HR1.out HB.out)); (case side2 => exact HC1.out); rintro e w12 ⟨v1408, rfl, ho0, hb⟩; refine ⟨_, rfl, ?_⟩; refine sw3 ⟨Kd.R_elder' (st HO1406.out) (Kd.R_base ho0) hb⟩ ⟨Kd.R_lower (Kd.R_new' ho0 (Kd.R_lt (st HO1406.out))) (below_size (bb HB.out))⟩ ⟨below_step (bb HB.out) hb⟩ ?_; clear HO1406 HB; intro HO1406 HO1409 HB; obtain ⟨Ao13, co13, eo13⟩ := Kd.R_slice HO1409.out; subst eo13; obtain ⟨Ao14, co14, eo14⟩ := Kd.R_slice HO1406.out; subst eo14) | ((with_reducible refine gate_callee (f := 153) rfl ?_); refine goesL_ (some 21) rfl rfl Try.func153 (by kernel_rfl) rfl #[.slice Ao14 t1404.length co14, .slice Ao13 t1407.length co13] rfl lx ?_; (with_reducible refine (nat_Cmp.calls k _ _ t1404 _ _ t1407 t1410 _ ?side1 ?side2 ?side3 ?side4 A9.out).mono ?_); (case side1 => exact cs (Kd.R_reads' HO1406.out).2.2); (case side2 => exact (Kd.R_reads' HO1406.out).2.1); (case side3 => exact cs (Kd.R_reads' HO1409.out).2.2); (case side4 => exact (Kd.R_reads' HO1409.out).2.1); rintro e w' ⟨rfl, ⟨nd, rfl⟩⟩; refine ⟨_, rfl, ?_⟩))
   go_ret3
   exact ⟨_, _, by first | rfl | (simp [errW_none, errW_some] <;> rfl) | (simp [*, errW_none, errW_some] <;> rfl), by first | exact Kd.R_nil _ _ _ _ _ | exact Kd.N_nil _ _ _ _ _ | exact Kd.V_nil _ _ _ _ _ | exact Kd.Q_nil _ _ _ _ _ | exact Kd.S_nil _ _ _ _ _, by (with_reducible repeat (first | apply Kd.R_alloc | apply Kd.R_drewN | apply Kd.R_drew)); exact Kd.R_mono HO1406.out (fun _ hk => (by simp [Value.ownBlock])), hbb⟩
  ·rw [if_neg c10] at H
   have c10b0 : decide (t1410 < 0) = false := decide_eq_false c10
   clear c10
   by_cases c15 : (t1407.length : Int) = 1
   ·rw [if_pos c15] at H
    have c15b0 : ((t1407.length : Int) == 1) = true := beq_iff_eq.mpr c15
    have c15b1 : ((t1407.length : Int) != 1) = false := bne_eq_false_iff_eq.mpr c15
    clear c15
    by_cases c16 : 0 < (t1407.length : Int)
    ·rw [if_pos c16] at H
     have c16b0 : decide (0 < (t1407.length : Int)) = true := decide_eq_true c16
     have c16b1 : decide (0 < t1407.length) = true := decide_eq_true (by omega)
     clear c16
     obtain ⟨⟨t1412, t1413, t1414⟩, A17, H⟩ := bnd H
     dsimp only at H
     obtain ⟨t1417, A18, H⟩ := bnd H
     simp only [Option.some.injEq, Prod.mk.injEq] at H
     obtain ⟨rfl, rfl, rfl⟩ := H
     go_enter Try.func133, Try.ntmps133
     go_wp2_with (first | ((with_reducible refine gate_callee (f := 148) rfl ?_); refine goesL_ (some 13) rfl rfl Try.func148 (by kernel_rfl) rfl #[.slice A0 l0.length c0] rfl lx ?_; (with_reducible refine (nat_Trim.calls k _ _ l0 t1404 _ ?side1 ?side2 A3.out).mono ?_); (case side1 => exact cs HR0.out); (case side2 => exact HC0.out); rintro e w19 ⟨v1405, rfl, ho0, hb⟩; refine ⟨_, rfl, ?_⟩; refine sw2 ⟨Kd.R_lower ho0 (below_size (bb HB.out))⟩ ⟨below_step (bb HB.out) hb⟩ ?_; clear HB; intro HO1406 HB) | ((with_reducible refine gate_callee (f := 148) rfl ?_); refine goesL_ (some 15) rfl rfl Try.func148 (by kernel_rfl) rfl #[.slice A1 l1.length c1] rfl lx ?_; (with_reducible refine (nat_Trim.calls k _ _ l1 t1407 _ ?side1 ?side2 A4.out).mono ?_); (case side1 => exact cs (Kd.C_below HR1.out HB.out)); (case side2 => exact HC1.out); rintro e w20 ⟨v1408, rfl, ho0, hb⟩; refine ⟨_, rfl, ?_⟩; refine sw3 ⟨Kd.R_elder' (st HO1406.out) (Kd.R_base ho0) hb⟩ ⟨Kd.R_lower (Kd.R_new' ho0 (Kd.R_lt (st HO1406.out))) (below_size (bb HB.out))⟩ ⟨below_step (bb HB.out) hb⟩ ?_; clear HO1406 HB; intro HO1406 HO1409 HB; obtain ⟨Ao21, co21, eo21⟩ := Kd.R_slice HO1409.out; subst eo21; obtain ⟨Ao22, co22, eo22⟩ := Kd.R_slice HO1406.out; subst eo22) | ((with_reducible refine gate_callee (f := 153) rfl ?_); refine goesL_ (some 21) rfl rfl Try.func153 (by kernel_rfl) rfl #[.slice Ao22 t1404.length co22, .slice Ao21 t1407.length co21] rfl lx ?_; (with_reducible refine (nat_Cmp.calls k _ _ t1404 _ _ t1407 t1410 _ ?side1 ?side2 ?side3 ?side4 A9.out).mono ?_); (case side1 => exact cs (Kd.R_reads' HO1406.out).2.2); (case side2 => exact (Kd.R_reads' HO1406.out).2.1); (case side3 => exact cs (Kd.R_reads' HO1409.out).2.2); (case side4 => exact (Kd.R_reads' HO1409.out).2.1); rintro e w' ⟨rfl, ⟨nd, rfl⟩⟩; refine ⟨_, rfl, ?_⟩; have p1411 : 0 ≤ (0 : Int) := (by omega); have q1411 : 0 < (t1407.length : Int) := of_decide_eq_true (by first | (with_reducible assumption) | assumption); obtain ⟨ad1411, e1411, hx1411_0⟩ := Kd.at_int (Kd.R_reads' HO1409.out).2.2 0 p1411 q1411; cases e1411; have qi1411 : (0 < t1407.length) = True := eq_true (by omega); (try rw [show ((0 : Int)).toNat = 0 from rfl] at hx1411_0); (try rw [Addr.add_zero'] at hx1411_0); replace p1411 := eq_true p1411; replace q1411 := eq_true q1411) | ((with_reducible refine gate_callee (f := 154) rfl ?_); refine goesL_ (some 32) rfl rfl Try.func154 (by kernel_rfl) rfl #[.slice Ao22 t1404.length co22, .int .u64 (rd t1407 0)] rfl lx ?_; (with_reducible refine (quot_Word.calls k _ _ t1404 (rd t1407 0) t1412 t1413 t1414 _ ?side1 ?side2 A17.out).mono ?_); (case side1 => exact cs (Kd.R_reads' HO1406.out).2.2); (case side2 => exact (Kd.R_reads' HO1406.out).2.1); rintro e w23 ⟨v1415, rfl, ho0, hb⟩; refine ⟨_, rfl, ?_⟩; refine sw4 ⟨Kd.R_elder' (st HO1406.out) (Kd.R_base ho0) hb⟩ ⟨Kd.R_elder' (st HO1409.out) (Kd.R_base ho0) hb⟩ ⟨Kd.R_lower (Kd.R_new' (Kd.R_new' ho0 (Kd.R_lt (st HO1406.out))) (Kd.R_lt (st HO1409.out))) (below_size (bb HB.out))⟩ ⟨below_step (bb HB.out) hb⟩ ?_; clear HO1406 HO1409 HB; intro HO1406 HO1409 HO1416 HB) | ((with_reducible refine gate_callee (f := 113) rfl ?_); refine goesL_ (some 38) rfl rfl Try.func113 (by kernel_rfl) rfl #[.int .u64 t1413] rfl lx ?_; (with_reducible refine (nat_Of.calls k t1413 t1417 _ A18.out).mono ?_); rintro e w24 ⟨v1418, rfl, ho0, hb⟩; refine ⟨_, rfl, ?_⟩; refine sw5 ⟨Kd.R_elder' (st HO1406.out) (Kd.R_base ho0) hb⟩ ⟨Kd.R_elder' (st HO1409.out) (Kd.R_base ho0) hb⟩ ⟨Kd.R_elder' (st HO1416.out) (Kd.R_base ho0) hb⟩ ⟨Kd.R_lower (Kd.R_new' (Kd.R_new' (Kd.R_new' ho0 (Kd.R_lt (st HO1406.out))) (Kd.R_lt (st HO1409.out))) (Kd.R_lt (st HO1416.out))) (below_size (bb HB.out))⟩ ⟨below_step (bb HB.out) hb⟩ ?_; clear HO1406 HO1409 HO1416 HB; intro HO1406 HO1409 HO1416 HO1419 HB))
     go_ret3
     exact ⟨_, _, by first | rfl | (simp [errW_none, errW_some] <;> rfl) | (simp [*, errW_none, errW_some] <;> rfl), by (with_reducible repeat (first | apply Kd.R_alloc | apply Kd.R_drewN | apply Kd.R_drew)); exact Kd.R_mono HO1416.out (fun _ hk => hk.2), by (with_reducible repeat (first | apply Kd.R_alloc | apply Kd.R_drewN | apply Kd.R_drew)); exact Kd.R_mono HO1419.out (fun _ hk => hk.2), hbb⟩
    ·rw [if_neg c16] at H
     exact absurd H (by simp)
   ·rw [if_neg c15] at H
    have c15b0 : ((t1407.length : Int) == 1) = false := beq_eq_false_iff_ne.mpr c15
    have c15b1 : ((t1407.length : Int) != 1) = true := bne_iff_ne.mpr c15
    obtain ⟨⟨t1420, t1421⟩, A25, H⟩ := bnd H
    dsimp only at H
    simp only [Option.some.injEq, Prod.mk.injEq] at H
    obtain ⟨rfl, rfl, rfl⟩ := H
    go_enter Try.func133, Try.ntmps133
    go_wp2_with (first | ((with_reducible refine gate_callee (f := 148) rfl ?_); refine goesL_ (some 13) rfl rfl Try.func148 (by kernel_rfl) rfl #[.slice A0 l0.length c0] rfl lx ?_; (with_reducible refine (nat_Trim.calls k _ _ l0 t1404 _ ?side1 ?side2 A3.out).mono ?_); (case side1 => exact cs HR0.out); (case side2 => exact HC0.out); rintro e w26 ⟨v1405, rfl, ho0, hb⟩; refine ⟨_, rfl, ?_⟩; refine sw2 ⟨Kd.R_lower ho0 (below_size (bb HB.out))⟩ ⟨below_step (bb HB.out) hb⟩ ?_; clear HB; intro HO1406 HB) | ((with_reducible refine gate_callee (f := 148) rfl ?_); refine goesL_ (some 15) rfl rfl Try.func148 (by kernel_rfl) rfl #[.slice A1 l1.length c1] rfl lx ?_; (with_reducible refine (nat_Trim.calls k _ _ l1 t1407 _ ?side1 ?side2 A4.out).mono ?_); (case side1 => exact cs (Kd.C_below HR1.out HB.out)); (case side2 => exact HC1.out); rintro e w27 ⟨v1408, rfl, ho0, hb⟩; refine ⟨_, rfl, ?_⟩; refine sw3 ⟨Kd.R_elder' (st HO1406.out) (Kd.R_base ho0) hb⟩ ⟨Kd.R_lower (Kd.R_new' ho0 (Kd.R_lt (st HO1406.out))) (below_size (bb HB.out))⟩ ⟨below_step (bb HB.out) hb⟩ ?_; clear HO1406 HB; intro HO1406 HO1409 HB; obtain ⟨Ao28, co28, eo28⟩ := Kd.R_slice HO1409.out; subst eo28; obtain ⟨Ao29, co29, eo29⟩ := Kd.R_slice HO1406.out; subst eo29) | ((with_reducible refine gate_callee (f := 153) rfl ?_); refine goesL_ (some 21) rfl rfl Try.func153 (by kernel_rfl) rfl #[.slice Ao29 t1404.length co29, .slice Ao28 t1407.length co28] rfl lx ?_; (with_reducible refine (nat_Cmp.calls k _ _ t1404 _ _ t1407 t1410 _ ?side1 ?side2 ?side3 ?side4 A9.out).mono ?_); (case side1 => exact cs (Kd.R_reads' HO1406.out).2.2); (case side2 => exact (Kd.R_reads' HO1406.out).2.1); (case side3 => exact cs (Kd.R_reads' HO1409.out).2.2); (case side4 => exact (Kd.R_reads' HO1409.out).2.1); rintro e w' ⟨rfl, ⟨nd, rfl⟩⟩; refine ⟨_, rfl, ?_⟩) | ((with_reducible refine gate_callee (f := 155) rfl ?_); refine goesL_ (some 42) rfl rfl Try.func155 (by kernel_rfl) rfl #[.slice Ao29 t1404.length co29, .slice Ao28 t1407.length co28] rfl lx ?_; (with_reducible refine (quot_long.calls k _ _ t1404 _ _ t1407 t1420 t1421 _ ?side1 ?side2 ?side3 ?side4 A25.out).mono ?_); (case side1 => exact cs (Kd.R_reads' HO1406.out).2.2); (case side2 => exact (Kd.R_reads' HO1406.out).2.1); (case side3 => exact cs (Kd.R_reads' HO1409.out).2.2); (case side4 => exact (Kd.R_reads' HO1409.out).2.1); rintro e w30 ⟨v1422, v1424, rfl, ho0, ho1, hb⟩; refine ⟨_, rfl, ?_⟩; refine sw5 ⟨Kd.R_mono (Kd.R_told (Kd.R_told (Kd.R_old (st HO1406.out) hb) (Kd.R_base ho0)) (Kd.R_base ho1)) (fun _ h_ => h_.1)⟩ ⟨Kd.R_mono (Kd.R_told (Kd.R_told (Kd.R_old (st HO1409.out) hb) (Kd.R_base ho0)) (Kd.R_base ho1)) (fun _ h_ => h_.1)⟩ ⟨Kd.R_lower (Kd.R_new' (Kd.R_new' ho0 (Kd.R_lt (st HO1406.out))) (Kd.R_lt (st HO1409.out))) (below_size (bb HB.out))⟩ ⟨Kd.R_lower (Kd.R_new' (Kd.R_new' ho1 (Kd.R_lt (st HO1406.out))) (Kd.R_lt (st HO1409.out))) (below_size (bb HB.out))⟩ ⟨below_step (bb HB.out) hb⟩ ?_; clear HO1406 HO1409 HB; intro HO1406 HO1409 HO1423 HO1425 HB))
    go_ret3
    exact ⟨_, _, by first | rfl | (simp [errW_none, errW_some] <;> rfl) | (simp [*, errW_none, errW_some] <;> rfl), by (with_reducible repeat (first | apply Kd.R_alloc | apply Kd.R_drewN | apply Kd.R_drew)); exact Kd.R_mono HO1423.out (fun _ hk => hk.1.1), by (with_reducible repeat (first | apply Kd.R_alloc | apply Kd.R_drewN | apply Kd.R_drew)); exact Kd.R_mono HO1425.out (fun _ hk => hk.1.1), hbb⟩

end Go.Proofs.Ytbpggonjcnakgaa.P
