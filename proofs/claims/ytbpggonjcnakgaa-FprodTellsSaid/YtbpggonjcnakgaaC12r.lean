/- What the reference's functions of fprod answer. -/
import Derived.Test.YtbpggonjcnakgaaC10r
import Derived.Test.YtbpggonjcnakgaaC03q
import Derived.Test.YtbpggonjcnakgaaM13
import Derived.Test.YtbpggonjcnakgaaC12
import Derived.Test.YtbpggonjcnakgaaBgradineref12
namespace Go.Proofs.Ytbpggonjcnakgaa.M
open Go.RowKit Go.Proofs.Ytbpggonjcnakgaa.P Go.Proofs.YtbpggonjcnakgaaW.PrintWords Go.Proofs.YtbpggonjcnakgaaW.PrintLast Go.Proofs.YtbpggonjcnakgaaW.PrintMore
set_option linter.unusedVariables false

theorem ref12_Mul_c {a b : Int} (ha : U a) (hb : U b) : Ev (fun k => gradineref12_Mul.f k a b) (fmul a b) := by
  refine Ev.bindc (ref09_Kind_c ha) (Ev.bindc (ref09_Kind_c hb) (Ev.bindc (ref09_Neg_c ha) (Ev.bindc (ref09_Neg_c hb) ?_)))
  have eb : (!(fs a == fs b)) = (fs a != fs b) := rfl
  rw [eb]
  generalize hneg : (fs a != fs b) = neg
  have hF : fmul a b = if fk a = 4 ∨ fk b = 4 ∨ (fk a = 3 ∧ fk b = 0) ∨ (fk a = 0 ∧ fk b = 3) then NAN else if fk a = 3 ∨ fk b = 3 then sgn neg INF else sgn neg (Rd (pm a * pm b) (pe a + pe b)) := by
    unfold fmul
    rw [hneg]
  have j1 : ∀ t : Bool, ¬ (fk a = 4 ∨ fk b = 4 ∨ (fk a = 3 ∧ fk b = 0) ∨ (fk a = 0 ∧ fk b = 3)) → (t = true ↔ (fk a = 3 ∨ fk b = 3)) → Ev (fun k => gradineref12_Mul.j1 k a b neg t) (fmul a b) := by
    intro t h4 ht
    refine Ev.step (fun k => gradineref12_Mul.j1.eq_2 ..) ?_
    rw [hF, if_neg h4]
    by_cases h : fk a = 3 ∨ fk b = 3
    · rw [if_pos h]
      exact Ev.ifp (ht.2 h) (Ev.bindc (ref09_Inf_c neg) (Ev.same rfl))
    · rw [if_neg h]
      refine Ev.ifn (fun k => h (ht.1 k)) (Ev.bindc (ref09_Parts_c ha) (Ev.bindc (ref09_Parts_c hb) ?_))
      have a1 := pm_range a
      have a2 := pe_range a
      have b1 := pm_range b
      have b2 := pe_range b
      have a3 : -1074 ≤ pe a ∧ pe a ≤ 972 := ⟨a2.1, a2.2.1⟩
      have b3 : -1074 ≤ pe b ∧ pe b ≤ 972 := ⟨b2.1, b2.2.1⟩
      clear a2 b2 hF h4 ht h
      dsimp only
      generalize pm a = m at *
      generalize pm b = n at *
      generalize pe a = e at *
      generalize pe b = f at *
      have M := ref03_Mul_c (a := [m]) (b := [n]) ⟨Ws_one (by unfold U; omega), by simp⟩ ⟨Ws_one (by unfold U; omega), by simp⟩ (by simp) (by simp)
      rw [nv_one, nv_one] at M
      have hP0 : 0 ≤ m * n := Int.mul_nonneg a1.1 b1.1
      have bP := bl_mul a1.1 b1.1
      have ba : bl m ≤ 53 := bl_le_of (n := 53) (by omega)
      have bb : bl n ≤ 53 := bl_le_of (n := 53) (by omega)
      have lP := dg_len_bl (m * n)
      refine Ev.bind M ?_
      rw [w64_id (n := e + f) (by omega) (by omega)]
      have O := ref10_Of_c neg (l := dg (m * n)) (Wl_dg (by omega)) (by omega) (e := e + f) (by omega) (by omega)
      rw [nv_dg hP0] at O
      exact Ev.bind O (Ev.same rfl)
  have j0 : ∀ t : Bool, (t = true ↔ (fk a = 4 ∨ fk b = 4 ∨ (fk a = 3 ∧ fk b = 0) ∨ (fk a = 0 ∧ fk b = 3))) → Ev (fun k => gradineref12_Mul.j0 k a b (fk a) (fk b) neg t) (fmul a b) := by
    intro t ht
    refine Ev.step (fun k => gradineref12_Mul.j0.eq_2 ..) ?_
    by_cases h : fk a = 4 ∨ fk b = 4 ∨ (fk a = 3 ∧ fk b = 0) ∨ (fk a = 0 ∧ fk b = 3)
    · refine Ev.ifp (ht.2 h) (Ev.bindc ref09_Nan_c (Ev.same ?_))
      rw [hF, if_pos h]
    · refine Ev.ifn (fun k => h (ht.1 k)) ?_
      by_cases h3 : fk a = 3
      · exact Ev.ifp h3 (j1 _ h (by simp [h3]))
      · exact Ev.ifn h3 (j1 _ h (by simp [h3]))
  by_cases h : fk a = 4
  · exact Ev.ifp h (j0 _ (by simp [h]))
  · refine Ev.ifn h ?_
    by_cases h2 : fk b = 4
    · exact Ev.ifp h2 (j0 _ (by simp [h2]))
    · refine Ev.ifn h2 ?_
      by_cases h3 : fk a = 3
      · refine Ev.ifp h3 ?_
        by_cases h5 : fk b = 0
        · exact Ev.ifp h5 (j0 _ (by simp [h3, h5]))
        · refine Ev.ifn h5 (Ev.ifn (by omega) (j0 _ (by simp; omega)))
      · refine Ev.ifn h3 ?_
        by_cases h5 : fk a = 0
        · exact Ev.ifp h5 (j0 _ (by simp; omega))
        · exact Ev.ifn h5 (j0 _ (by simp; omega))

/-! ### Quotients -/
theorem ref12_Div_l1 {m n E f : Int} (neg : Bool) (hm0 : 4503599627370496 ≤ m) (hm1 : m < 9007199254740992) (d : Nat) : ∀ n f : Int, 0 < n → bl n + d = 53 → -2000 ≤ E → E ≤ 2000 → -2000 ≤ f - d → f ≤ 2000 →
    Ev (fun k => gradineref12_Div.l1 k neg m E n f) (sgn neg (if m * 1024 * 18446744073709551616 % (n * 2 ^ (64 - bl n).toNat) = 0 then Rd (m * 1024 * 18446744073709551616 / (n * 2 ^ (64 - bl n).toNat)) (E - (f - d) - 63) else Rd (2 * (m * 1024 * 18446744073709551616 / (n * 2 ^ (64 - bl n).toNat)) + 1) (E - (f - d) - 64))) := by
  induction d with
  | zero =>
    intro n f hn hb h1 h2 h3 h4
    have l1 := bl_lt n
    have l2 := bl_le hn
    rw [show bl n = 53 by omega] at l1 l2 ⊢
    rw [show (53 : Int).toNat = 53 from rfl] at l1
    rw [show ((53 : Int) - 1).toNat = 52 from rfl] at l2
    rw [show ((64 : Int) - 53).toNat = 11 from rfl, show (2 : Int) ^ 11 = 2048 from rfl, show f - ((0 : Nat) : Int) = f by omega]
    refine Ev.step (fun k => gradineref12_Div.l1.eq_2 ..) (Ev.ifn (by omega) ?_)
    rw [wu_id (n := m * 1024) (by omega) (by omega), wu_id (n := n * 2048) (by omega) (by omega)]
    have D := ref01_Div_c (hi := m * 1024) (lo := 0) (d := n * 2048) (by omega) (by omega) (by omega) (by unfold U; omega)
    rw [Int.add_zero] at D
    have q0 : 4611686018427387904 ≤ m * 1024 * 18446744073709551616 / (n * 2048) := by rw [Int.le_ediv_iff_mul_le (by omega)]; omega
    have q1 : m * 1024 * 18446744073709551616 / (n * 2048) < 18446744073709551616 := by rw [Int.ediv_lt_iff_lt_mul (by omega)]; omega
    have r0 := Int.emod_nonneg (m * 1024 * 18446744073709551616) (show n * 2048 ≠ 0 by omega)
    refine Ev.bind D ?_
    dsimp only
    generalize m * 1024 * 18446744073709551616 / (n * 2048) = q at *
    generalize m * 1024 * 18446744073709551616 % (n * 2048) = r at *
    rw [w64_id (n := E - f) (by omega) (by omega), w64_id (n := E - f - 63) (by omega) (by omega)]
    have M := ref10_More_c neg (l := [q]) ⟨Ws_one (by unfold U; omega), by simp⟩ (by simp) (E - f - 63) (decide (r > 0))
    rw [nv_one, ce_id (by omega) (by omega)] at M
    refine Ev.bind M (Ev.same ?_)
    by_cases hr : r = 0
    · rw [if_pos hr, decide_eq_false (by omega)]
      rfl
    · rw [if_neg hr, decide_eq_true (by omega)]
      rw [show E - f - 64 = E - f - 63 - 1 by omega]
      rfl
  | succ d ih =>
    intro n f hn hb h1 h2 h3 h4
    have l1 := bl_lt n
    have hlt : n < 2 ^ 52 := by
      have := pow_le_pow (a := (bl n).toNat) (b := 52) (by omega)
      omega
    have hs := bl_shl hn 1
    rw [Int.pow_one] at hs
    refine Ev.step (fun k => gradineref12_Div.l1.eq_2 ..) (Ev.ifp (by omega) ?_)
    rw [wu_id (n := n * 2) (by omega) (by omega), w64_id (n := f - 1) (by omega) (by omega)]
    have := ih (n * 2) (f - 1) (by omega) (by omega) h1 h2 (by omega) (by omega)
    have e1 : n * 2 * 2 ^ (64 - bl (n * 2)).toNat = n * 2 ^ (64 - bl n).toNat := by
      rw [hs, show (64 - bl n).toNat = 1 + (64 - (bl n + ((1 : Nat) : Int))).toNat by omega, Int.pow_add, Int.mul_assoc]
      rfl
    rw [e1, show f - 1 - (d : Int) = f - ((d + 1 : Nat) : Int) by omega] at this
    exact this
theorem ref12_Div_l0 {n f : Int} (neg : Bool) (hn0 : 0 < n) (hn1 : n < 9007199254740992) (hf0 : -1074 ≤ f) (hf1 : f ≤ 1000) (d : Nat) : ∀ m e : Int, 0 < m → bl m + d = 53 → -2000 ≤ e - d → e ≤ 1000 →
    Ev (fun k => gradineref12_Div.l0 k neg m e n f) (sgn neg (qd m e n f)) := by
  have bn1 := bl_pos hn0
  have bn : bl n ≤ 53 := bl_le_of (n := 53) (by omega)
  induction d with
  | zero =>
    intro m e hm hb h1 h2
    have l1 := bl_lt m
    have l2 := bl_le hm
    rw [show bl m = 53 by omega] at l1 l2
    rw [show (53 : Int).toNat = 53 from rfl] at l1
    rw [show ((53 : Int) - 1).toNat = 52 from rfl] at l2
    refine Ev.step (fun k => gradineref12_Div.l0.eq_2 ..) (Ev.ifn (by omega) ?_)
    have L := ref12_Div_l1 (m := m) (n := n) (E := e) (f := f) neg (by omega) (by omega) (53 - bl n).toNat n f hn0 (by omega) (by omega) (by omega) (by omega) (by omega)
    refine L.eqr ?_
    unfold qd
    rw [show bl m = 53 by omega, show ((63 : Int) - 53).toNat = 10 from rfl, show (2 : Int) ^ 10 = 1024 from rfl]
    rw [show e - (f - ((53 - bl n).toNat : Int)) - 63 = e - f + 53 - bl n - 63 by omega, show e - (f - ((53 - bl n).toNat : Int)) - 64 = e - f + 53 - bl n - 64 by omega]
  | succ d ih =>
    intro m e hm hb h1 h2
    have l1 := bl_lt m
    have hlt : m < 2 ^ 52 := by
      have := pow_le_pow (a := (bl m).toNat) (b := 52) (by omega)
      omega
    have hs := bl_shl hm 1
    rw [Int.pow_one] at hs
    refine Ev.step (fun k => gradineref12_Div.l0.eq_2 ..) (Ev.ifp (by omega) ?_)
    rw [wu_id (n := m * 2) (by omega) (by omega), w64_id (n := e - 1) (by omega) (by omega)]
    refine (ih (m * 2) (e - 1) (by omega) (by omega) (by omega) (by omega)).eqr ?_
    unfold qd
    have e1 : m * 2 * 2 ^ (63 - bl (m * 2)).toNat = m * 2 ^ (63 - bl m).toNat := by
      rw [hs, show (63 - bl m).toNat = 1 + (63 - (bl m + ((1 : Nat) : Int))).toNat by omega, Int.pow_add, Int.mul_assoc]
      rfl
    rw [e1, show e - 1 - f + bl (m * 2) - bl n - 63 = e - f + bl m - bl n - 63 by omega, show e - 1 - f + bl (m * 2) - bl n - 64 = e - f + bl m - bl n - 64 by omega]
theorem ref12_Div_c {a b : Int} (ha : U a) (hb : U b) : Ev (fun k => gradineref12_Div.f k a b) (fdiv a b) := by
  refine Ev.bindc (ref09_Kind_c ha) (Ev.bindc (ref09_Kind_c hb) (Ev.bindc (ref09_Neg_c ha) (Ev.bindc (ref09_Neg_c hb) ?_)))
  have eb : (!(fs a == fs b)) = (fs a != fs b) := rfl
  rw [eb]
  generalize hneg : (fs a != fs b) = neg
  have hF : fdiv a b = if fk a = 4 ∨ fk b = 4 ∨ (fk a = 3 ∧ fk b = 3) ∨ (fk a = 0 ∧ fk b = 0) then NAN else if fk a = 3 ∨ fk b = 0 then sgn neg INF else if fk a = 0 ∨ fk b = 3 then sgn neg 0 else sgn neg (qd (pm a) (pe a) (pm b) (pe b)) := by
    unfold fdiv
    rw [hneg]
  have j2 : ∀ t : Bool, ¬ (fk a = 4 ∨ fk b = 4 ∨ (fk a = 3 ∧ fk b = 3) ∨ (fk a = 0 ∧ fk b = 0)) → ¬ (fk a = 3 ∨ fk b = 0) → (t = true ↔ (fk a = 0 ∨ fk b = 3)) → Ev (fun k => gradineref12_Div.j2 k a b neg t) (fdiv a b) := by
    intro t h4 h3 ht
    refine Ev.step (fun k => gradineref12_Div.j2.eq_2 ..) ?_
    rw [hF, if_neg h4, if_neg h3]
    by_cases h : fk a = 0 ∨ fk b = 3
    · rw [if_pos h]
      exact Ev.ifp (ht.2 h) (Ev.bindc (ref09_Signed_c neg (by omega) (by omega)) (Ev.same rfl))
    · rw [if_neg h]
      refine Ev.ifn (fun k => h (ht.1 k)) (Ev.bindc (ref09_Parts_c ha) (Ev.bindc (ref09_Parts_c hb) ?_))
      have fa : fx a ≠ 2047 := fk_fin (by omega) (by omega)
      have fb : fx b ≠ 2047 := fk_fin (by omega) (by omega)
      have za : pm a ≠ 0 := fun k => h (.inl ((fk_eq a).2.2.2.1.2 ⟨fa, k⟩))
      have zb : pm b ≠ 0 := fun k => h3 (.inr ((fk_eq b).2.2.2.1.2 ⟨fb, k⟩))
      have a1 := pm_range a
      have a2 := pe_range a
      have b1 := pm_range b
      have b2 := pe_range b
      have a3 : -1074 ≤ pe a ∧ pe a ≤ 972 := ⟨a2.1, a2.2.1⟩
      have b3 : -1074 ≤ pe b ∧ pe b ≤ 972 := ⟨b2.1, b2.2.1⟩
      have ba : bl (pm a) ≤ 53 := bl_le_of (n := 53) (by omega)
      have ba1 := bl_pos (x := pm a) (by omega)
      clear a2 b2
      exact ref12_Div_l0 neg (by omega) b1.2 (by omega) (by omega) (53 - bl (pm a)).toNat (pm a) (pe a) (by omega) (by omega) (by omega) (by omega)
  have j1 : ∀ t : Bool, ¬ (fk a = 4 ∨ fk b = 4 ∨ (fk a = 3 ∧ fk b = 3) ∨ (fk a = 0 ∧ fk b = 0)) → (t = true ↔ (fk a = 3 ∨ fk b = 0)) → Ev (fun k => gradineref12_Div.j1 k a b (fk a) (fk b) neg t) (fdiv a b) := by
    intro t h4 ht
    refine Ev.step (fun k => gradineref12_Div.j1.eq_2 ..) ?_
    by_cases h : fk a = 3 ∨ fk b = 0
    · refine Ev.ifp (ht.2 h) (Ev.bindc (ref09_Inf_c neg) (Ev.same ?_))
      rw [hF, if_neg h4, if_pos h]
    · refine Ev.ifn (fun k => h (ht.1 k)) ?_
      by_cases h1 : fk a = 0
      · exact Ev.ifp h1 (j2 _ h4 h (by simp [h1]))
      · exact Ev.ifn h1 (j2 _ h4 h (by simp [h1]))
  have j0 : ∀ t : Bool, (t = true ↔ (fk a = 4 ∨ fk b = 4 ∨ (fk a = 3 ∧ fk b = 3) ∨ (fk a = 0 ∧ fk b = 0))) → Ev (fun k => gradineref12_Div.j0 k a b (fk a) (fk b) neg t) (fdiv a b) := by
    intro t ht
    refine Ev.step (fun k => gradineref12_Div.j0.eq_2 ..) ?_
    by_cases h : fk a = 4 ∨ fk b = 4 ∨ (fk a = 3 ∧ fk b = 3) ∨ (fk a = 0 ∧ fk b = 0)
    · refine Ev.ifp (ht.2 h) (Ev.bindc ref09_Nan_c (Ev.same ?_))
      rw [hF, if_pos h]
    · refine Ev.ifn (fun k => h (ht.1 k)) ?_
      by_cases h3 : fk a = 3
      · exact Ev.ifp h3 (j1 _ h (by simp [h3]))
      · exact Ev.ifn h3 (j1 _ h (by simp [h3]))
  by_cases h : fk a = 4
  · exact Ev.ifp h (j0 _ (by simp [h]))
  · refine Ev.ifn h ?_
    by_cases h2 : fk b = 4
    · exact Ev.ifp h2 (j0 _ (by simp [h2]))
    · refine Ev.ifn h2 ?_
      by_cases h3 : fk a = 3
      · refine Ev.ifp h3 ?_
        by_cases h5 : fk b = 3
        · exact Ev.ifp h5 (j0 _ (by simp [h3, h5]))
        · refine Ev.ifn h5 (Ev.ifn (by omega) (j0 _ (by simp; omega)))
      · refine Ev.ifn h3 ?_
        by_cases h5 : fk a = 0
        · exact Ev.ifp h5 (j0 _ (by simp; omega))
        · exact Ev.ifn h5 (j0 _ (by simp; omega))
end Go.Proofs.Ytbpggonjcnakgaa.M
