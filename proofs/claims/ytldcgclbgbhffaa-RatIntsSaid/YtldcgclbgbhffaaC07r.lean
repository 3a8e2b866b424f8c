/- What the reference's exact numbers answer. -/
import Derived.Test.YtldcgclbgbhffaaBgradineref07
import Derived.Test.YtldcgclbgbhffaaC05r
import Derived.Test.YtldcgclbgbhffaaM7
namespace Go.Proofs.Ytldcgclbgbhffaa.M
open Go.RowKit Go.Proofs.Ytldcgclbgbhffaa.P Go.Proofs.YtldcgclbgbhffaaW.PrintWords Go.Proofs.YtldcgclbgbhffaaW.PrintLast Go.Proofs.YtldcgclbgbhffaaW.PrintMore
set_option linter.unusedVariables false

theorem Rq_of (neg : Bool) {n d : Int} (hn : 0 < n) : Rq (sgI neg n) d = (neg, dg (n / gc n d), dg (d / gc n d)) := by
  cases neg
  · show Rq n d = _
    have : ab n = n := by unfold ab; rw [if_neg (by omega)]
    unfold Rq
    rw [if_neg (show ¬ n = 0 by omega), decide_eq_false (show ¬ n < 0 by omega), this]
  · show Rq (-n) d = _
    have : ab (-n) = n := by unfold ab; rw [if_pos (by omega)]; omega
    unfold Rq
    rw [if_neg (show ¬ -n = 0 by omega), decide_eq_true (show -n < 0 by omega), this]
theorem Rq_zero (neg : Bool) (d : Int) : Rq (sgI neg 0) d = (false, [], [1]) := by
  unfold Rq sgI
  cases neg <;> rfl
theorem ref07_Make_c {a b : List Int} (neg : Bool) (ha : Wl a) (hb : Wl b) (hla : a.length ≤ 1000) (hlb : b.length ≤ 1000) (hB : 0 < nv b) : Ev (fun k => gradineref07_Make.f k neg a b) (Rq (sgI neg (nv a)) (nv b)) := by
  have hA0 := nv_nonneg ha.1
  refine Ev.bind (ref02_Size_c ha) ?_
  by_cases hz : nv a = 0
  · rw [hz, Rq_zero]
    exact Ev.ifp rfl (Ev.same rfl)
  · rw [Rq_of neg (by omega)]
    refine Ev.ifn (fun k => hz ((dg_len_zero hA0).1 (by omega))) (Ev.bind (ref05_Gcd_c ha hb hla hlb) ?_)
    have g := gc_nonneg (nv a) (nv b)
    have gle : gc (nv a) (nv b) ≤ nv a := by
      have s := gc_split hA0 (Int.le_of_lt hB)
      have l := gc_le (a := nv b) (b := nv a) (Int.le_of_lt hB) (by omega)
      rw [gc_comm] at l
      have := Int.mul_le_mul_of_nonneg_right (show 1 ≤ nv a / gc (nv a) (nv b) by omega) g
      rw [s.1] at this
      omega
    have ba := bl_nv ha.1
    have bg := bl_mono gle
    have lg := dg_len_bl (gc (nv a) (nv b))
    have P1 := ref05_Part_c ha (g := dg (gc (nv a) (nv b))) (Wl_dg (by omega)) hla (by omega)
    have P2 := ref05_Part_c hb (g := dg (gc (nv a) (nv b))) (Wl_dg (by omega)) hlb (by omega)
    rw [nv_dg g] at P1 P2
    exact Ev.bind P1 (Ev.bind P2 (Ev.same rfl))
/-- Numbers that are gone through. -/
def Fit (S D : Int) : Prop := 0 < D ∧ bl (ab S) ≤ 14000 ∧ bl D ≤ 14000
theorem Rq_fit {S D : Int} (h : Fit S D) : ∃ N E : Int, Rq S D = (decide (S < 0), dg N, dg E) ∧ 0 ≤ N ∧ 0 < E ∧ bl N ≤ 14000 ∧ bl E ≤ 14000 ∧ sgI (decide (S < 0)) N * D = S * E ∧ (N = 0 ↔ S = 0) := by
  obtain ⟨N, E, h1, h2, h3, h4, h5, h6, h7, h8⟩ := Rq_spec S h.1
  have := bl_mono h4
  have := bl_mono h5
  have := h.2
  exact ⟨N, E, h1, h2, h3, by omega, by omega, Rq_signed h6 h7, h7⟩
theorem make_dg {n d : Int} (neg : Bool) (hn : 0 ≤ n) (hd : 0 < d) (bn : bl n ≤ 60000) (bd : bl d ≤ 60000) : Ev (fun k => gradineref07_Make.f k neg (dg n) (dg d)) (Rq (sgI neg n) d) := by
  have ln := dg_len_bl n
  have ld := dg_len_bl d
  have := ref07_Make_c neg (a := dg n) (b := dg d) (Wl_dg (by omega)) (Wl_dg (by omega)) (by omega) (by omega) (by rw [nv_dg (by omega)]; exact hd)
  rwa [nv_dg hn, nv_dg (by omega)] at this
theorem ref07_Neg_c {S D : Int} (h : Fit S D) : Ev (fun k => gradineref07_Neg.f k (Rq S D).1 (Rq S D).2.1 (Rq S D).2.2) (Rq (-S) D) := by
  obtain ⟨N, E, h1, h2, h3, h4, h5, h6, h7⟩ := Rq_fit h
  rw [h1]
  refine Ev.bind (make_dg (!(decide (S < 0))) h2 h3 (by omega) (by omega)) (Ev.same ?_)
  congr 1
  refine Rq_eq h3 h.1 ?_
  have : sgI (!(decide (S < 0))) N = -(sgI (decide (S < 0)) N) := by
    unfold sgI
    cases decide (S < 0) <;> simp
  rw [this, Int.neg_mul, h6, Int.neg_mul]
theorem ref07_Add_c {S D S' D' : Int} (h : Fit S D) (h' : Fit S' D') : Ev (fun k => gradineref07_Add.f k (Rq S D).1 (Rq S D).2.1 (Rq S D).2.2 (Rq S' D').1 (Rq S' D').2.1 (Rq S' D').2.2) (Rq (S * D' + S' * D) (D * D')) := by
  obtain ⟨N, E, h1, h2, h3, h4, h5, h6, h7⟩ := Rq_fit h
  obtain ⟨N', E', k1, k2, k3, k4, k5, k6, k7⟩ := Rq_fit h'
  rw [h1, k1]
  have lN := dg_len_bl N
  have lE := dg_len_bl E
  have lN' := dg_len_bl N'
  have lE' := dg_len_bl E'
  have M1 := ref03_Mul_c (a := dg N) (b := dg E') (Wl_dg (by omega)) (Wl_dg (by omega)) (by omega) (by omega)
  have M2 := ref03_Mul_c (a := dg N') (b := dg E) (Wl_dg (by omega)) (Wl_dg (by omega)) (by omega) (by omega)
  have M3 := ref03_Mul_c (a := dg E) (b := dg E') (Wl_dg (by omega)) (Wl_dg (by omega)) (by omega) (by omega)
  rw [nv_dg h2, nv_dg (Int.le_of_lt k3)] at M1
  rw [nv_dg k2, nv_dg (Int.le_of_lt h3)] at M2
  rw [nv_dg (Int.le_of_lt h3), nv_dg (Int.le_of_lt k3)] at M3
  refine Ev.bind M1 (Ev.bind M2 (Ev.bind M3 ?_))
  have b1 := bl_mul h2 (Int.le_of_lt k3)
  have b2 := bl_mul k2 (Int.le_of_lt h3)
  have b3 := bl_mul (Int.le_of_lt h3) (Int.le_of_lt k3)
  have x0 : 0 ≤ N * E' := Int.mul_nonneg h2 (Int.le_of_lt k3)
  have y0 : 0 ≤ N' * E := Int.mul_nonneg k2 (Int.le_of_lt h3)
  have d0 : 0 < E * E' := Int.mul_pos h3 k3
  have dd : 0 < D * D' := Int.mul_pos h.1 h'.1
  have goal : Rq (sgI (decide (S < 0)) N * E' + sgI (decide (S' < 0)) N' * E) (E * E') = Rq (S * D' + S' * D) (D * D') := by
    refine Rq_eq d0 dd ?_
    generalize sgI (decide (S < 0)) N = σ at *
    generalize sgI (decide (S' < 0)) N' = σ' at *
    have e1 : (σ * E' + σ' * E) * (D * D') = (σ * D) * (E' * D') + (σ' * D') * (E * D) := by grind
    rw [e1, h6, k6]
    grind
  rw [← goal]
  clear goal M1 M2 M3
  have lx := dg_len_bl (N * E')
  have ly := dg_len_bl (N' * E)
  have wx : Wl (dg (N * E')) := Wl_dg (by omega)
  have wy : Wl (dg (N' * E)) := Wl_dg (by omega)
  have s1 : sgI (decide (S < 0)) N * E' = sgI (decide (S < 0)) (N * E') := by unfold sgI; split; exact Int.neg_mul ..; rfl
  have s2 : sgI (decide (S' < 0)) N' * E = sgI (decide (S' < 0)) (N' * E) := by unfold sgI; split; exact Int.neg_mul ..; rfl
  rw [s1, s2]
  generalize N * E' = x at *
  generalize N' * E = y at *
  generalize E * E' = d at *
  generalize decide (S < 0) = s at *
  generalize decide (S' < 0) = s' at *
  clear h6 k6 s1 s2
  dsimp only
  by_cases hs : s = s'
  · subst hs
    refine Ev.ifp (by simp) ?_
    have A := ref02_Add_c wx wy (by omega) (by omega)
    rw [nv_dg x0, nv_dg y0] at A
    have ba := bl_add x0 y0 (m := 28000) (by omega) (by omega)
    refine Ev.bind A (Ev.bind (make_dg s (by omega) d0 (by omega) (by omega)) (Ev.same ?_))
    unfold sgI
    cases s
    · rfl
    · simp only [if_true]
      rw [show -(x + y) = -x + -y by omega]
  · refine Ev.ifn (by simp [hs]) ?_
    have C := ref02_Cmp_c wx wy
    rw [nv_dg x0, nv_dg y0] at C
    refine Ev.bind C ?_
    by_cases hc : y ≤ x
    · refine Ev.ifp (by unfold cmpI; split; omega; split <;> omega) ?_
      have B := ref02_Sub_c wx wy (by omega) (by omega) (by rw [nv_dg x0, nv_dg y0]; exact hc)
      rw [nv_dg x0, nv_dg y0] at B
      have bb := bl_mono (show x - y ≤ x by omega)
      refine Ev.bind B (Ev.bind (make_dg s (by omega) d0 (by omega) (by omega)) (Ev.same ?_))
      unfold sgI
      cases s <;> cases s'
      · exact absurd rfl hs
      · simp only [if_true, Bool.false_eq_true, if_false]; rfl
      · simp only [if_true, Bool.false_eq_true, if_false]; rw [show -(x - y) = -x + y by omega]
      · exact absurd rfl hs
    · refine Ev.ifn (by unfold cmpI; rw [if_pos (by omega)]; omega) ?_
      have B := ref02_Sub_c wy wx (by omega) (by omega) (by rw [nv_dg x0, nv_dg y0]; omega)
      rw [nv_dg x0, nv_dg y0] at B
      have bb := bl_mono (show y - x ≤ y by omega)
      refine Ev.bind B (Ev.bind (make_dg s' (by omega) d0 (by omega) (by omega)) (Ev.same ?_))
      unfold sgI
      cases s <;> cases s'
      · exact absurd rfl hs
      · simp only [if_true, Bool.false_eq_true, if_false]; rw [show -(y - x) = x + -y by omega]
      · simp only [if_true, Bool.false_eq_true, if_false]; rw [show y - x = -x + y by omega]
      · exact absurd rfl hs
theorem Fit_neg {S D : Int} (h : Fit S D) : Fit (-S) D := by
  have : ab (-S) = ab S := by unfold ab; split <;> split <;> omega
  unfold Fit
  rw [this]
  exact h
theorem ref07_Sub_c {S D S' D' : Int} (h : Fit S D) (h' : Fit S' D') : Ev (fun k => gradineref07_Sub.f k (Rq S D).1 (Rq S D).2.1 (Rq S D).2.2 (Rq S' D').1 (Rq S' D').2.1 (Rq S' D').2.2) (Rq (S * D' - S' * D) (D * D')) := by
  refine Ev.bind (ref07_Neg_c h') (Ev.bind (ref07_Add_c h (Fit_neg h')) (Ev.same ?_))
  rw [Int.neg_mul]
  rfl
def sgnI (x : Int) : Int := if x = 0 then 0 else if x < 0 then -1 else 1
theorem ref07_Sign_c {S D : Int} (hD : 0 < D) : gradineref07_Sign.f (Rq S D).1 (Rq S D).2.1 (Rq S D).2.2 = some (sgnI S) := by
  obtain ⟨N, E, h1, h2, h3, h4, h5, h6, h7, h8⟩ := Rq_spec S hD
  rw [h1]
  unfold gradineref07_Sign.f sgnI
  show (if ((dg N).length : Int) = 0 then some 0 else if decide (S < 0) = true then some (-1) else some 1) = _
  by_cases hz : S = 0
  · rw [if_pos hz, if_pos (by rw [h7.2 hz]; rfl)]
  · rw [if_neg hz, if_neg (fun k => hz (h7.1 ((dg_len_zero h2).1 (by omega))))]
    by_cases hs : S < 0
    · rw [if_pos hs, if_pos (decide_eq_true hs)]
    · rw [if_neg hs, if_neg (by rw [decide_eq_false hs]; decide)]
theorem ref07_Cmp_c {S D S' D' : Int} (h : Fit S D) (h' : Fit S' D') : Ev (fun k => gradineref07_Cmp.f k (Rq S D).1 (Rq S D).2.1 (Rq S D).2.2 (Rq S' D').1 (Rq S' D').2.1 (Rq S' D').2.2) (sgnI (S * D' - S' * D)) :=
  Ev.bind (ref07_Sub_c h h') (Ev.bindc (ref07_Sign_c (Int.mul_pos h.1 h'.1)) (Ev.same rfl))
theorem ref07_Words_l {a b : List Int} (hl : a.length = b.length) (ha : a.length ≤ 1000000) (d : Nat) : ∀ i : Nat, i + d = a.length → a.take i = b.take i → Ev (fun k => gradineref07_Words.l0 k a b (a.length : Int) i) (decide (a = b)) := by
  induction d with
  | zero =>
    intro i hi he
    refine Ev.step (fun k => gradineref07_Words.l0.eq_2 ..) (Ev.ifn (by omega) (Ev.same ?_))
    rw [List.take_of_length_le (by omega), List.take_of_length_le (by omega)] at he
    rw [decide_eq_true he]
  | succ d ih =>
    intro i hi he
    have e : wrap64 ((i : Int) + 1) = ((i + 1 : Nat) : Int) := by rw [w64_id (by omega) (by omega)]; omega
    refine Ev.step (fun k => gradineref07_Words.l0.eq_2 ..) (Ev.ifp (by omega) (Ev.ifp (by omega) (Ev.ifp (by omega) (Ev.ifp (by omega) ?_))))
    by_cases h : rd a (i : Int) = rd b (i : Int)
    · refine Ev.ifp h ?_
      rw [e]
      exact ih (i + 1) (by omega) (by rw [take_rd (by omega), take_rd (by omega), he, h])
    · refine Ev.ifn h (Ev.same ?_)
      rw [decide_eq_false (fun k => h (by rw [k]))]
theorem ref07_Words_c {a b : List Int} (ha : a.length ≤ 1000000) : Ev (fun k => gradineref07_Words.f k a b) (decide (a = b)) := by
  by_cases h : (a.length : Int) = (b.length : Int)
  · exact Ev.ifp h (ref07_Words_l (by omega) ha a.length 0 (by omega) rfl)
  · exact Ev.ifn h (Ev.same (by rw [decide_eq_false (fun k => h (by rw [k]))]))
theorem ref07_Same_c {s s' : Bool} {a b a' b' : List Int} (ha : a.length ≤ 1000000) (hb : b.length ≤ 1000000) : Ev (fun k => gradineref07_Same.f k s a b s' a' b') (decide ((s, a, b) = (s', a', b'))) := by
  by_cases hs : s = s'
  · refine Ev.ifp (by rw [hs]; simp) (Ev.bind (ref07_Words_c ha) ?_)
    by_cases h1 : a = a'
    · refine Ev.ifp (decide_eq_true h1) (Ev.bind (ref07_Words_c hb) (Ev.same ?_))
      congr 1
      rw [hs, h1]
      simp
    · refine Ev.ifn (by rw [decide_eq_false h1]; decide) (Ev.same ?_)
      rw [decide_eq_false]
      simp [h1]
  · refine Ev.ifn (by simp [hs]) (Ev.same ?_)
    rw [decide_eq_false]
    simp [hs]
end Go.Proofs.Ytldcgclbgbhffaa.M
