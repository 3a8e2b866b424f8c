/- What the functions answer, over plain numbers. -/
import Derived.Test.YtldcgclbgbhffaaBnat
import Derived.Test.YtldcgclbgbhffaaBrat
import Derived.Test.YtldcgclbgbhffaaCCa
import Derived.Test.YtldcgclbgbhffaaBgradineref07
import Derived.Test.YtldcgclbgbhffaaFgradinelaw07same
import Derived.Test.YtldcgclbgbhffaaBgradineplain
import Derived.Test.YtldcgclbgbhffaaFgradinelaw07right
section
namespace Go.Proofs.Ytldcgclbgbhffaa.M
open Go.RowKit Go.Proofs.Ytldcgclbgbhffaa.P Go.Proofs.YtldcgclbgbhffaaW.PrintWords Go.Proofs.YtldcgclbgbhffaaW.PrintLast Go.Proofs.YtldcgclbgbhffaaW.PrintMore
set_option linter.unusedVariables false

theorem Trim_dg {x : Int} (hx : 0 ≤ x) (bx : bl x ≤ 60000) : Ev (fun k => nat_Trim.f k (dg x)) (dg x) := by
  have T := nat_Trim_c (l := dg x) (Wl_dg (by omega))
  rw [nv_dg hx] at T
  exact T
theorem Rq_neg (S : Int) {D : Int} (hD : 0 < D) : Rq (-S) D = (decide (0 < S), (Rq S D).2.1, (Rq S D).2.2) := by
  have e : ab (-S) = ab S := by unfold ab; split <;> split <;> omega
  unfold Rq
  rw [e]
  by_cases h : S = 0
  · rw [if_pos h, if_pos (by omega), decide_eq_false (by omega)]
  · rw [if_neg h, if_neg (by omega)]
    congr 1
    exact decide_eq_decide.2 (by omega)
theorem rat_Neg_c {S D : Int} (h : Fit S D) : Ev (fun k => rat_Neg.f k (Rq S D).1 (Rq S D).2.1 (Rq S D).2.2) (Rq (-S) D) := by
  rw [Rq_neg S h.1]
  obtain ⟨N, E, h1, h2, h3, h4, h5, h6, h7⟩ := Rq_fit h
  rw [h1]
  dsimp only
  have T1 := Trim_dg h2 (by omega)
  have T2 := Trim_dg (Int.le_of_lt h3) (by omega)
  have lN := dg_len_bl N
  have B := nat_Bits_c (l := dg N) (Wl_dg (by omega))
  rw [nv_dg h2] at B
  by_cases hs : S < 0
  · rw [decide_eq_true hs, decide_eq_false (show ¬ 0 < S by omega)]
    exact Ev.ifp rfl (Ev.bind T1 (Ev.bind T2 (Ev.same rfl)))
  · rw [decide_eq_false hs]
    refine Ev.ifn (by decide) (Ev.bind B (Ev.bind T1 (Ev.bind T2 (Ev.same ?_))))
    congr 2
    refine decide_eq_decide.2 ?_
    rcases (show N = 0 ∨ 0 < N by omega) with k | k
    · rw [k, bl_zero]; have := h7.1 k; omega
    · have := bl_pos k; have : S ≠ 0 := fun q => by have := h7.2 q; omega
      omega
theorem rat_Sub_c {S D S' D' : Int} (h : Fit S D) (h' : Fit S' D') : Ev (fun k => rat_Sub.f k (Rq S D).1 (Rq S D).2.1 (Rq S D).2.2 (Rq S' D').1 (Rq S' D').2.1 (Rq S' D').2.2) (Rq (S * D' - S' * D) (D * D')) := by
  refine Ev.bind (rat_Neg_c h') (Ev.bind (rat_Add_c h (Fit_neg h')) (Ev.same ?_))
  rw [Int.neg_mul]
  rfl
theorem rat_Sgn_c {S D : Int} (h : Fit S D) : Ev (fun k => rat_Sign.f k (Rq S D).1 (Rq S D).2.1 (Rq S D).2.2) (sgnI S) := by
  obtain ⟨N, E, h1, h2, h3, h4, h5, h6, h7⟩ := Rq_fit h
  rw [h1]
  have G := rat_Sign_c (a := dg N) (b := dg E) (decide (S < 0)) (Wl_dg (by omega))
  refine Ev.eqr G ?_
  rw [nv_dg h2]
  unfold sgnI
  by_cases hz : S = 0
  · rw [if_pos (h7.2 hz), if_pos hz]
  · rw [if_neg (fun k => hz (h7.1 k)), if_neg hz]
    by_cases hs : S < 0
    · rw [if_pos hs, if_pos (decide_eq_true hs)]
    · rw [if_neg hs, if_neg (by rw [decide_eq_false hs]; decide)]
/-- Fewer bits: what sums and products of numbers keep. -/
def Fb (n : Int) (S D : Int) : Prop := 0 < D ∧ bl (ab S) ≤ n ∧ bl D ≤ n
theorem Fb_fit {n S D : Int} (h : Fb n S D) (hn : n ≤ 14000) : Fit S D := ⟨h.1, by have := h.2.1; omega, by have := h.2.2; omega⟩
theorem ab_prod (x y : Int) : ab (x * y) = ab x * ab y := by
  rcases Int.lt_or_le y 0 with h | h
  · have e : x * y = (-x) * (-y) := by rw [Int.neg_mul_neg]
    have a1 : ab (-x) = ab x := by unfold ab; split <;> split <;> omega
    have a2 : ab y = -y := by unfold ab; rw [if_pos h]
    rw [e, ab_mul _ (show 0 < -y by omega), a1, a2]
  · rcases (show y = 0 ∨ 0 < y by omega) with k | k
    · rw [k, Int.mul_zero, show ab 0 = 0 from rfl, Int.mul_zero]
    · rw [ab_mul _ k]
      have : ab y = y := by unfold ab; rw [if_neg (by omega)]
      rw [this]
theorem ab_add (x y : Int) : ab (x + y) ≤ ab x + ab y := by unfold ab; split <;> split <;> split <;> omega
theorem Fb_neg {n S D : Int} (h : Fb n S D) : Fb n (-S) D := by
  have : ab (-S) = ab S := by unfold ab; split <;> split <;> omega
  unfold Fb
  rw [this]
  exact h
theorem Fb_add {n m S D S' D' : Int} (h : Fb n S D) (h' : Fb m S' D') : Fb (n + m + 1) (S * D' + S' * D) (D * D') := by
  have e1 : ab (S * D') = ab S * D' := ab_mul S h'.1
  have e2 : ab (S' * D) = ab S' * D := ab_mul S' h.1
  have b1 := bl_mul (ab_nonneg S) (Int.le_of_lt h'.1)
  have b2 := bl_mul (ab_nonneg S') (Int.le_of_lt h.1)
  have b3 := bl_mul (Int.le_of_lt h.1) (Int.le_of_lt h'.1)
  have hh := h.2
  have hh' := h'.2
  have n1 : 0 ≤ ab S * D' := Int.mul_nonneg (ab_nonneg S) (Int.le_of_lt h'.1)
  have n2 : 0 ≤ ab S' * D := Int.mul_nonneg (ab_nonneg S') (Int.le_of_lt h.1)
  have b4 := bl_add n1 n2 (m := n + m) (by omega) (by omega)
  have a := ab_add (S * D') (S' * D)
  rw [e1, e2] at a
  have := bl_mono a
  exact ⟨Int.mul_pos h.1 h'.1, by omega, by omega⟩
theorem Fb_mul {n m S D S' D' : Int} (h : Fb n S D) (h' : Fb m S' D') : Fb (n + m) (S * S') (D * D') := by
  have b1 := bl_mul (ab_nonneg S) (ab_nonneg S')
  have b3 := bl_mul (Int.le_of_lt h.1) (Int.le_of_lt h'.1)
  have hh := h.2
  have hh' := h'.2
  refine ⟨Int.mul_pos h.1 h'.1, ?_, by omega⟩
  rw [ab_prod]
  omega
theorem sgI_mul (s s' : Bool) (x y : Int) : sgI s x * sgI s' y = sgI (s != s') (x * y) := by
  unfold sgI
  cases s <;> cases s' <;> simp [Int.neg_mul, Int.mul_neg]
theorem rat_Mul_c {S D S' D' : Int} (h : Fit S D) (h' : Fit S' D') : Ev (fun k => rat_Mul.f k (Rq S D).1 (Rq S D).2.1 (Rq S D).2.2 (Rq S' D').1 (Rq S' D').2.1 (Rq S' D').2.2) (Rq (S * S') (D * D')) := by
  obtain ⟨N, E, h1, h2, h3, h4, h5, h6, h7⟩ := Rq_fit h
  obtain ⟨N', E', k1, k2, k3, k4, k5, k6, k7⟩ := Rq_fit h'
  rw [h1, k1]
  dsimp only
  have lN := dg_len_bl N
  have lE := dg_len_bl E
  have lN' := dg_len_bl N'
  have lE' := dg_len_bl E'
  have R1 := gcd_Reduce_c (a := dg N) (b := dg E') (Wl_dg (by omega)) (Wl_dg (by omega)) (by omega) (by omega)
  have R2 := gcd_Reduce_c (a := dg N') (b := dg E) (Wl_dg (by omega)) (Wl_dg (by omega)) (by omega) (by omega)
  rw [nv_dg h2, nv_dg (Int.le_of_lt k3)] at R1
  rw [nv_dg k2, nv_dg (Int.le_of_lt h3)] at R2
  have g1 := gc_le h2 k3
  have g2 := gc_le k2 h3
  have s1 := gc_split h2 (Int.le_of_lt k3)
  have s2 := gc_split k2 (Int.le_of_lt h3)
  have p1 := gc_pos (a := N) (b := E') (.inr k3)
  have p2 := gc_pos (a := N') (b := E) (.inr h3)
  have dd : 0 < D * D' := Int.mul_pos h.1 h'.1
  generalize N / gc N E' = n1 at *
  generalize E' / gc N E' = e1 at *
  generalize N' / gc N' E = n2 at *
  generalize E / gc N' E = e2 at *
  have m1 := bl_mono g1.1
  have m2 := bl_mono g1.2.1
  have m3 := bl_mono g2.1
  have m4 := bl_mono g2.2.1
  have M1 := prod_Mul_dg (x := n1) (y := n2) g1.2.2.2 g2.2.2.2 (by omega) (by omega)
  have M2 := prod_Mul_dg (x := e2) (y := e1) (Int.le_of_lt g2.2.2.1) (Int.le_of_lt g1.2.2.1) (by omega) (by omega)
  have b1 := bl_mul g1.2.2.2 g2.2.2.2
  have b2 := bl_mul (Int.le_of_lt g2.2.2.1) (Int.le_of_lt g1.2.2.1)
  have d0 : 0 < e2 * e1 := Int.mul_pos g2.2.2.1 g1.2.2.1
  have n0 : 0 ≤ n1 * n2 := Int.mul_nonneg g1.2.2.2 g2.2.2.2
  refine Ev.bind (rat_safe_c k3 (by omega)) (Ev.bind R1 (Ev.bind (rat_safe_c h3 (by omega)) (Ev.bind R2 (Ev.bind M1 (Ev.bind M2 (Ev.bind (lowest_dg _ n0 d0 (by omega) (by omega)) (Ev.same ?_)))))))
  have e : Rq (sgI (decide (S < 0) != decide (S' < 0)) (n1 * n2)) (e2 * e1) = Rq (S * S') (D * D') := by
    refine Rq_eq d0 dd ?_
    generalize gc N E' = g at *
    generalize gc N' E = g' at *
    have q : 0 < g * g' := Int.mul_pos p1 p2
    refine Int.eq_of_mul_eq_mul_right (show g * g' ≠ 0 by omega) ?_
    rw [← sgI_mul]
    have t1 : sgI (decide (S < 0)) N = sgI (decide (S < 0)) n1 * g := by rw [← s1.1]; unfold sgI; cases decide (S < 0) <;> simp [Int.neg_mul]
    have t2 : sgI (decide (S' < 0)) N' = sgI (decide (S' < 0)) n2 * g' := by rw [← s2.1]; unfold sgI; cases decide (S' < 0) <;> simp [Int.neg_mul]
    rw [t1, ← s2.2] at h6
    rw [t2, ← s1.2] at k6
    generalize sgI (decide (S < 0)) n1 = σ at *
    generalize sgI (decide (S' < 0)) n2 = σ' at *
    have a1 : σ * σ' * (D * D') * (g * g') = (σ * g * D) * (σ' * g' * D') := by grind
    have a2 : S * S' * (e2 * e1) * (g * g') = (S * (e2 * g')) * (S' * (e1 * g)) := by grind
    rw [a1, a2, h6, k6]
  rw [← e]
/-- 1 by a number. -/
def IS (S D : Int) : Int := sgI (decide (S < 0)) D
theorem Fb_inv {n S D : Int} (h : Fb n S D) (hS : S ≠ 0) : Fb n (IS S D) (ab S) := by
  have := ab_nonneg S
  have h1 : ab S ≠ 0 := fun k => hS (ab_zero.1 k)
  have : ab (IS S D) = D := by
    have := h.1
    unfold IS ab sgI
    split <;> split <;> omega
  exact ⟨by omega, by rw [this]; exact h.2.2, h.2.1⟩
theorem Fit_inv {S D : Int} (h : Fit S D) (hS : S ≠ 0) : Fit (IS S D) (ab S) := by
  have := Fb_inv (n := 14000) (S := S) (D := D) ⟨h.1, h.2.1, h.2.2⟩ hS
  exact ⟨this.1, this.2.1, this.2.2⟩
theorem rat_Inv_c {S D : Int} (h : Fit S D) : Ev (fun k => rat_Inv.f k (Rq S D).1 (Rq S D).2.1 (Rq S D).2.2) (if S = 0 then (false, [], [], 4) else ((Rq (IS S D) (ab S)).1, (Rq (IS S D) (ab S)).2.1, (Rq (IS S D) (ab S)).2.2, 0)) := by
  obtain ⟨N, E, h1, h2, h3, h4, h5, h6, h7, h8⟩ := Rq_spec S h.1
  have b1 := bl_mono h4
  have b2 := bl_mono h5
  have hh := h.2
  rw [h1]
  dsimp only
  have B := nat_Bits_c (l := dg N) (Wl_dg (by omega))
  rw [nv_dg h2] at B
  refine Ev.bind B ?_
  by_cases hz : S = 0
  · rw [if_pos hz]
    exact Ev.ifp (by rw [h7.2 hz]; rfl) (Ev.same rfl)
  · rw [if_neg hz]
    have hN : 0 < N := by
      have : N ≠ 0 := fun k => hz (h7.1 k)
      omega
    have := bl_pos hN
    refine Ev.ifn (by omega) (Ev.bind (Trim_dg (Int.le_of_lt h3) (by omega)) (Ev.bind (Trim_dg h2 (by omega)) (Ev.same ?_)))
    have e : Rq (IS S D) (ab S) = (decide (S < 0), dg E, dg N) := by
      have a0 : 0 < ab S := by
        have := ab_nonneg S
        have : ab S ≠ 0 := fun k => hz (ab_zero.1 k)
        omega
      have e1 : Rq (IS S D) (ab S) = Rq (sgI (decide (S < 0)) E) N := by
        refine Rq_eq a0 hN ?_
        unfold IS sgI
        cases decide (S < 0)
        · simp only [Bool.false_eq_true, if_false]; rw [Int.mul_comm, h6, Int.mul_comm]
        · simp only [if_true]; rw [Int.neg_mul, Int.neg_mul, Int.mul_comm, h6, Int.mul_comm]
      rw [e1, Rq_of _ h3, gc_comm, h8, Int.ediv_one, Int.ediv_one]
    rw [e]
theorem rat_Div_c {S D S' D' : Int} (h : Fit S D) (h' : Fit S' D') : Ev (fun k => rat_Div.f k (Rq S D).1 (Rq S D).2.1 (Rq S D).2.2 (Rq S' D').1 (Rq S' D').2.1 (Rq S' D').2.2) (if S' = 0 then (false, [], [], 4) else ((Rq (S * IS S' D') (D * ab S')).1, (Rq (S * IS S' D') (D * ab S')).2.1, (Rq (S * IS S' D') (D * ab S')).2.2, 0)) := by
  refine Ev.bind (rat_Inv_c h') ?_
  by_cases hz : S' = 0
  · rw [if_pos hz, if_pos hz]
    exact Ev.ifn (by decide) (Ev.same rfl)
  · rw [if_neg hz, if_neg hz]
    exact Ev.ifp rfl (Ev.bind (rat_Mul_c h (Fit_inv h' hz)) (Ev.same rfl))
theorem rat_Cmp_c {S D S' D' : Int} (h : Fit S D) (h' : Fit S' D') (hF : Fit (S * D' - S' * D) (D * D')) : Ev (fun k => rat_Cmp.f k (Rq S D).1 (Rq S D).2.1 (Rq S D).2.2 (Rq S' D').1 (Rq S' D').2.1 (Rq S' D').2.2) (sgnI (S * D' - S' * D)) :=
  Ev.bind (rat_Sub_c h h') (Ev.bind (rat_Sgn_c hF) (Ev.same rfl))
theorem ref07_Mul_c {S D S' D' : Int} (h : Fit S D) (h' : Fit S' D') : Ev (fun k => gradineref07_Mul.f k (Rq S D).1 (Rq S D).2.1 (Rq S D).2.2 (Rq S' D').1 (Rq S' D').2.1 (Rq S' D').2.2) (Rq (S * S') (D * D')) := by
  obtain ⟨N, E, h1, h2, h3, h4, h5, h6, h7⟩ := Rq_fit h
  obtain ⟨N', E', k1, k2, k3, k4, k5, k6, k7⟩ := Rq_fit h'
  rw [h1, k1]
  dsimp only
  have lN := dg_len_bl N
  have lE := dg_len_bl E
  have lN' := dg_len_bl N'
  have lE' := dg_len_bl E'
  have M1 := ref03_Mul_c (a := dg N) (b := dg N') (Wl_dg (by omega)) (Wl_dg (by omega)) (by omega) (by omega)
  have M2 := ref03_Mul_c (a := dg E) (b := dg E') (Wl_dg (by omega)) (Wl_dg (by omega)) (by omega) (by omega)
  rw [nv_dg h2, nv_dg k2] at M1
  rw [nv_dg (Int.le_of_lt h3), nv_dg (Int.le_of_lt k3)] at M2
  have b1 := bl_mul h2 k2
  have b2 := bl_mul (Int.le_of_lt h3) (Int.le_of_lt k3)
  have d0 : 0 < E * E' := Int.mul_pos h3 k3
  have n0 : 0 ≤ N * N' := Int.mul_nonneg h2 k2
  have dd : 0 < D * D' := Int.mul_pos h.1 h'.1
  refine Ev.bind M1 (Ev.bind M2 (Ev.bind (make_dg _ n0 d0 (by omega) (by omega)) (Ev.same ?_)))
  have e : Rq (sgI (decide (S < 0) != decide (S' < 0)) (N * N')) (E * E') = Rq (S * S') (D * D') := by
    refine Rq_eq d0 dd ?_
    rw [← sgI_mul]
    generalize sgI (decide (S < 0)) N = σ at *
    generalize sgI (decide (S' < 0)) N' = σ' at *
    have a1 : σ * σ' * (D * D') = (σ * D) * (σ' * D') := by grind
    have a2 : S * S' * (E * E') = (S * E) * (S' * E') := by grind
    rw [a1, a2, h6, k6]
  rw [← e]
theorem ref07_Div_c {S D S' D' : Int} (h : Fit S D) (h' : Fit S' D') (hz : S' ≠ 0) : Ev (fun k => gradineref07_Div.f k (Rq S D).1 (Rq S D).2.1 (Rq S D).2.2 (Rq S' D').1 (Rq S' D').2.1 (Rq S' D').2.2) (Rq (S * IS S' D') (D * ab S')) := by
  obtain ⟨N, E, h1, h2, h3, h4, h5, h6, h7⟩ := Rq_fit h
  obtain ⟨N', E', k1, k2, k3, k4, k5, k6, k7⟩ := Rq_fit h'
  have kN : 0 < N' := by
    have : N' ≠ 0 := fun k => hz (k7.1 k)
    omega
  rw [h1, k1]
  dsimp only
  have lN := dg_len_bl N
  have lE := dg_len_bl E
  have lN' := dg_len_bl N'
  have lE' := dg_len_bl E'
  have M1 := ref03_Mul_c (a := dg N) (b := dg E') (Wl_dg (by omega)) (Wl_dg (by omega)) (by omega) (by omega)
  have M2 := ref03_Mul_c (a := dg E) (b := dg N') (Wl_dg (by omega)) (Wl_dg (by omega)) (by omega) (by omega)
  rw [nv_dg h2, nv_dg (Int.le_of_lt k3)] at M1
  rw [nv_dg (Int.le_of_lt h3), nv_dg k2] at M2
  have b1 := bl_mul h2 (Int.le_of_lt k3)
  have b2 := bl_mul (Int.le_of_lt h3) k2
  have d0 : 0 < E * N' := Int.mul_pos h3 kN
  have n0 : 0 ≤ N * E' := Int.mul_nonneg h2 (Int.le_of_lt k3)
  have a0 : 0 < ab S' := by
    have := ab_nonneg S'
    have : ab S' ≠ 0 := fun k => hz (ab_zero.1 k)
    omega
  have dd : 0 < D * ab S' := Int.mul_pos h.1 a0
  refine Ev.bind M1 (Ev.bind M2 (Ev.bind (make_dg _ n0 d0 (by omega) (by omega)) (Ev.same ?_)))
  have e : Rq (sgI (decide (S < 0) != decide (S' < 0)) (N * E')) (E * N') = Rq (S * IS S' D') (D * ab S') := by
    refine Rq_eq d0 dd ?_
    rw [← sgI_mul]
    unfold IS
    have q : sgI (decide (S' < 0)) E' * ab S' = sgI (decide (S' < 0)) D' * N' := by
      have e : ab S' = sgI (decide (S' < 0)) S' := by
        unfold ab sgI
        by_cases k : S' < 0
        · rw [if_pos k, if_pos (decide_eq_true k)]
        · rw [if_neg k, if_neg (by rw [decide_eq_false k]; decide)]
      rw [e, sgI_mul, bne_self_eq_false]
      unfold sgI at k6 ⊢
      revert k6
      cases decide (S' < 0)
      · simp only [Bool.false_eq_true, if_false]; intro k6; rw [Int.mul_comm, ← k6, Int.mul_comm]
      · simp only [if_true, Bool.false_eq_true, if_false]; intro k6; rw [Int.neg_mul] at k6; rw [Int.neg_mul, Int.mul_comm D' N', Int.mul_comm E' S', ← k6]
    generalize sgI (decide (S < 0)) N = σ at *
    generalize sgI (decide (S' < 0)) E' = σ' at *
    generalize sgI (decide (S' < 0)) D' = δ at *
    have a1 : σ * σ' * (D * ab S') = (σ * D) * (σ' * ab S') := by grind
    have a2 : S * δ * (E * N') = (S * E) * (δ * N') := by grind
    rw [a1, a2, h6, q]
  rw [← e]
theorem ref07_Zero_c {S D : Int} (hD : 0 < D) : gradineref07_Zero.f (Rq S D).1 (Rq S D).2.1 (Rq S D).2.2 = some (decide (S = 0)) := by
  obtain ⟨N, E, h1, h2, h3, h4, h5, h6, h7, h8⟩ := Rq_spec S hD
  rw [h1]
  unfold gradineref07_Zero.f
  show some _ = some _
  congr 1
  have : ((dg N).length : Int) = 0 ↔ S = 0 := ⟨fun k => h7.1 ((dg_len_zero h2).1 (by omega)), fun k => by rw [h7.2 k]; rfl⟩
  by_cases hz : S = 0
  · rw [decide_eq_true hz]
    simpa using this.2 hz
  · rw [decide_eq_false hz]
    exact beq_eq_false_iff_ne.2 (fun k => hz (this.1 k))
end Go.Proofs.Ytldcgclbgbhffaa.M
end
section
namespace Go.Proofs.Ytldcgclbgbhffaa.M
open Go.RowKit Go.Proofs.Ytldcgclbgbhffaa.P Go.Proofs.YtldcgclbgbhffaaW.PrintWords Go.Proofs.YtldcgclbgbhffaaW.PrintLast Go.Proofs.YtldcgclbgbhffaaW.PrintMore
set_option linter.unusedVariables false

theorem dg_unit {x : Int} (h0 : 0 < x) (h1 : x < 18446744073709551616) : dg x = [x] := by
  rw [dg_pos h0, dg_nil (by omega), Int.emod_eq_of_lt (by omega) h1]
theorem law07_same_c : Ev (fun k => gradinelaw07_same.f k) true := by
  have w : ∀ x : Int, 0 ≤ x → x < 1000 → Wl [x] := fun x h0 h1 => ⟨Ws_one (by unfold U; omega), by simp⟩
  have M1 := rat_Make_c false (w 1 (by omega) (by omega)) (w 6 (by omega) (by omega)) (by decide) (by decide)
  have M2 := rat_Make_c false (w 2 (by omega) (by omega)) (w 20 (by omega) (by omega)) (by decide) (by decide)
  rw [nv_one, nv_one, if_neg (by decide)] at M1 M2
  have s1 : sgI false 1 = 1 := by decide
  have s2 : sgI false 2 = 2 := by decide
  rw [s1] at M1
  rw [s2] at M2
  have f1 : Fit 1 6 := ⟨by decide, by decide, by decide⟩
  have f2 : Fit 2 20 := ⟨by decide, by decide, by decide⟩
  have A := rat_Add_c f1 f2
  have e : Rq (1 * 20 + 2 * 6) (6 * 20) = (false, [4], [15]) := by
    have g : gc (ab (1 * 20 + 2 * 6)) (6 * 20) = 8 := by decide
    unfold Rq
    rw [if_neg (by decide), g, show ab (1 * 20 + 2 * 6) / 8 = 4 by decide, show (6 * 20 : Int) / 8 = 15 by decide, dg_unit (by omega) (by omega), dg_unit (by omega) (by omega)]
    rfl
  rw [e] at A
  have O := rat_Of_c (n := -3) (by omega) (by omega)
  have e3 : Rq (-3) 1 = (true, [3], [1]) := by
    have g : gc (ab (-3)) 1 = 1 := by decide
    unfold Rq
    rw [if_neg (by decide), g, show ab (-3) / 1 = 3 by decide, show (1 : Int) / 1 = 1 by decide, dg_unit (by omega) (by omega), dg_one]
    rfl
  rw [e3] at O
  have S := rat_Sign_c (b := [1]) true (w 3 (by omega) (by omega))
  rw [nv_one, if_neg (by decide), if_pos rfl] at S
  refine Ev.bind M1 (Ev.bind M2 (Ev.bind A ?_))
  exact Ev.ifp rfl (Ev.ifp rfl (Ev.ifp rfl (Ev.ifp (by decide) (Ev.ifp rfl (Ev.ifp rfl (Ev.ifp (by decide) (Ev.ifp rfl (Ev.bind O (Ev.bind S (Ev.same rfl))))))))))
end Go.Proofs.Ytldcgclbgbhffaa.M
end
section
namespace Go.Proofs.Ytldcgclbgbhffaa.M
open Go.RowKit Go.Proofs.Ytldcgclbgbhffaa.P Go.Proofs.YtldcgclbgbhffaaW.PrintWords Go.Proofs.YtldcgclbgbhffaaW.PrintLast Go.Proofs.YtldcgclbgbhffaaW.PrintMore
set_option linter.unusedVariables false

theorem law07_right_c {a b : List Int} (neg : Bool) (ha : Ws a) (hb : Ws b) : ∃ r, Ev (fun k => gradinelaw07_right.f k neg a b) r ∧ (r = true → ∃ S D, (neg, a, b) = Rq S D ∧ Fb 400 S D) := by
  by_cases la : (a.length : Int) > 6
  · exact ⟨false, Ev.bindc (a := true) (by unfold gradineplain_Long.f; rw [if_pos la]) (Ev.ifp rfl (Ev.same rfl)), by simp⟩
  · by_cases lb : (b.length : Int) > 6
    · exact ⟨false, Ev.bindc (a := true) (by unfold gradineplain_Long.f; rw [if_neg la, decide_eq_true lb]) (Ev.ifp rfl (Ev.same rfl)), by simp⟩
    · obtain ⟨r, h1, h2⟩ := ref07_Right_c (a := a) (b := b) neg ⟨ha, by omega⟩ ⟨hb, by omega⟩ (by omega) (by omega)
      refine ⟨r, Ev.bindc (a := false) (by unfold gradineplain_Long.f; rw [if_neg la, decide_eq_false lb]) (Ev.ifn (by decide) (Ev.bind h1 (Ev.same rfl))), fun h => ?_⟩
      have hR := h2.1 h
      have ba := bl_nv ha
      have bb := bl_nv hb
      have na := nv_nonneg ha
      refine ⟨sgI neg (nv a), nv b, (RR_Rq ha hb hR).symm, RR_pos hb hR, ?_, by omega⟩
      have : ab (sgI neg (nv a)) = nv a := by unfold ab sgI; cases neg <;> simp <;> omega
      rw [this]
      omega
end Go.Proofs.Ytldcgclbgbhffaa.M
end
