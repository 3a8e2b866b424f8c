/- What the functions of rat answer, over numbers. -/
import Derived.Test.YtldcgclbgbhffaaBrat
import Derived.Test.YtldcgclbgbhffaaC07m
import Derived.Test.YtldcgclbgbhffaaC07r
import Derived.Test.YtldcgclbgbhffaaC03
namespace Go.Proofs.Ytldcgclbgbhffaa.M
open Go.RowKit Go.Proofs.Ytldcgclbgbhffaa.P Go.Proofs.YtldcgclbgbhffaaW.PrintWords Go.Proofs.YtldcgclbgbhffaaW.PrintLast Go.Proofs.YtldcgclbgbhffaaW.PrintMore
set_option linter.unusedVariables false

theorem rat_same_c {x y : Int} (hx : 0 ≤ x) (hy : 0 ≤ y) (bx : bl x ≤ 60000) (by_ : bl y ≤ 60000) : Ev (fun k => rat_same.f k (dg x) (dg y)) (decide (x = y)) := by
  have w1 : Wl (dg x) := Wl_dg (by omega)
  have w2 : Wl (dg y) := Wl_dg (by omega)
  have R1 := nat_Right_c w1
  have R2 := nat_Right_c w2
  have C := nat_Cmp_c w1 w2
  rw [nv_dg hx, decide_eq_true rfl] at R1
  rw [nv_dg hy, decide_eq_true rfl] at R2
  rw [nv_dg hx, nv_dg hy] at C
  refine Ev.bindc R1 (Ev.ifp rfl (Ev.bindc R2 (Ev.ifp rfl (Ev.bind C (Ev.same ?_)))))
  congr 1
  unfold cmpI
  by_cases h : x = y
  · rw [decide_eq_true h, if_neg (by omega), if_neg (by omega)]; rfl
  · rw [decide_eq_false h]
    split
    · rfl
    · rw [if_pos (by omega)]; rfl
theorem rat_sum_c {x y : Int} (s s' : Bool) (hx : 0 ≤ x) (hy : 0 ≤ y) (bx : bl x ≤ 60000) (by_ : bl y ≤ 60000) :
    ∃ (t : Bool) (m : Int), Ev (fun k => rat_sum.f k s (dg x) s' (dg y)) (t, dg m) ∧ 0 ≤ m ∧ bl m ≤ 60001 ∧ sgI t m = sgI s x + sgI s' y := by
  have w1 : Wl (dg x) := Wl_dg (by omega)
  have w2 : Wl (dg y) := Wl_dg (by omega)
  have l1 := dg_len_bl x
  have l2 := dg_len_bl y
  by_cases hs : (s == s') = true
  · have e := eq_of_beq hs
    have A := nat_Add_c w1 w2 (by omega) (by omega)
    rw [nv_dg hx, nv_dg hy] at A
    refine ⟨s, x + y, Ev.ifp hs (Ev.bind A (Ev.same rfl)), by omega, ?_, ?_⟩
    · have := bl_add hx hy (m := 60000) bx by_; omega
    · rw [← e]; unfold sgI; cases s <;> simp <;> omega
  · have e : s' = !s := by cases s <;> cases s' <;> simp_all
    by_cases hge : y ≤ x
    · have S := nat_Sub_c w1 w2 (by rw [nv_dg hx, nv_dg hy]; exact hge)
      rw [nv_dg hx, nv_dg hy] at S
      refine ⟨s, x - y, Ev.ifn hs (Ev.bind S (Ev.ifp rfl (Ev.same rfl))), by omega, ?_, ?_⟩
      · have := bl_mono (show x - y ≤ x by omega); omega
      · rw [e]; unfold sgI; cases s <;> simp <;> omega
    · have N := nat_Sub_no w1 w2 (by rw [nv_dg hx, nv_dg hy]; omega)
      have S := nat_Sub_c w2 w1 (by rw [nv_dg hx, nv_dg hy]; omega)
      rw [nv_dg hx, nv_dg hy] at S
      refine ⟨s', y - x, Ev.ifn hs (Ev.bind N (Ev.ifn (by decide) (Ev.bind S (Ev.same rfl)))), by omega, ?_, ?_⟩
      · have := bl_mono (show y - x ≤ y by omega); omega
      · rw [e]; unfold sgI; cases s <;> simp <;> omega
theorem rat_safe_c {x : Int} (hx : 0 < x) (bx : bl x ≤ 60000) : Ev (fun k => rat_safe.f k (dg x)) (dg x) := by
  have B := nat_Bits_c (l := dg x) (Wl_dg (by omega))
  rw [nv_dg (by omega)] at B
  have := bl_pos hx
  exact Ev.bind B (Ev.ifn (by omega) (Ev.same rfl))
theorem lowest_dg {n d : Int} (neg : Bool) (hn : 0 ≤ n) (hd : 0 < d) (bn : bl n ≤ 63000) (bd : bl d ≤ 63000) : Ev (fun k => rat_lowest.f k neg (dg n) (dg d)) (Rq (sgI neg n) d) := by
  have ln := dg_len_bl n
  have ld := dg_len_bl d
  have := rat_lowest_c neg (a := dg n) (b := dg d) (Wl_dg (by omega)) (Wl_dg (by omega)) (by omega) (by omega) (by rw [nv_dg (by omega)]; exact hd)
  rwa [nv_dg hn, nv_dg (by omega)] at this
theorem rat_Add_c {S D S' D' : Int} (h : Fit S D) (h' : Fit S' D') : Ev (fun k => rat_Add.f k (Rq S D).1 (Rq S D).2.1 (Rq S D).2.2 (Rq S' D').1 (Rq S' D').2.1 (Rq S' D').2.2) (Rq (S * D' + S' * D) (D * D')) := by
  obtain ⟨N, E, h1, h2, h3, h4, h5, h6, h7⟩ := Rq_fit h
  obtain ⟨N', E', k1, k2, k3, k4, k5, k6, k7⟩ := Rq_fit h'
  rw [h1, k1]
  dsimp only
  have dd : 0 < D * D' := Int.mul_pos h.1 h'.1
  refine Ev.bind (rat_same_c (Int.le_of_lt h3) (Int.le_of_lt k3) (by omega) (by omega)) ?_
  by_cases hE : E = E'
  · refine Ev.ifp (decide_eq_true hE) ?_
    obtain ⟨t, m, q1, q2, q3, q4⟩ := rat_sum_c (decide (S < 0)) (decide (S' < 0)) h2 k2 (by omega) (by omega)
    refine Ev.bind q1 (Ev.bind (rat_safe_c h3 (by omega)) (Ev.bind (lowest_dg t q2 h3 (by omega) (by omega)) (Ev.same ?_)))
    rw [q4]
    congr 1
    have e : Rq (sgI (decide (S < 0)) N + sgI (decide (S' < 0)) N') E = Rq (S * D' + S' * D) (D * D') := by
      refine Rq_eq h3 dd ?_
      generalize sgI (decide (S < 0)) N = σ at *
      generalize sgI (decide (S' < 0)) N' = σ' at *
      subst hE
      have a1 : (σ + σ') * (D * D') = (σ * D) * D' + (σ' * D') * D := by grind
      have a2 : (S * D' + S' * D) * E = (S * E) * D' + (S' * E) * D := by grind
      rw [a1, a2, h6, k6]
    rw [e]
  · refine Ev.ifn (by simp [hE]) ?_
    have lN := dg_len_bl N
    have lE := dg_len_bl E
    have lN' := dg_len_bl N'
    have lE' := dg_len_bl E'
    have M1 := prod_Mul_c (a := dg N) (b := dg E') (Wl_dg (by omega)) (Wl_dg (by omega)) (by omega) (by omega)
    have M2 := prod_Mul_c (a := dg N') (b := dg E) (Wl_dg (by omega)) (Wl_dg (by omega)) (by omega) (by omega)
    have M3 := prod_Mul_c (a := dg E) (b := dg E') (Wl_dg (by omega)) (Wl_dg (by omega)) (by omega) (by omega)
    rw [nv_dg h2, nv_dg (Int.le_of_lt k3)] at M1
    rw [nv_dg k2, nv_dg (Int.le_of_lt h3)] at M2
    rw [nv_dg (Int.le_of_lt h3), nv_dg (Int.le_of_lt k3)] at M3
    have b1 := bl_mul h2 (Int.le_of_lt k3)
    have b2 := bl_mul k2 (Int.le_of_lt h3)
    have b3 := bl_mul (Int.le_of_lt h3) (Int.le_of_lt k3)
    have x0 : 0 ≤ N * E' := Int.mul_nonneg h2 (Int.le_of_lt k3)
    have y0 : 0 ≤ N' * E := Int.mul_nonneg k2 (Int.le_of_lt h3)
    have d0 : 0 < E * E' := Int.mul_pos h3 k3
    obtain ⟨t, m, q1, q2, q3, q4⟩ := rat_sum_c (decide (S < 0)) (decide (S' < 0)) x0 y0 (by omega) (by omega)
    refine Ev.bind M1 (Ev.bind M2 (Ev.bind q1 (Ev.bind M3 (Ev.bind (rat_safe_c d0 (by omega)) (Ev.bind (lowest_dg t q2 d0 (by omega) (by omega)) (Ev.same ?_))))))
    rw [q4]
    congr 1
    have e : Rq (sgI (decide (S < 0)) (N * E') + sgI (decide (S' < 0)) (N' * E)) (E * E') = Rq (S * D' + S' * D) (D * D') := by
      refine Rq_eq d0 dd ?_
      have m1 : sgI (decide (S < 0)) (N * E') = sgI (decide (S < 0)) N * E' := by unfold sgI; cases decide (S < 0) <;> simp [Int.neg_mul]
      have m2 : sgI (decide (S' < 0)) (N' * E) = sgI (decide (S' < 0)) N' * E := by unfold sgI; cases decide (S' < 0) <;> simp [Int.neg_mul]
      rw [m1, m2]
      generalize sgI (decide (S < 0)) N = σ at *
      generalize sgI (decide (S' < 0)) N' = σ' at *
      have a1 : (σ * E' + σ' * E) * (D * D') = (σ * D) * (D' * E') + (σ' * D') * (D * E) := by grind
      have a2 : (S * D' + S' * D) * (E * E') = (S * E) * (D' * E') + (S' * E') * (D * E) := by grind
      rw [a1, a2, h6, k6]
    rw [e]
theorem rat_Of_c {n : Int} (h0 : -9223372036854775808 ≤ n) (h1 : n ≤ 9223372036854775807) : Ev (fun k => rat_Of.f k n) (Rq n 1) := by
  have g : ab n / gc (ab n) 1 = ab n ∧ (1 : Int) / gc (ab n) 1 = 1 := by
    rw [gc_one (ab_nonneg n), Int.ediv_one]; exact ⟨rfl, rfl⟩
  by_cases hn : n < 0
  · have e : IntKind.u64.wrap (-(IntKind.u64.wrap n)) = -n := by
      show Int.emod _ _ = _
      have : IntKind.u64.wrap n = n + 18446744073709551616 := by
        show n % 18446744073709551616 = _
        omega
      rw [this]
      show (-(n + 18446744073709551616)) % 18446744073709551616 = _
      omega
    refine Ev.ifp hn ?_
    rw [e]
    refine Ev.bind (nat_Of_c (by unfold U; omega)) (Ev.bindc (a := [1]) rfl (Ev.same ?_))
    unfold Rq
    rw [if_neg (by omega), g.1, g.2, dg_one, decide_eq_true hn]
    unfold ab
    rw [if_pos hn]
  · refine Ev.ifn hn ?_
    rw [wu_id (n := n) (by omega) (by omega)]
    refine Ev.bind (nat_Of_c (by unfold U; omega)) (Ev.bindc (a := [1]) rfl (Ev.same ?_))
    unfold Rq
    by_cases hz : n = 0
    · rw [if_pos hz, hz, dg_zero]
    · rw [if_neg hz, g.1, g.2, dg_one, decide_eq_false hn]
      unfold ab
      rw [if_neg hn]
end Go.Proofs.Ytldcgclbgbhffaa.M
