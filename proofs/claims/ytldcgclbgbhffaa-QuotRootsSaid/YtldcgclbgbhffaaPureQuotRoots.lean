/- The square of the root is not greater than the number and that of the next number is; squares are told: for all numbers of up to 16 words. -/
import Derived.Test.YtldcgclbgbhffaaS04
import Derived.Test.YtldcgclbgbhffaaC04r
import Derived.Test.YtldcgclbgbhffaaFgradinelaw04QuotRoots
namespace Go.Proofs.Ytldcgclbgbhffaa.Pure
open Go.RowKit Go.Proofs.Ytldcgclbgbhffaa.P Go.Proofs.Ytldcgclbgbhffaa.M Go.Proofs.YtldcgclbgbhffaaW.PrintWords Go.Proofs.YtldcgclbgbhffaaW.PrintLast Go.Proofs.YtldcgclbgbhffaaW.PrintMore

theorem cmpI_tells (x y : Int) : (cmpI x y > 0 ↔ y < x) ∧ (cmpI x y ≤ 0 ↔ x ≤ y) ∧ (cmpI x y = 0 ↔ x = y) := by
  unfold cmpI
  split
  · omega
  · split <;> omega
theorem QuotRoots : gradinelaw04_QuotRoots.Pure := by
  intro a _ _ ha
  refine Ev.rounds ?_
  by_cases la : (a.length : Int) > 16
  · exact Ev.ifp la (Ev.bind law04_same_c (Ev.same rfl))
  · refine Ev.ifn la ?_
    have ha : Wl a := Wl_of (m := 16) ha (by omega)
    have la : a.length ≤ 16 := by omega
    have na := nv_nonneg ha.1
    have ba := bl_nv ha.1
    obtain ⟨r, hr⟩ := root_ex na
    have hr0 := hr.1
    have hrr := hr.2.1
    have hr2 := hr.2.2
    have rle : r ≤ nv a := by
      rcases (show r = 0 ∨ 1 ≤ r by omega) with h | h
      · omega
      · have := Int.mul_le_mul_of_nonneg_right h hr0
        omega
    have br := bl_mono rle
    have lr := dg_len_bl r
    have wr : Wl (dg r) := Wl_dg (by omega)
    have w1 : Wl [1] := ⟨Ws_one U_lit, by simp⟩
    have b1 := bl_add hr0 (show (0 : Int) ≤ 1 by omega) (m := 1024) (by omega) (by decide)
    have l1 := dg_len_bl (r + 1)
    have A := nat_Add_c wr w1 (by omega) (by simp)
    rw [nv_dg hr0, nv_one] at A
    have M1 := prod_Mul_dg hr0 hr0 (by omega) (by omega)
    have M2 := prod_Mul_dg (x := r + 1) (y := r + 1) (by omega) (by omega) (by omega) (by omega)
    have brr := bl_mul hr0 hr0
    have br1 := bl_mul (x := r + 1) (y := r + 1) (by omega) (by omega)
    have C1 := nat_Cmp_c (a := dg (r * r)) (b := a) (Wl_dg (by omega)) ha
    have C2 := nat_Cmp_c (a := dg ((r + 1) * (r + 1))) (b := a) (Wl_dg (by omega)) ha
    rw [nv_dg (Int.mul_nonneg hr0 hr0)] at C1
    rw [nv_dg (Int.mul_nonneg (by omega) (by omega))] at C2
    have k1 := cmpI_tells (r * r) (nv a)
    have k2 := cmpI_tells ((r + 1) * (r + 1)) (nv a)
    have R := quot_Root_c ha (by omega) hr
    refine Ev.bind R (Ev.bind A (Ev.bind M1 (Ev.bind C1 (Ev.ifn (fun k => by have := k1.1.1 k; omega) (Ev.bind M2 (Ev.bind C2 (Ev.ifn (fun k => by have := k2.2.1.1 k; omega) (Ev.bind (quot_Square_c ha (by omega) hr) (Ev.bind C1 ?_)))))))))
    have hb : (decide (r * r = nv a) != (cmpI (r * r) (nv a) == 0)) = false := by
      rw [bne_eq_false_iff_eq]
      by_cases h : r * r = nv a
      · rw [decide_eq_true h, k1.2.2.2 h]; rfl
      · rw [decide_eq_false h]
        exact (beq_eq_false_iff_ne.2 (fun k => h (k1.2.2.1 k))).symm
    rw [hb]
    -- the square of the number itself
    have M3 := prod_Mul_c ha ha (by omega) (by omega)
    have naa := Int.mul_nonneg na na
    have baa := bl_mul na na
    have laa := dg_len_bl (nv a * nv a)
    have e2 : (nv a + 1) * (nv a + 1) = nv a * nv a + 2 * nv a + 1 := by grind
    have Q := quot_Square_c (a := dg (nv a * nv a)) (Wl_dg (by omega)) (by omega) (r := nv a) (by rw [nv_dg naa]; exact ⟨na, by omega, by omega⟩)
    rw [nv_dg naa] at Q
    refine Ev.step (fun k => gradinelaw04_QuotRoots.j0.eq_2 ..) (Ev.ifn (by decide) ?_)
    refine Ev.bind (ref04_Root_c ha (by omega) hr) (Ev.bind (Words_c (a := dg r) (by omega)) (Ev.ifp (by simp) ?_))
    exact Ev.bind M3 (Ev.bind Q (Ev.ifp (by simp) (Ev.bind law04_same_c (Ev.same rfl))))
end Go.Proofs.Ytldcgclbgbhffaa.Pure
