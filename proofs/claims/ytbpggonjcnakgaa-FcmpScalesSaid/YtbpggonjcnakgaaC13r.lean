/- What the reference's functions of fcmp answer: but for its comparison by numbers. -/
import Derived.Test.YtbpggonjcnakgaaC10r
import Derived.Test.YtbpggonjcnakgaaC12q
import Derived.Test.YtbpggonjcnakgaaC13
import Derived.Test.YtbpggonjcnakgaaBgradineref13
namespace Go.Proofs.Ytbpggonjcnakgaa.M
open Go.RowKit Go.Proofs.Ytbpggonjcnakgaa.P Go.Proofs.YtbpggonjcnakgaaW.PrintWords Go.Proofs.YtbpggonjcnakgaaW.PrintLast Go.Proofs.YtbpggonjcnakgaaW.PrintMore
set_option linter.unusedVariables false

theorem ref13_Scale_c {b k : Int} (h : U b) : Ev (fun r => gradineref13_Scale.f r b k) (fscale b k) := by
  have a1 := pm_range b
  have a2 := pe_range b
  refine Ev.bindc (ref09_Finite_c h) ?_
  unfold fscale
  by_cases hx : fx b = 2047
  · rw [if_pos hx, decide_eq_false (by omega)]
    exact Ev.ifn (by decide) (Ev.bindc (ref09_Clean_c h) (Ev.same rfl))
  · rw [if_neg hx, decide_eq_true hx]
    refine Ev.ifp rfl (Ev.bindc (ref09_Parts_c h) (Ev.bindc (ref09_Neg_c h) ?_))
    dsimp only
    have a3 : -1074 ≤ pe b ∧ pe b ≤ 972 := ⟨a2.1, a2.2.1⟩
    clear a2
    rw [clamp_eq k 9000 (by omega), w64_id (by omega) (by omega)]
    have := ref10_Of_c (fs b) (l := [pm b]) ⟨Ws_one (by unfold U; omega), by simp⟩ (by simp) (e := pe b + min (max k (-9000)) 9000) (by omega) (by omega)
    rw [nv_one, fscale_far] at this
    exact Ev.bind this (Ev.same rfl)
theorem ref13_Near_j1 {b n : Int} (hb : U b) (t : Bool) (h0 : 0 ≤ n) (h1 : n ≤ 4611686018427387904) : Ev (fun k => gradineref13_Near.j1 k b n t) (if fs b then -(if t then n + 1 else n) else (if t then n + 1 else n), true) := by
  refine Ev.step (fun k => gradineref13_Near.j1.eq_2 ..) ?_
  cases t
  · refine Ev.ifn (by decide) (Ev.bindc (ref09_Neg_c hb) ?_)
    cases fs b
    · exact Ev.ifn (by decide) (Ev.same rfl)
    · refine Ev.ifp rfl (Ev.same ?_)
      rw [w64_id (by omega) (by omega)]
      rfl
  · refine Ev.ifp rfl (Ev.bindc (ref09_Neg_c hb) ?_)
    cases fs b
    · refine Ev.ifn (by decide) (Ev.same ?_)
      rw [w64_id (by omega) (by omega)]
      rfl
    · refine Ev.ifp rfl (Ev.same ?_)
      rw [w64_id (n := n + 1) (by omega) (by omega), w64_id (by omega) (by omega)]
      rfl
theorem ref13_Near_c {b : Int} (h : U b) : Ev (fun k => gradineref13_Near.f k b) (near b) := by
  have a1 := pm_range b
  have a2 := pe_range b
  refine Ev.bindc (ref09_Finite_c h) ?_
  by_cases hx : fx b = 2047
  · rw [decide_eq_false (by omega), near_no (.inl hx)]
    exact Ev.ifn (by decide) (Ev.same rfl)
  · rw [decide_eq_true hx]
    refine Ev.ifp rfl (Ev.bindc (ref09_Parts_c h) ?_)
    dsimp only
    have a3 : -1074 ≤ pe b ∧ pe b ≤ 972 := ⟨a2.1, a2.2.1⟩
    have a4 := a2.2.2.2
    clear a2
    have b1 : bl (pm b) ≤ 53 := bl_le_of (n := 53) (by omega)
    have wm : Wl [pm b] := ⟨Ws_one (by unfold U; omega), by simp⟩
    have S1 := ref02_Shl_c wm (by simp) (pe b)
    rw [nv_one, shn_nat (by omega)] at S1
    refine Ev.bind S1 ?_
    have hp := pow_pos (pe b).toNat
    have hM0 : 0 ≤ pm b * 2 ^ (pe b).toNat := Int.mul_nonneg a1.1 (by omega)
    have bM : bl (pm b * 2 ^ (pe b).toNat) ≤ 53 + 972 := by
      rcases (show pm b = 0 ∨ 0 < pm b by omega) with h0 | h0
      · rw [h0, Int.zero_mul, bl_zero]; omega
      · have := bl_shl h0 (pe b).toNat
        omega
    have R1 := ref02_Shr_c (a := dg (pm b * 2 ^ (pe b).toNat)) (Wl_dg (by omega)) (n := -pe b) (by omega)
    rw [nv_dg hM0] at R1
    rw [w64_id (n := -pe b) (by omega) (by omega)]
    refine Ev.bind R1 ?_
    have hp2 := pow_pos (-pe b).toNat
    have hW0 : 0 ≤ pm b * 2 ^ (pe b).toNat / 2 ^ (-pe b).toNat := Int.ediv_nonneg hM0 (by omega)
    have hWle : pm b * 2 ^ (pe b).toNat / 2 ^ (-pe b).toNat ≤ pm b * 2 ^ (pe b).toNat := Int.ediv_le_self _ hM0
    have bW := bl_mono hWle
    have B := ref02_Bits_c (l := dg (pm b * 2 ^ (pe b).toNat / 2 ^ (-pe b).toNat)) (Wl_dg (by omega))
    rw [nv_dg hW0] at B
    refine Ev.bind B ?_
    have bb : bl (pm b * 2 ^ (pe b).toNat / 2 ^ (-pe b).toNat) > 62 ↔ bl (pm b) + pe b > 62 := by
      rcases Int.lt_or_le (pe b) 0 with he | he
      · have e1 : pm b * 2 ^ (pe b).toNat = pm b := by rw [show (pe b).toNat = 0 by omega, Int.pow_zero, Int.mul_one]
        rw [e1] at bW ⊢
        omega
      · have e1 : (-pe b).toNat = 0 := by omega
        rw [e1, Int.pow_zero, Int.ediv_one, bl_shl (by omega)]
        omega
    by_cases h1 : bl (pm b) + pe b > 62
    · rw [near_no (.inr h1)]
      exact Ev.ifp (bb.2 h1) (Ev.same rfl)
    · rw [near_yes hx (by omega)]
      refine Ev.ifn (fun k => h1 (bb.1 k)) ?_
      have hWlt : pm b * 2 ^ (pe b).toNat / 2 ^ (-pe b).toNat < 4611686018427387904 := by
        have l := bl_lt (pm b * 2 ^ (pe b).toNat / 2 ^ (-pe b).toNat)
        have hn := bl_nonneg (pm b * 2 ^ (pe b).toNat / 2 ^ (-pe b).toNat)
        have := pow_le_pow (a := (bl (pm b * 2 ^ (pe b).toNat / 2 ^ (-pe b).toNat)).toNat) (b := 62) (by
          have : ¬ bl (pm b * 2 ^ (pe b).toNat / 2 ^ (-pe b).toNat) > 62 := fun k => h1 (bb.1 k)
          omega)
        omega
      clear S1 R1 B bb
      have j0 : Ev (fun k => gradineref13_Near.j0 k b (pm b) (pe b) (dg (pm b * 2 ^ (pe b).toNat / 2 ^ (-pe b).toNat)) (pm b * 2 ^ (pe b).toNat / 2 ^ (-pe b).toNat)) (if fs b then -(ru (pm b) (pe b) 0) else ru (pm b) (pe b) 0, true) := by
        refine Ev.step (fun k => gradineref13_Near.j0.eq_2 ..) ?_
        by_cases h2 : pe b < 0
        · refine Ev.ifp h2 ?_
          obtain ⟨d, hd⟩ : ∃ d : Nat, -pe b = d := ⟨(-pe b).toNat, by omega⟩
          have e1 : pm b * 2 ^ (pe b).toNat = pm b := by rw [show (pe b).toNat = 0 by omega, Int.pow_zero, Int.mul_one]
          have er : ru (pm b) (pe b) 0 = rnd (pm b) d := by
            unfold ru
            rw [show (0 - pe b).toNat = d by omega, show (pe b - 0).toNat = 0 by omega, Int.pow_zero, Int.mul_one]
          rw [er, w64_id (n := -pe b) (by omega) (by omega)]
          rw [e1] at hW0 hWle bW bM hWlt ⊢
          rw [hd] at hW0 hWle bW hp2 hWlt ⊢
          rw [Int.toNat_natCast] at hW0 hWle bW hp2 hWlt ⊢
          have hd0 : d ≤ 1074 := by omega
          generalize pm b = m at *
          have hdm := Int.mul_ediv_add_emod m (2 ^ d)
          have hm0 := Int.emod_nonneg m (show (2 : Int) ^ d ≠ 0 by omega)
          have hm1 := Int.emod_lt_of_pos m hp2
          rw [Int.mul_comm] at hdm
          have hp0 : 0 ≤ m / 2 ^ d * 2 ^ d := Int.mul_nonneg hW0 (by omega)
          have wq : Wl (dg (m / 2 ^ d)) := Wl_dg (by omega)
          have lq := dg_len_bl (m / 2 ^ d)
          have S2 := ref02_Shl_c wq (by omega) (d : Int)
          rw [nv_dg hW0, shn_nat (by omega), Int.toNat_natCast] at S2
          refine Ev.bind S2 ?_
          have bp := bl_mono (show m / 2 ^ d * 2 ^ d ≤ m by omega)
          have lp := dg_len_bl (m / 2 ^ d * 2 ^ d)
          have D := ref02_Sub_c wm (b := dg (m / 2 ^ d * 2 ^ d)) (Wl_dg (by omega)) (by simp) (by omega) (by rw [nv_one, nv_dg hp0]; omega)
          rw [nv_one, nv_dg hp0, show m - m / 2 ^ d * 2 ^ d = m % 2 ^ d by omega] at D
          refine Ev.bind D ?_
          have br := bl_mono (show m % 2 ^ d ≤ m by omega)
          have lr := dg_len_bl (m % 2 ^ d)
          have S3 := ref02_Shl_c (a := dg (m % 2 ^ d)) (Wl_dg (by omega)) (by omega) 1
          rw [nv_dg hm0, shn_nat (by omega), show (1 : Int).toNat = 1 from rfl, Int.pow_one] at S3
          refine Ev.bind S3 ?_
          have w1 : Wl [1] := ⟨Ws_one (by unfold U; omega), by decide⟩
          have S4 := ref02_Shl_c w1 (by decide) (d : Int)
          rw [nv_one, shn_nat (by omega), Int.toNat_natCast, Int.one_mul] at S4
          refine Ev.bind S4 ?_
          have bd : bl ((2 : Int) ^ d) ≤ d + 1 := bl_le_of (n := d + 1) (by rw [Int.pow_succ]; omega)
          have br2 : bl (m % 2 ^ d * 2) ≤ 54 := bl_le_of (n := 54) (by omega)
          have C := ref02_Cmp_c (a := dg (m % 2 ^ d * 2)) (b := dg (2 ^ d)) (Wl_dg (by omega)) (Wl_dg (by omega))
          rw [nv_dg (by omega), nv_dg (by omega)] at C
          refine Ev.bind C ?_
          clear S2 D S3 S4 C
          have J := fun t => ref13_Near_j1 (n := m / 2 ^ d) h t hW0 (by omega)
          by_cases h5 : cmpI (m % 2 ^ d * 2) (2 ^ d) > 0
          · refine Ev.ifp h5 ((J true).eqr ?_)
            have e1 : rnd m d = m / 2 ^ d + 1 := by
              unfold rnd
              rw [if_pos (.inl (by have := cmpI_more.1 h5; omega))]
            rw [e1]
            rfl
          · refine Ev.ifn h5 ?_
            by_cases h6 : cmpI (m % 2 ^ d * 2) (2 ^ d) = 0
            · have h7 := cmpI_same.1 h6
              refine Ev.ifp h6 ((J _).eqr ?_)
              have e1 : rnd m d = if (Int.tmod (m / 2 ^ d) 2 == 1) = true then m / 2 ^ d + 1 else m / 2 ^ d := by
                rw [Int.tmod_eq_emod_of_nonneg hW0]
                unfold rnd
                by_cases ho : m / 2 ^ d % 2 = 1
                · rw [if_pos (.inr ⟨by omega, ho⟩), if_pos (by rw [ho]; rfl)]
                · rw [if_neg (by omega), if_neg (by rw [beq_iff_eq]; exact ho)]
              rw [e1]
            · refine Ev.ifn h6 ((J false).eqr ?_)
              have e1 : rnd m d = m / 2 ^ d := by
                unfold rnd
                rw [if_neg ?_]
                intro k
                rcases k with k | k
                · exact h5 (cmpI_more.2 (by omega))
                · exact h6 (cmpI_same.2 (by omega))
              rw [e1]
              rfl
        · refine Ev.ifn h2 (Ev.bindc (ref09_Neg_c h) ?_)
          have er : ru (pm b) (pe b) 0 = pm b * 2 ^ (pe b).toNat / 2 ^ (-pe b).toNat := by
            unfold ru
            rw [show (0 - pe b).toNat = 0 by omega, rnd_zero, show pe b - 0 = pe b by omega, show (-pe b).toNat = 0 by omega, Int.pow_zero, Int.ediv_one]
          rw [er, w64_id (by omega) (by omega)]
          cases fs b
          · exact Ev.ifn (by decide) (Ev.same rfl)
          · exact Ev.ifp rfl (Ev.same rfl)
      generalize pm b * 2 ^ (pe b).toNat / 2 ^ (-pe b).toNat = W at *
      rcases (show W = 0 ∨ 0 < W by omega) with h0 | h0
      · rw [h0] at j0 ⊢
        exact Ev.ifn (by decide) j0
      · rw [rd_dg_zero h0 (by omega)] at j0 ⊢
        refine Ev.ifp (by simp) (Ev.ifp (by simp) ?_)
        rw [show rd [W] 0 = W from rfl, w64_id (by omega) (by omega)]
        exact j0
end Go.Proofs.Ytbpggonjcnakgaa.M
