/- The double that is nearest to what a double is is that one; a greater number's is not less: for numbers of up to 20 words. -/
import Derived.Test.YtjocbnjpjihpnaaPureFroundNearest
import Derived.Test.YtjocbnjpjihpnaaFgradinelaw10FroundBack
namespace Go.Proofs.Ytjocbnjpjihpnaa.Pure
open Go.RowKit Go.Proofs.Ytjocbnjpjihpnaa.P Go.Proofs.Ytjocbnjpjihpnaa.M Go.Proofs.YtjocbnjpjihpnaaW.PrintWords Go.Proofs.YtjocbnjpjihpnaaW.PrintLast Go.Proofs.YtjocbnjpjihpnaaW.PrintMore

/-- What is known of a right number of up to 20 words. -/
structure Rt (neg : Bool) (a b : List Int) : Prop where
  wa : Wl a
  wb : Wl b
  la : a.length ≤ 20
  lb : b.length ≤ 20
  rq : Rq (sgI neg (nv a)) (nv b) = (neg, a, b)
  pos : 0 < nv b
  nn : 0 ≤ nv a
  sg : neg = true → nv a ≠ 0
  fb : Fb 1280 (sgI neg (nv a)) (nv b)
theorem rt_of {neg : Bool} {a b : List Int} (ha : Ws a) (hb : Ws b) (h2 : a.length ≤ 20 ∧ b.length ≤ 20 ∧ RR neg a b) : Rt neg a b := by
  obtain ⟨la, lb, hR⟩ := h2
  have hB := RR_pos hb hR
  refine ⟨⟨ha, by omega⟩, ⟨hb, by omega⟩, la, lb, RR_Rq ha hb hR, hB, nv_nonneg ha, fun h e => ?_, fb_of ha hb la lb hB⟩
  have := hR.1
  rw [e] at this
  have h0 : dg 0 = [] := by decide
  rw [h0] at this
  exact hR.2.2.2.1 h (by rw [← this]; rfl)
theorem back_tail {k : Nat → Nat} {xn yn : Bool} {xa xb ya yb : List Int} (hx : Rt xn xa xb) (hy : Rt yn ya yb) (h : sgI xn (nv xa) * nv yb ≤ sgI yn (nv ya) * nv xb) : Ev (fun k => gradinelaw10_FroundBack.j1 k xn xa xb yn ya yb) true := by
  obtain ⟨w, ew, w0, w1, wz, wp⟩ := fR_word hx.nn hx.pos hx.sg
  obtain ⟨v, ev, v0, v1, vz, vp⟩ := fR_word hy.nn hy.pos hy.sg
  have hw63 : w < 9223372036854775808 := by unfold INF at w1; omega
  have hv63 : v < 9223372036854775808 := by unfold INF at v1; omega
  obtain ⟨_, _, s3, s4⟩ := sgn_fields xn w0 hw63
  obtain ⟨_, _, t3, t4⟩ := sgn_fields yn v0 hv63
  have F1 := fround_FromRat_c xn hx.wa hx.wb (by have := hx.la; omega) (by have := hx.lb; omega) hx.pos
  have F2 := fround_FromRat_c yn hy.wa hy.wb (by have := hy.la; omega) (by have := hy.lb; omega) hy.pos
  rw [ew] at F1
  rw [ev] at F2
  refine Ev.step (fun k => gradinelaw10_FroundBack.j1.eq_2 ..) (Ev.bind F1 (Ev.bind F2 (Ev.bindc (ref09_Neg_c s4) ?_)))
  rw [s3]
  have hx0 := hx.nn
  have hy0 := hy.nn
  have px := hx.pos
  have py := hy.pos
  have sx := hx.sg
  have sy := hy.sg
  cases xn
  · refine Ev.ifn (by decide) (Ev.bindc (ref09_Neg_c t4) ?_)
    rw [t3]
    have h : nv xa * nv yb ≤ sgI yn (nv ya) * nv xb := h
    cases yn
    · have h : nv xa * nv yb ≤ nv ya * nv xb := h
      refine Ev.ifn (by decide) (Ev.ifp ?_ (Ev.bind law10_same_c (Ev.same rfl)))
      show w ≤ v
      by_cases h0 : nv xa = 0
      · rw [wz h0]; exact v0
      · by_cases h1 : nv ya = 0
        · rw [h1, Int.zero_mul] at h
          have := Int.mul_pos (show 0 < nv xa by omega) py
          omega
        · rw [wp (by omega), vp (by omega)]
          exact fq_mono (by omega) px (by omega) py h
    · exfalso
      have h : nv xa * nv yb ≤ -(nv ya) * nv xb := h
      have h1 := sy rfl
      have := Int.mul_pos (show 0 < nv ya by omega) px
      have h2 := Int.mul_nonneg hx0 (Int.le_of_lt py)
      rw [Int.neg_mul] at h
      omega
  · refine Ev.ifp rfl (Ev.bindc (ref09_Neg_c t4) ?_)
    rw [t3]
    cases yn
    · exact Ev.ifn (by decide) (Ev.bind law10_same_c (Ev.same rfl))
    · refine Ev.ifp rfl (Ev.ifp ?_ (Ev.bind law10_same_c (Ev.same rfl)))
      have h : -(nv xa) * nv yb ≤ -(nv ya) * nv xb := h
      rw [Int.neg_mul, Int.neg_mul] at h
      show w + 9223372036854775808 ≥ v + 9223372036854775808
      have h1 := sx rfl
      have h2 := sy rfl
      rw [wp (by omega), vp (by omega)]
      have := fq_mono (N := nv ya) (D := nv yb) (N' := nv xa) (D' := nv xb) (by omega) py (by omega) px (by omega)
      omega
def FroundBackS : Prop := ∀ (x : Int) (neg : Bool) (a b : List Int) (neg' : Bool) (c d : List Int), (Lit.int .u64 x).wf = true → a.length ≤ maxLen → a.length * 8 ≤ 140737488351232 → (∀ x ∈ a, (Lit.int .u64 x).wf = true) → b.length ≤ maxLen → b.length * 8 ≤ 140737488351232 → (∀ x ∈ b, (Lit.int .u64 x).wf = true) → c.length ≤ maxLen → c.length * 8 ≤ 140737488351232 → (∀ x ∈ c, (Lit.int .u64 x).wf = true) → d.length ≤ maxLen → d.length * 8 ≤ 140737488351232 → (∀ x ∈ d, (Lit.int .u64 x).wf = true) → ∃ k, gradinelaw10_FroundBack.f k x neg a b neg' c d = some true
theorem FroundBack : FroundBackS := by
  intro z xn xa xb yn ya yb hz _ _ ha _ _ hb _ _ hc _ _ hd
  have hz : U z := wf_u64 hz
  have ha : Ws xa := fun y hy => wf_u64 (ha y hy)
  have hb : Ws xb := fun y hy => wf_u64 (hb y hy)
  have hc : Ws ya := fun y hy => wf_u64 (hc y hy)
  have hd : Ws yb := fun y hy => wf_u64 (hd y hy)
  refine Ev.rounds ?_
  obtain ⟨r, h1, h2⟩ := law10_right_c xn ha hb
  refine Ev.bind h1 ?_
  cases r
  · exact Ev.ifn (by decide) (Ev.bind law10_same_c (Ev.same rfl))
  obtain ⟨s, h3, h4⟩ := law10_right_c yn hc hd
  refine Ev.ifp rfl (Ev.bind h3 ?_)
  cases s
  · exact Ev.ifn (by decide) (Ev.bind law10_same_c (Ev.same rfl))
  refine Ev.ifp rfl ?_
  have hx := rt_of ha hb (h2 rfl)
  have hy := rt_of hc hd (h4 rfl)
  have j0 : Ev (fun k => gradinelaw10_FroundBack.j0 k xn xa xb yn ya yb) true := by
    have C := ref07_Cmp_c (Fb_fit hx.fb (by omega)) (Fb_fit hy.fb (by omega))
    rw [hx.rq, hy.rq] at C
    refine Ev.step (fun k => gradinelaw10_FroundBack.j0.eq_2 ..) (Ev.bind C ?_)
    by_cases h : sgnI (sgI xn (nv xa) * nv yb - sgI yn (nv ya) * nv xb) > 0
    · refine Ev.ifp h (back_tail (k := id) hy hx ?_)
      unfold sgnI at h
      split at h
      · omega
      · split at h <;> omega
    · refine Ev.ifn h (back_tail (k := id) hx hy ?_)
      unfold sgnI at h
      split at h
      · omega
      · split at h <;> omega
  refine Ev.bind (fround_ToRat_c hz) ?_
  by_cases hf : fx z = 2047
  · rw [if_pos hf]
    exact Ev.ifn (by show ¬ (1 : Int) = 0; decide) j0
  · rw [if_neg hf]
    refine Ev.ifp rfl ?_
    have p1 := pm_range z
    have pr := pe_range z
    have hp := pow_pos (pe z).toNat
    have hq := pow_pos (-pe z).toNat
    have h0 : 0 ≤ pm z * 2 ^ (pe z).toNat := Int.mul_nonneg p1.1 (Int.le_of_lt hp)
    have e : Rq (sgI (fs z) (pm z * 2 ^ (pe z).toNat)) (2 ^ (-pe z).toNat) = Rq (SV z) LL := by
      refine Rq_eq hq LL_pos ?_
      have t := tn_V z
      unfold SV sgI LL
      cases fs z
      · simp only [Bool.false_eq_true, if_false]; exact t
      · simp only [if_true]; rw [Int.neg_mul, Int.neg_mul, t]
    obtain ⟨N, E, e2, n0, e0, nle, ele, hs, hz0, _⟩ := Rq_spec (sgI (fs z) (pm z * 2 ^ (pe z).toNat)) hq
    have hab : ab (sgI (fs z) (pm z * 2 ^ (pe z).toNat)) = pm z * 2 ^ (pe z).toNat := by
      rw [ab_sgI]
      unfold ab
      rw [if_neg (by omega)]
    rw [hab] at nle hs
    rw [← e, e2]
    have e53 : (2 : Int) ^ 53 = 9007199254740992 := rfl
    have hb1 : bl (pm z) ≤ 53 := bl_le_of (n := 53) (by omega)
    have bN : bl N ≤ 1100 := by
      have := bl_mono nle
      rcases (show pm z = 0 ∨ 0 < pm z by omega) with k | k
      · rw [k, Int.zero_mul, bl_zero] at this; omega
      · rw [bl_shl k] at this
        have := pr.2.2.1 hf
        omega
    have bE : bl E ≤ 1100 := by
      have := bl_mono ele
      have h2 : bl ((2 : Int) ^ (-pe z).toNat) ≤ (((-pe z).toNat + 1 : Nat) : Int) := bl_le_of (by rw [Int.pow_succ]; omega)
      omega
    have wn := Wl_dg (n := N) (by omega)
    have we := Wl_dg (n := E) (by omega)
    have ln := dg_len_bl N
    have le := dg_len_bl E
    have n1 := nv_dg n0
    have n2 := nv_dg (Int.le_of_lt e0)
    have F := fround_FromRat_c (decide (sgI (fs z) (pm z * 2 ^ (pe z).toNat) < 0)) wn we (by omega) (by omega) (by omega)
    rw [n1, n2] at F
    refine Ev.bind F ?_
    have hV : N * LL = V z * E := by
      have t := tn_V z
      have k : N * LL * 2 ^ (-pe z).toNat = V z * E * 2 ^ (-pe z).toNat := by
        have e1 : N * LL * 2 ^ (-pe z).toNat = N * 2 ^ (-pe z).toNat * LL := by generalize LL = L; ac_rfl
        have e3 : V z * E * 2 ^ (-pe z).toNat = V z * 2 ^ (-pe z).toNat * E := by ac_rfl
        rw [e1, e3, hs, ← t, LL_eq]
        generalize (2 : Int) ^ 1074 = L
        ac_rfl
      exact Int.eq_of_mul_eq_mul_right (by omega) k
    have hmw := mw_nonneg z
    have hmw1 : mw z < INF := by
      have := fx_range (b := z)
      have := fr_range (b := z)
      unfold mw INF
      omega
    have hmw63 : mw z < 9223372036854775808 := by unfold INF at hmw1; omega
    have hzw : z = sgn (fs z) (mw z) := word_parts hz
    by_cases hN : N = 0
    · have hv0 : V z = 0 := by
        rw [hN, Int.zero_mul] at hV
        rcases Int.mul_eq_zero.1 hV.symm with k | k
        · exact k
        · omega
      have hm0 := (V_zero z).1 hv0
      rw [hm0] at hzw
      unfold fR
      rw [if_pos hN]
      by_cases hz1 : (0 : Int) = z
      · exact Ev.ifp hz1 j0
      · refine Ev.ifn hz1 (Ev.ifp ?_ (Ev.ifp rfl j0))
        unfold sgn at hzw
        split at hzw
        · omega
        · omega
    · have hNp : 0 < N := by omega
      have hVw : V (mw z) = V z := by
        have : mw (mw z) = mw z := by
          unfold mw fx fr
          unfold mw fx fr INF at hmw1
          unfold mw fx fr at hmw
          omega
        exact V_same this
      have hq := fq_back hNp e0 hmw hmw1 (by rw [hVw]; exact hV)
      unfold fR
      rw [if_neg hN, hq]
      have hneg : decide (sgI (fs z) (pm z * 2 ^ (pe z).toNat) < 0) = fs z := by
        have hpos : 0 < pm z * 2 ^ (pe z).toNat := by
          rcases (show pm z * 2 ^ (pe z).toNat = 0 ∨ 0 < pm z * 2 ^ (pe z).toNat by omega) with k | k
          · exfalso
            apply hN
            apply hz0.2
            rw [k]
            unfold sgI
            split <;> rfl
          · exact k
        unfold sgI
        cases fs z
        · simp only [Bool.false_eq_true, if_false]; exact decide_eq_false (by omega)
        · simp only [if_true]; exact decide_eq_true (by omega)
      rw [hneg]
      exact Ev.ifp hzw.symm j0
end Go.Proofs.Ytjocbnjpjihpnaa.Pure
