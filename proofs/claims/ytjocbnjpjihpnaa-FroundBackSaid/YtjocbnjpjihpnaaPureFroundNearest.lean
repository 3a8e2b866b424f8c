/- No finite double is nearer to a number than the one that is told; of two that are as near it is the even one: for numbers of up to 20 words. -/
import Derived.Test.YtjocbnjpjihpnaaCCb
import Derived.Test.YtjocbnjpjihpnaaCCa
import Derived.Test.YtjocbnjpjihpnaaPureFroundRats
import Derived.Test.YtjocbnjpjihpnaaFgradinelaw10apart
import Derived.Test.YtjocbnjpjihpnaaFgradinelaw10FroundNearest
namespace Go.Proofs.Ytjocbnjpjihpnaa.Pure
open Go.RowKit Go.Proofs.Ytjocbnjpjihpnaa.P Go.Proofs.Ytjocbnjpjihpnaa.M Go.Proofs.YtjocbnjpjihpnaaW.PrintWords Go.Proofs.YtjocbnjpjihpnaaW.PrintLast Go.Proofs.YtjocbnjpjihpnaaW.PrintMore

theorem fb_of {neg : Bool} {a b : List Int} (ha : Ws a) (hb : Ws b) (la : a.length ≤ 20) (lb : b.length ≤ 20) (hB : 0 < nv b) : Fb 1280 (sgI neg (nv a)) (nv b) := by
  have e : ab (sgI neg (nv a)) = nv a := by
    have := nv_nonneg ha
    unfold ab sgI
    cases neg <;> simp <;> omega
  have h1 := bl_nv ha
  have h2 := bl_nv hb
  exact ⟨hB, by rw [e]; omega, by omega⟩
theorem fb_V (z : Int) : Fb 2200 (SV z) LL := ⟨LL_pos, by rw [ab_SV]; exact bl_V z, by have := bl_LL; omega⟩
theorem Fb_sub {n m S D S' D' : Int} (h : Fb n S D) (h' : Fb m S' D') : Fb (n + m + 1) (S * D' - S' * D) (D * D') := by
  have := Fb_add h (Fb_neg h')
  rw [Int.neg_mul] at this
  exact this
theorem Fb_ab {n S D : Int} (h : Fb n S D) : Fb n (ab S) D := by
  have e : ab (ab S) = ab S := by
    have := ab_nonneg S
    unfold ab at *
    split <;> omega
  exact ⟨h.1, by rw [e]; exact h.2.1, h.2.2⟩
theorem sgI_sub (s : Bool) (x y : Int) : sgI s x - sgI s y = sgI s (x - y) := by unfold sgI; cases s <;> simp <;> omega
theorem ab_sgI (s : Bool) (x : Int) : ab (sgI s x) = ab x := by unfold sgI ab; cases s <;> simp <;> (split <;> split <;> omega)
theorem sgI_sgI (s : Bool) (x : Int) : sgI s (sgI s x) = x := by unfold sgI; cases s <;> simp
theorem apart_c {S D S' D' : Int} (h : Fit S D) (h' : Fit S' D') (hF : Fit (S * D' - S' * D) (D * D')) : Ev (fun k => gradinelaw10_apart.f k (Rq S D).1 (Rq S D).2.1 (Rq S D).2.2 (Rq S' D').1 (Rq S' D').2.1 (Rq S' D').2.2) (Rq (ab (S * D' - S' * D)) (D * D')) := by
  refine Ev.bind (ref07_Sub_c h h') ?_
  obtain ⟨N, E, e, n0, e0, bn, be, hs, hz⟩ := Rq_fit hF
  rw [e]
  refine Ev.bind (make_dg false n0 e0 (by omega) (by omega)) (Ev.same ?_)
  have : sgI false N = N := rfl
  rw [this]
  have key : Rq N E = Rq (ab (S * D' - S' * D)) (D * D') := Rq_eq e0 hF.1 (by
    have hab : N * (D * D') = ab (S * D' - S' * D) * E := by
      have := congrArg ab hs
      rw [ab_mul _ hF.1, ab_mul _ e0] at this
      rw [← this]
      congr 1
      unfold ab sgI
      split <;> split <;> omega
    exact hab)
  rw [key]
def FroundNearestS : Prop := ∀ (neg : Bool) (a b : List Int) (x : Int), a.length ≤ maxLen → a.length * 8 ≤ 140737488351232 → (∀ x ∈ a, (Lit.int .u64 x).wf = true) → b.length ≤ maxLen → b.length * 8 ≤ 140737488351232 → (∀ x ∈ b, (Lit.int .u64 x).wf = true) → (Lit.int .u64 x).wf = true → ∃ k, gradinelaw10_FroundNearest.f k neg a b x = some true
theorem fR_word {neg : Bool} {N D : Int} (hN : 0 ≤ N) (hD : 0 < D) (hs : neg = true → N ≠ 0) : ∃ w, fR neg N D = sgn neg w ∧ 0 ≤ w ∧ w ≤ INF ∧ (N = 0 → w = 0) ∧ (0 < N → w = fq N D) := by
  by_cases h : N = 0
  · refine ⟨0, ?_, by omega, by unfold INF; omega, fun _ => rfl, fun q => by omega⟩
    unfold fR
    rw [if_pos h]
    cases neg
    · rfl
    · exact absurd h (hs rfl)
  · refine ⟨fq N D, ?_, fq_range.1, fq_range.2, fun q => absurd q h, fun _ => rfl⟩
    unfold fR
    rw [if_neg h]
theorem over_num : V 9218868437227405311 = 9007199254740991 * (2 * 2 ^ 2044) ∧ V 8975674057349398528 = 2 ^ 2044 ∧ fs 9218868437227405311 = false ∧ fs 8975674057349398528 = false := by
  refine ⟨?_, ?_, by decide, by decide⟩
  · rw [V_high (n := 2045) (by decide), pow_2044]
    have : fr 9218868437227405311 + 4503599627370496 = 9007199254740991 := by decide
    rw [this]
  · rw [V_high (n := 1992) (by decide)]
    have : fr 8975674057349398528 + 4503599627370496 = 2 ^ (52 : Nat) := by decide
    rw [this, ← Int.pow_add]
theorem FroundNearest : FroundNearestS := by
  intro neg a b z _ _ ha _ _ hb hz
  have hz : U z := wf_u64 hz
  have ha : Ws a := fun y hy => wf_u64 (ha y hy)
  have hb : Ws b := fun y hy => wf_u64 (hb y hy)
  refine Ev.rounds ?_
  obtain ⟨r, h1, h2⟩ := law10_right_c neg ha hb
  refine Ev.bind h1 ?_
  cases r
  · exact Ev.ifn (by decide) (Ev.bind law10_same_c (Ev.same rfl))
  refine Ev.ifp rfl ?_
  obtain ⟨la, lb, hR⟩ := h2 rfl
  have hB := RR_pos hb hR
  have hA := nv_nonneg ha
  have wa : Wl a := ⟨ha, by omega⟩
  have wb : Wl b := ⟨hb, by omega⟩
  have hFb := fb_of (neg := neg) ha hb la lb hB
  have b1 := bl_nv ha
  have b2 := bl_nv hb
  have hrq := RR_Rq ha hb hR
  have hs : neg = true → nv a ≠ 0 := fun h e => by
    have := hR.1
    rw [e] at this
    have h0 : dg 0 = [] := by decide
    rw [h0] at this
    exact hR.2.2.2.1 h (by rw [← this]; rfl)
  obtain ⟨w, ew, w0, w1, wz, wp⟩ := fR_word hA hB hs
  have hw63 : w < 9223372036854775808 := by unfold INF at w1; omega
  obtain ⟨s1, s2, s3, s4⟩ := sgn_fields neg w0 hw63
  have F1 := fround_FromRat_c neg wa wb (by omega) (by omega) hB
  rw [ew] at F1
  refine Ev.bind F1 (Ev.bindc (ref09_Kind_c s4) ?_)
  have hk : fk (sgn neg w) ≠ 4 := fun h => by
    have := (fk_eq (sgn neg w)).1.1 h
    rw [s1, s2] at this
    unfold fx fr at this
    unfold INF at w1
    omega
  refine Ev.ifn hk (Ev.bindc (ref09_Neg_c s4) ?_)
  rw [s3]
  have hbne : (neg != neg) = false := by cases neg <;> rfl
  rw [hbne]
  unfold gradinelaw10_FroundNearest.j0
  refine Ev.ifn (by decide) (Ev.bindc (ref09_Finite_c s4) ?_)
  by_cases hf : fx w = 2047
  · -- not finite
    rw [s1, decide_eq_false (by omega)]
    refine Ev.ifn (by decide) ?_
    obtain ⟨v1, v2, v3, v4⟩ := over_num
    have t1 := ref10_ToRat_c (b := 9218868437227405311) (by unfold U; omega)
    have t2 := ref10_ToRat_c (b := 8975674057349398528) (by unfold U; omega)
    have sv1 : SV 9218868437227405311 = 9007199254740991 * (2 * 2 ^ 2044) := by unfold SV; rw [v3, v1]; rfl
    have sv2 : SV 8975674057349398528 = 2 ^ 2044 := by unfold SV; rw [v4, v2]; rfl
    have ft1 := fit_V 9218868437227405311
    have ft2 := fit_V 8975674057349398528
    rw [sv1] at t1 ft1
    rw [sv2] at t2 ft2
    refine Ev.bind t1 (Ev.bind t2 (Ev.bind (ref07_Make_c false wa wb (by omega) (by omega) hB) (Ev.bind (ref07_Add_c ft1 ft2) ?_)))
    have hwI : w = INF := by
      unfold fx at hf
      unfold INF at *
      omega
    have hN : 0 < nv a := by
      rcases Int.lt_or_le 0 (nv a) with k | k
      · exact k
      · have := wz (by omega)
        unfold INF at hwI
        omega
    have o := over_all hN hB (by rw [← wp hN, hwI]; omega)
    have P := pow_pos 2044
    have fitX : Fit (9007199254740991 * (2 * 2 ^ 2044) * LL + 2 ^ 2044 * LL) (LL * LL) := by
      have := Fb_add (fb_V 9218868437227405311) (fb_V 8975674057349398528)
      rw [sv1, sv2] at this
      exact Fb_fit this (by omega)
    have hc := ref07_Cmp_c (S := sgI false (nv a)) (D := nv b) (Fb_fit (fb_of (neg := false) ha hb la lb hB) (by omega)) fitX
    refine Ev.bind hc (Ev.ifp ?_ (Ev.bind law10_same_c (Ev.same rfl)))
    have e1 : sgI false (nv a) = nv a := rfl
    rw [e1]
    have o1 := Int.mul_le_mul_of_nonneg_right o (show 0 ≤ LL * LL from Int.mul_nonneg (by have := LL_pos; omega) (by have := LL_pos; omega))
    have e2 : 18014398509481983 * 2 ^ 970 * nv b * (LL * LL) = 18014398509481983 * ((LL * 2 ^ 970) * LL * nv b) := by generalize LL = L; generalize (2 : Int) ^ 970 = Q; ac_rfl
    have e3 : (9007199254740991 * (2 * (2 : Int) ^ 2044) * LL + 2 ^ 2044 * LL) * nv b = 18014398509481983 * (2 ^ 2044 * LL * nv b) := by
      have : (18014398509481983 : Int) = 9007199254740991 * 2 + 1 := rfl
      rw [this]
      generalize (2 : Int) ^ 2044 = Q
      generalize LL = L
      rw [Int.add_mul, Int.add_mul]
      congr 1
      · ac_rfl
      · rw [Int.one_mul]
    rw [e2, LL_2044] at o1
    rw [e3]
    unfold sgnI
    split
    · omega
    · split
      · omega
      · omega
  · rw [s1, decide_eq_true (by omega)]
    refine Ev.ifp rfl (Ev.bindc (ref09_Finite_c hz) ?_)
    by_cases hfz : fx z = 2047
    · rw [decide_eq_false (by omega)]
      exact Ev.ifn (by decide) (Ev.bind law10_same_c (Ev.same rfl))
    rw [decide_eq_true (by omega)]
    refine Ev.ifp rfl (Ev.bind (ref10_ToRat_c s4) (Ev.bind (ref10_ToRat_c hz) ?_))
    have svy := sgn_SV neg w0 hw63
    have fy := fit_V (sgn neg w)
    have fz := fit_V z
    rw [svy] at fy ⊢
    have gy := fb_V (sgn neg w)
    have gz := fb_V z
    rw [svy] at gy
    have q1 := Fb_sub hFb gy
    have q2 := Fb_sub hFb gz
    have A1 := apart_c (Fb_fit hFb (by omega)) fy (Fb_fit q1 (by omega))
    have A2 := apart_c (Fb_fit hFb (by omega)) fz (Fb_fit q2 (by omega))
    rw [hrq] at A1 A2
    refine Ev.bind A1 (Ev.bind A2 (Ev.bind (ref07_Cmp_c (Fb_fit (Fb_ab q1) (by omega)) (Fb_fit (Fb_ab q2) (by omega))) ?_))
    have hQ := q1.1
    -- what is nearest
    obtain ⟨z', hz'⟩ := flip_SV neg hz
    have ez : SV z = sgI neg (SV z') := by rw [hz', sgI_sgI]
    have e1 : ab (sgI neg (nv a) * LL - sgI neg (V w) * nv b) = ab (nv a * LL - V w * nv b) := by rw [← sgI_mulr, ← sgI_mulr, sgI_sub, ab_sgI]
    have e2 : ab (sgI neg (nv a) * LL - SV z * nv b) = ab (nv a * LL - SV z' * nv b) := by rw [ez, ← sgI_mulr, ← sgI_mulr, sgI_sub, ab_sgI]
    have near : ab (nv a * LL - V w * nv b) ≤ ab (nv a * LL - SV z' * nv b) ∧ (ab (nv a * LL - V w * nv b) = ab (nv a * LL - SV z' * nv b) → SV z' = V w ∨ w % 2 = 0) := by
      by_cases hN : nv a = 0
      · have hw0 := wz hN
        have v0 : V 0 = 0 := by rw [V_low (by decide)]; decide
        rw [hN, hw0, v0, Int.zero_mul, Int.zero_mul, Int.sub_zero]
        exact ⟨by have := ab_nonneg (0 - SV z' * nv b); have : ab 0 = 0 := by decide
                  omega, fun _ => .inr (by decide)⟩
      · have hN : 0 < nv a := by omega
        have hwI : fq (nv a) (nv b) < INF := by
          rw [← wp hN]
          have : fx INF = 2047 := by decide
          rcases Int.lt_or_le w INF with k | k
          · exact k
          · exact absurd (by rw [show w = INF by omega]; exact this) hf
        have := near_all (z := z') hN hB hwI
        rw [← wp hN] at this
        exact ⟨this.2.2.2.1, this.2.2.2.2⟩
    rw [← e1, ← e2] at near
    have cm := Int.mul_le_mul_of_nonneg_right near.1 (Int.le_of_lt hQ)
    have hle : sgnI (ab (sgI neg (nv a) * LL - sgI neg (V w) * nv b) * (nv b * LL) - ab (sgI neg (nv a) * LL - SV z * nv b) * (nv b * LL)) ≤ 0 := by
      unfold sgnI
      split
      · omega
      · split <;> omega
    refine Ev.ifp hle ?_
    by_cases hlt : sgnI (ab (sgI neg (nv a) * LL - sgI neg (V w) * nv b) * (nv b * LL) - ab (sgI neg (nv a) * LL - SV z * nv b) * (nv b * LL)) < 0
    · exact Ev.ifp hlt (Ev.bind law10_same_c (Ev.same rfl))
    refine Ev.ifn hlt ?_
    have heq : ab (sgI neg (nv a) * LL - sgI neg (V w) * nv b) = ab (sgI neg (nv a) * LL - SV z * nv b) := by
      have : ab (sgI neg (nv a) * LL - sgI neg (V w) * nv b) * (nv b * LL) = ab (sgI neg (nv a) * LL - SV z * nv b) * (nv b * LL) := by
        unfold sgnI at hlt
        split at hlt
        · omega
        · split at hlt <;> omega
      exact Int.eq_of_mul_eq_mul_right (by omega) this
    have r1 := Rq_len fy
    have hSame := ref07_Same_c (s := (Rq (sgI neg (V w)) LL).1) (a := (Rq (sgI neg (V w)) LL).2.1) (b := (Rq (sgI neg (V w)) LL).2.2) (s' := (Rq (SV z) LL).1) (a' := (Rq (SV z) LL).2.1) (b' := (Rq (SV z) LL).2.2) (by omega) (by omega)
    refine Ev.bind hSame ?_
    by_cases hS : sgI neg (V w) = SV z
    · rw [decide_eq_true (by rw [hS])]
      exact Ev.ifp rfl (Ev.bind law10_same_c (Ev.same rfl))
    · by_cases hd : ((Rq (sgI neg (V w)) LL).1, (Rq (sgI neg (V w)) LL).2.1, (Rq (sgI neg (V w)) LL).2.2) = ((Rq (SV z) LL).1, (Rq (SV z) LL).2.1, (Rq (SV z) LL).2.2)
      · rw [decide_eq_true hd]
        exact Ev.ifp rfl (Ev.bind law10_same_c (Ev.same rfl))
      · rw [decide_eq_false hd]
        refine Ev.ifn (by decide) (Ev.ifp ?_ (Ev.bind law10_same_c (Ev.same rfl)))
        have := (near.2 heq).resolve_left fun k => hS (by rw [ez, k])
        rw [Int.tmod_eq_emod_of_nonneg (by unfold sgn; split <;> omega)]
        unfold sgn
        split <;> omega
end Go.Proofs.Ytjocbnjpjihpnaa.Pure
