/- What fround.Of answers. -/
import Derived.Test.YtbpggonjcnakgaaC10
import Derived.Test.YtbpggonjcnakgaaM15
import Derived.Test.YtbpggonjcnakgaaBfround
namespace Go.Proofs.Ytbpggonjcnakgaa.M
open Go.RowKit Go.Proofs.Ytbpggonjcnakgaa.P Go.Proofs.YtbpggonjcnakgaaW.PrintWords Go.Proofs.YtbpggonjcnakgaaW.PrintLast Go.Proofs.YtbpggonjcnakgaaW.PrintMore
set_option linter.unusedVariables false

theorem Rd_ce {N e : Int} (hN : 0 ≤ N) (hb : bl N ≤ 10000) (h0 : -1099511627777 ≤ e) (h1 : e ≤ 1099511627776) : Rd N (ce e) = Rd N e := by
  have hE := ce_range e
  rcases (show -1099511627776 ≤ e ∨ e = -1099511627777 by omega) with h | h
  · rw [ce_id h h1]
  · have : ce e = -1099511627776 := by rw [h]; decide
    rw [Rd_none hN (by omega), Rd_none hN (by omega)]
theorem fround_Of_j {l : List Int} (neg : Bool) (hl : Wl l) (hn : l.length ≤ 150) {e : Int} (he0 : -1099511627777 ≤ e) (he1 : e ≤ 1099511627776) : Ev (fun k => fround_Of.j0 k neg l e) (sgn neg (Rd (nv l) e)) := by
  have h0 := nv_nonneg hl.1
  have hb := bl_nv hl.1
  refine Ev.step (fun k => fround_Of.j0.eq_2 ..) (Ev.bind (nat_Bits_c hl) ?_)
  have hbN : bl (nv l) ≤ 10000 := by omega
  have hb0 := bl_nonneg (nv l)
  by_cases h1 : bl (nv l) ≤ 64
  · refine Ev.ifp h1 (Ev.bind (nat_Word_c hl) ?_)
    have hw : nv l < 18446744073709551616 := by
      have h2 := bl_lt (nv l)
      have h3 := pow_le_pow (a := (bl (nv l)).toNat) (b := 64) (by omega)
      have h4 : (2 : Int) ^ 64 = 18446744073709551616 := rfl
      omega
    rw [if_pos hw]
    refine Ev.bind (fround_Word_c neg (m := nv l) (e := e) ⟨h0, hw⟩) (Ev.same ?_)
    rw [Rd_ce h0 hbN he0 he1]
  · refine Ev.ifn h1 ?_
    have S := nat_Shr_c hl (n := un (nv l) e - e) (by unfold un; omega)
    have B := nat_Bit_c hl (i := un (nv l) e - e - 1) (by unfold un; omega)
    have T := nat_Even_c hl
    generalize nv l = N at *
    have hp : 0 < N := by
      rcases (show N = 0 ∨ 0 < N by omega) with h | h
      · rw [h, bl_zero] at h1; omega
      · exact h
    have hu : un N e = max (bl N + e - 53) (-1074) := rfl
    have eU : mx (wrap64 ((wrap64 (bl N + e)) - 53)) (-1074) = un N e := by
      rw [w64_id (n := bl N + e) (by omega) (by omega), w64_id (n := bl N + e - 53) (by omega) (by omega), hu]
      unfold mx; split <;> omega
    rw [eU]
    by_cases h2 : un N e > 971
    · refine Ev.ifp h2 (Ev.bindc (fbits_Inf_c neg) (Ev.same ?_))
      rw [Rd_over hp h2]
    · refine Ev.ifn h2 ?_
      rw [w64_id (n := un N e - e) (by omega) (by omega), w64_id (n := un N e - e - 1) (by omega) (by omega)]
      have hq := un_q (e := e) hp
      have hr := ru_units (e := e) hp
      obtain ⟨d, hd⟩ : ∃ d : Nat, un N e - e = d + 1 := ⟨(un N e - e - 1).toNat, by omega⟩
      unfold ru at hr
      rw [Rd_pos hp (by omega)]
      unfold ru
      rw [show (e - un N e).toNat = 0 by omega, Int.pow_zero, Int.mul_one, show (un N e - e).toNat = d + 1 by omega] at hq hr ⊢
      have d1 : un N e - e - 1 = (d : Int) := by omega
      have d2 : un N e - e = ((d + 1 : Nat) : Int) := by omega
      rw [d1] at B ⊢
      rw [d2] at S ⊢
      rw [Int.toNat_natCast] at S
      refine Ev.bind S ?_
      have bq : bl (N / 2 ^ (d + 1)) ≤ 53 := bl_le_of (n := 53) (Int.lt_of_lt_of_le hq.2.1 (by decide))
      have W := nat_Word_c (l := dg (N / 2 ^ (d + 1))) (Wl_dg (by omega))
      rw [nv_dg hq.1, if_pos (by omega)] at W
      refine Ev.bind W (Ev.bindc B (Ev.bind T ?_))
      refine Ev.bindc (fround_even_c hq.1 (by omega) _ _) ?_
      have hpd := pow_pos d
      have hm := mod_split N (G := 2 ^ d) (D := 2) hpd
      have e2 : (2 : Int) ^ (d + 1) = 2 ^ d * 2 := Int.pow_succ ..
      have hz : N % 2 ^ d = 0 ↔ (d : Int) ≤ tz N := tz_mod hp d
      have hlt := Int.emod_lt_of_pos N hpd
      have hge := Int.emod_nonneg N (show (2 : Int) ^ d ≠ 0 by omega)
      have key : rnd N (d + 1) = if bitI N (d : Int) = true ∧ (decide (tz N < (d : Int)) = true ∨ N / 2 ^ (d + 1) % 2 = 1) then N / 2 ^ (d + 1) + 1 else N / 2 ^ (d + 1) := by
        unfold rnd bitI
        rw [Int.toNat_natCast]
        rw [e2] at *
        rw [hm]
        have hbit : N / 2 ^ d % 2 = 0 ∨ N / 2 ^ d % 2 = 1 := by omega
        generalize N / (2 ^ d * 2) = q at *
        generalize N % 2 ^ d = r at *
        generalize tz N = t at *
        generalize (2 : Int) ^ d = G at *
        rcases hbit with hbit | hbit
        · rw [hbit, if_neg (by omega), if_neg (by simp)]
        · rw [hbit]
          by_cases hr0 : r = 0
          · have := hz.1 hr0
            by_cases ho : q % 2 = 1
            · rw [if_pos (by right; omega), if_pos (by simp [ho])]
            · rw [if_neg (by omega), if_neg (by simp [ho]; omega)]
          · have : ¬ (d : Int) ≤ t := fun k => hr0 (hz.2 k)
            rw [if_pos (by left; omega), if_pos (by simp; omega)]
      rw [← key]
      exact Ev.bind (fround_made_c neg hr.1 hr.2.1 (un_ge N e) (by omega) hr.2.2) (Ev.same rfl)
theorem fround_Of_c {l : List Int} (neg : Bool) (hl : Wl l) (hn : l.length ≤ 100) (e : Int) (more : Bool) : Ev (fun k => fround_Of.f k neg l e more) (sgn neg (if more then Rd (2 * nv l + 1) (ce e - 1) else Rd (nv l) (ce e))) := by
  have hE := ce_range e
  have eE : mn (mx e (-1099511627776)) 1099511627776 = ce e := rfl
  cases more
  · refine Ev.ifn (by decide) ?_
    rw [eE]
    exact Ev.eqr (fround_Of_j neg hl (by omega) (by omega) (by omega)) rfl
  · refine Ev.ifp rfl ?_
    rw [eE]
    have h0 := nv_nonneg hl.1
    have hb := bl_nv hl.1
    have S := nat_Shl_c hl (by omega) 1
    rw [shn_of (by omega) (by omega), show (1 : Int).toNat = 1 from rfl, Int.pow_one] at S
    refine Ev.bind S ?_
    generalize nv l = N at *
    have b1 : bl (N * 2) ≤ 6402 := by
      have := bl_mul (x := N) (y := 2) h0 (by omega)
      have : bl 2 = 2 := rfl
      omega
    have lN := dg_len_bl (N * 2)
    refine Ev.bind (nat_Of_c (x := 1) (by unfold U; omega)) ?_
    have A := nat_Add_c (a := dg (N * 2)) (b := dg 1) (Wl_dg (by omega)) (Wl_dg (by decide)) (by omega) (by decide)
    rw [nv_dg (by omega), nv_dg (by omega), show N * 2 + 1 = 2 * N + 1 by omega] at A
    refine Ev.bind A ?_
    have b2 : bl (2 * N + 1) ≤ 6500 := by
      have a1 := bl_lt (N * 2)
      have a2 := bl_nonneg (N * 2)
      have : bl (2 * N + 1) ≤ ((bl (N * 2)).toNat + 1 : Nat) := bl_le_of (by rw [Int.pow_succ]; omega)
      omega
    have l2 := dg_len_bl (2 * N + 1)
    have J := fround_Of_j neg (l := dg (2 * N + 1)) (Wl_dg (by omega)) (by omega) (e := ce e - 1) (by omega) (by omega)
    rw [nv_dg (by omega)] at J
    exact Ev.eqr J rfl
end Go.Proofs.Ytbpggonjcnakgaa.M
