/- What the reference's functions of fround answer. -/
import Derived.Test.YtbpggonjcnakgaaC10
import Derived.Test.YtbpggonjcnakgaaC02s
import Derived.Test.YtbpggonjcnakgaaBgradineref10
namespace Go.Proofs.Ytbpggonjcnakgaa.M
open Go.RowKit Go.Proofs.Ytbpggonjcnakgaa.P Go.Proofs.YtbpggonjcnakgaaW.PrintWords Go.Proofs.YtbpggonjcnakgaaW.PrintLast Go.Proofs.YtbpggonjcnakgaaW.PrintMore
set_option linter.unusedVariables false

theorem shn_nat {n : Int} (h : n ≤ 65536) : shn n = n.toNat := by
  rcases Int.lt_or_le n 0 with h0 | h0
  · unfold shn mn mx
    split <;> split <;> omega
  · exact shn_of h0 h
theorem ref10_Of_j1 {w u : Int} (neg : Bool) (h0 : 0 ≤ w) (h1 : w ≤ 9007199254740992) (hu0 : -1074 ≤ u) (hu1 : u ≤ 971) (hw : u = -1074 ∨ 4503599627370496 ≤ w) :
    Ev (fun k => gradineref10_Of.j1 k neg u w) (sgn neg ((u + 1074) * 4503599627370496 + w)) := by
  refine Ev.step (fun k => gradineref10_Of.j1.eq_2 ..) ?_
  refine Ev.bind (ref09_Make_c neg (m := w) (e := u) (by unfold U; omega)) ?_
  have hk := Mk_made (neg := neg) h0 h1 hu0 hu1 hw
  by_cases h : (Mk neg w u).2 = true
  · rw [if_pos h] at hk
    exact Ev.ifp h (Ev.same (congrArg some hk))
  · rw [if_neg h] at hk
    exact Ev.ifn h (Ev.bindc (ref09_Inf_c neg) (Ev.same (congrArg some hk)))
theorem rd_dg_zero {w : Int} (h0 : 0 < w) (h1 : w < 18446744073709551616) : dg w = [w] := by
  rw [dg_pos h0, dg_nil (by omega), Int.emod_eq_of_lt (by omega) h1]
theorem ref10_Of_j0 {w u : Int} (neg : Bool) (h0 : 0 ≤ w) (h1 : w ≤ 9007199254740992) (hu0 : -1074 ≤ u) (hu1 : u ≤ 971) (hw : u = -1074 ∨ 4503599627370496 ≤ w) :
    Ev (fun k => gradineref10_Of.j0 k neg u (dg w)) (sgn neg ((u + 1074) * 4503599627370496 + w)) := by
  refine Ev.step (fun k => gradineref10_Of.j0.eq_2 ..) ?_
  rcases (show w = 0 ∨ 0 < w by omega) with rfl | h
  · rw [dg_zero]
    exact Ev.ifn (by decide) (ref10_Of_j1 neg h0 h1 hu0 hu1 hw)
  · rw [rd_dg_zero h (by omega)]
    exact Ev.ifp (by simp) (Ev.ifp (by simp) (ref10_Of_j1 neg h0 h1 hu0 hu1 hw))
theorem cmpI_more {x y : Int} : cmpI x y > 0 ↔ y < x := by unfold cmpI; split <;> (try split) <;> omega
theorem cmpI_same {x y : Int} : cmpI x y = 0 ↔ x = y := by unfold cmpI; split <;> (try split) <;> omega
theorem ref10_Of_c {l : List Int} (neg : Bool) (hl : Wl l) (hn : l.length ≤ 900) {e : Int} (he0 : -2000000000000 ≤ e) (he1 : e ≤ 2000000000000) : Ev (fun k => gradineref10_Of.f k neg l e) (sgn neg (Rd (nv l) e)) := by
  have h0 := nv_nonneg hl.1
  have hb := bl_nv hl.1
  refine Ev.bind (ref02_Trim_c hl) ?_
  generalize nv l = N at *
  have hb0 := bl_nonneg N
  have hbN : bl N ≤ 57600 := by omega
  clear hb
  have wN : Wl (dg N) := Wl_dg (by omega)
  have lN := dg_len_bl N
  by_cases hz : N = 0
  · rw [hz]
    refine Ev.ifp rfl (Ev.bindc (ref09_Signed_c neg (by omega) (by omega)) (Ev.same ?_))
    rw [Rd_zero]
  · have hp : 0 < N := by omega
    have b1 := bl_pos hp
    refine Ev.ifn (fun k => hz ((dg_len_zero h0).1 (by omega))) ?_
    have BN := ref02_Bits_c wN
    rw [nv_dg h0] at BN
    refine Ev.bind BN ?_
    have hu : un N e = max (bl N + e - 53) (-1074) := rfl
    by_cases h1 : e > 2000
    · refine Ev.ifp h1 (Ev.bindc (ref09_Inf_c neg) (Ev.same ?_))
      rw [Rd_inf hp (by omega)]
    · refine Ev.ifn h1 ?_
      rw [w64_id (n := -1200 - bl N) (by omega) (by omega)]
      by_cases h2 : e < -1200 - bl N
      · refine Ev.ifp h2 (Ev.bindc (ref09_Signed_c neg (by omega) (by omega)) (Ev.same ?_))
        rw [Rd_none h0 (by omega)]
      · refine Ev.ifn h2 ?_
        rw [un_text2 (by omega) (by omega) (by omega)]
        by_cases h3 : un N e > 971
        · refine Ev.ifp h3 (Ev.bindc (ref09_Inf_c neg) (Ev.same ?_))
          rw [Rd_over hp h3]
        · refine Ev.ifn h3 ?_
          have hr := ru_units (e := e) hp
          have hq := un_q (e := e) hp
          have hu1 := un_ge N e
          rw [Rd_pos hp (by omega)]
          have S1 := ref02_Shl_c wN (by omega) (e - un N e)
          rw [nv_dg h0, shn_nat (by omega)] at S1
          rw [w64_id (n := e - un N e) (by omega) (by omega)]
          refine Ev.bind S1 ?_
          by_cases h4 : e < un N e
          · refine Ev.ifp h4 ?_
            rw [w64_id (n := un N e - e) (by omega) (by omega)]
            obtain ⟨d, hd⟩ : ∃ d : Nat, un N e - e = d := ⟨(un N e - e).toNat, by omega⟩
            have hdd : d ≤ 58000 := by omega
            have e0 : ru N e (un N e) = rnd N d := by
              unfold ru
              rw [show (e - un N e).toNat = 0 by omega, Int.pow_zero, Int.mul_one, hd, Int.toNat_natCast]
            rw [show (e - un N e).toNat = 0 by omega, Int.pow_zero, Int.mul_one, hd, Int.toNat_natCast] at hq
            rw [e0] at hr ⊢
            rw [hd]
            have R1 := ref02_Shr_c wN (n := (d : Int)) (by omega)
            rw [nv_dg h0, Int.toNat_natCast] at R1
            refine Ev.bind R1 ?_
            have hdm := Int.mul_ediv_add_emod N (2 ^ d)
            have hm0 := Int.emod_nonneg N (show (2 : Int) ^ d ≠ 0 by have := pow_pos d; omega)
            have hm1 := Int.emod_lt_of_pos N (pow_pos d)
            have hle : N / 2 ^ d ≤ N := Int.ediv_le_self _ h0
            have bq := bl_mono hle
            have wq : Wl (dg (N / 2 ^ d)) := Wl_dg (by omega)
            have lq := dg_len_bl (N / 2 ^ d)
            have S2 := ref02_Shl_c wq (by omega) (d : Int)
            rw [nv_dg hq.1, shn_nat (by omega), Int.toNat_natCast] at S2
            refine Ev.bind S2 ?_
            rw [Int.mul_comm] at hdm
            have hp0 : 0 ≤ N / 2 ^ d * 2 ^ d := Int.mul_nonneg hq.1 (by have := pow_pos d; omega)
            have bp := bl_mono (show N / 2 ^ d * 2 ^ d ≤ N by omega)
            have lp := dg_len_bl (N / 2 ^ d * 2 ^ d)
            have D := ref02_Sub_c wN (b := dg (N / 2 ^ d * 2 ^ d)) (Wl_dg (by omega)) (by omega) (by omega) (by rw [nv_dg h0, nv_dg hp0]; omega)
            rw [nv_dg h0, nv_dg hp0, show N - N / 2 ^ d * 2 ^ d = N % 2 ^ d by omega] at D
            refine Ev.bind D ?_
            have br := bl_mono (show N % 2 ^ d ≤ N by omega)
            have wr : Wl (dg (N % 2 ^ d)) := Wl_dg (by omega)
            have lr := dg_len_bl (N % 2 ^ d)
            have S3 := ref02_Shl_c wr (by omega) 1
            rw [nv_dg hm0, shn_nat (by omega), show (1 : Int).toNat = 1 from rfl, Int.pow_one] at S3
            refine Ev.bind S3 ?_
            have w1 : Wl [1] := ⟨Ws_one (by unfold U; omega), by decide⟩
            have S4 := ref02_Shl_c w1 (by decide) (d : Int)
            rw [nv_one, shn_nat (by omega), Int.toNat_natCast, Int.one_mul] at S4
            refine Ev.bind S4 ?_
            have bd : bl ((2 : Int) ^ d) ≤ d + 1 := bl_le_of (n := d + 1) (by rw [Int.pow_succ]; have := pow_pos d; omega)
            have br2 := bl_mono (show N % 2 ^ d * 2 ≤ 2 ^ (d + 1) by rw [Int.pow_succ]; omega)
            have bd2 : bl ((2 : Int) ^ (d + 1)) ≤ d + 2 := bl_le_of (n := d + 2) (by rw [Int.pow_succ, Int.pow_succ]; have := pow_pos d; omega)
            have C := ref02_Cmp_c (a := dg (N % 2 ^ d * 2)) (b := dg (2 ^ d)) (Wl_dg (by omega)) (Wl_dg (by omega))
            rw [nv_dg (by omega), nv_dg (by have := pow_pos d; omega)] at C
            refine Ev.bind C ?_
            have A := ref02_Add_c wq w1 (by omega) (by decide)
            rw [nv_dg hq.1, nv_one] at A
            clear S1 R1 S2 S3 S4 D C BN
            by_cases h5 : cmpI (N % 2 ^ d * 2) (2 ^ d) > 0
            · refine Ev.ifp h5 (Ev.bind A ?_)
              have e1 : rnd N d = N / 2 ^ d + 1 := by
                unfold rnd
                rw [if_pos (.inl (by have := cmpI_more.1 h5; omega))]
              rw [e1] at hr ⊢
              exact ref10_Of_j0 neg (by omega) hr.2.1 hu1 (by omega) hr.2.2
            · refine Ev.ifn h5 ?_
              by_cases h6 : cmpI (N % 2 ^ d * 2) (2 ^ d) = 0
              · refine Ev.ifp h6 (Ev.bindc (ref02_Bit_c wq (by omega)) ?_)
                rw [nv_dg hq.1]
                have h7 := cmpI_same.1 h6
                by_cases h8 : N / 2 ^ d % 2 = 1
                · refine Ev.ifp (by unfold bitI; simp [h8]) (Ev.bind A ?_)
                  have e1 : rnd N d = N / 2 ^ d + 1 := by
                    unfold rnd
                    rw [if_pos (.inr ⟨by omega, h8⟩)]
                  rw [e1] at hr ⊢
                  exact ref10_Of_j0 neg (by omega) hr.2.1 hu1 (by omega) hr.2.2
                · refine Ev.ifn (by unfold bitI; simp [h8]) ?_
                  have e1 : rnd N d = N / 2 ^ d := by
                    unfold rnd
                    rw [if_neg (by omega)]
                  rw [e1] at hr ⊢
                  exact ref10_Of_j0 neg (by omega) hr.2.1 hu1 (by omega) hr.2.2
              · refine Ev.ifn h6 ?_
                have e1 : rnd N d = N / 2 ^ d := by
                  unfold rnd
                  rw [if_neg ?_]
                  intro k
                  rcases k with k | k
                  · exact h5 (cmpI_more.2 (by omega))
                  · exact h6 (cmpI_same.2 (by omega))
                rw [e1] at hr ⊢
                exact ref10_Of_j0 neg (by omega) hr.2.1 hu1 (by omega) hr.2.2
          · refine Ev.ifn h4 ?_
            have e0 : ru N e (un N e) = N * 2 ^ (e - un N e).toNat := by
              unfold ru
              rw [show (un N e - e).toNat = 0 by omega, rnd_zero]
            rw [e0] at hr ⊢
            exact ref10_Of_j0 neg hr.1 hr.2.1 hu1 (by omega) hr.2.2
theorem ref10_Half_c {l : List Int} (hl : Wl l) (hn : l.length ≤ 900) : Ev (fun k => gradineref10_Half.f k l) (dg (2 * nv l + 1)) := by
  have h0 := nv_nonneg hl.1
  have hb := bl_nv hl.1
  have S := ref02_Shl_c hl (by omega) 1
  rw [shn_nat (by omega), show (1 : Int).toNat = 1 from rfl, Int.pow_one] at S
  refine Ev.bind S ?_
  generalize nv l = N at *
  have b1 : bl (N * 2) ≤ 58000 := by
    have := bl_mul (x := N) (y := 2) h0 (by omega)
    have : bl 2 = 2 := rfl
    omega
  have lN := dg_len_bl (N * 2)
  have A := ref02_Add_c (a := dg (N * 2)) (b := [1]) (Wl_dg (by omega)) ⟨Ws_one (by unfold U; omega), by decide⟩ (by omega) (by decide)
  rw [nv_dg (by omega), nv_one, show N * 2 + 1 = 2 * N + 1 by omega] at A
  exact Ev.bind A (Ev.same rfl)
theorem ref10_More_c {l : List Int} (neg : Bool) (hl : Wl l) (hn : l.length ≤ 100) (e : Int) (more : Bool) : Ev (fun k => gradineref10_More.f k neg l e more) (sgn neg (if more then Rd (2 * nv l + 1) (ce e - 1) else Rd (nv l) (ce e))) := by
  have hE := ce_range e
  have eE : mn (mx e (-1099511627776)) 1099511627776 = ce e := rfl
  cases more
  · refine Ev.ifn (by decide) ?_
    rw [eE]
    exact Ev.bind (ref10_Of_c neg hl (by omega) (by omega) (by omega)) (Ev.same rfl)
  · refine Ev.ifp rfl (Ev.bind (ref10_Half_c hl (by omega)) ?_)
    rw [eE]
    have h0 := nv_nonneg hl.1
    have hb := bl_nv hl.1
    have b1 : bl (2 * nv l + 1) ≤ 6500 := by
      have a1 := bl_lt (nv l)
      have b0 := bl_nonneg (nv l)
      have := bl_le_of (x := 2 * nv l + 1) (n := (bl (nv l)).toNat + 1) (by rw [Int.pow_succ]; omega)
      omega
    have lN := dg_len_bl (2 * nv l + 1)
    have := ref10_Of_c neg (l := dg (2 * nv l + 1)) (Wl_dg (by omega)) (by omega) (e := ce e - 1) (by omega) (by omega)
    rw [nv_dg (by omega)] at this
    exact Ev.bind this (Ev.same rfl)
end Go.Proofs.Ytbpggonjcnakgaa.M
