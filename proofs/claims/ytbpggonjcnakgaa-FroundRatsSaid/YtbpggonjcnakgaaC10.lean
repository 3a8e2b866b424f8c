/- What the functions of fround answer: the nearest double. -/
import Derived.Test.YtbpggonjcnakgaaBfround
import Derived.Test.YtbpggonjcnakgaaC09
import Derived.Test.YtbpggonjcnakgaaC02b
namespace Go.Proofs.Ytbpggonjcnakgaa.M
open Go.RowKit Go.Proofs.Ytbpggonjcnakgaa.P Go.Proofs.YtbpggonjcnakgaaW.PrintWords Go.Proofs.YtbpggonjcnakgaaW.PrintLast Go.Proofs.YtbpggonjcnakgaaW.PrintMore
set_option linter.unusedVariables false

theorem fround_made_c {w u : Int} (neg : Bool) (h0 : 0 ≤ w) (h1 : w ≤ 9007199254740992) (hu0 : -1074 ≤ u) (hu1 : u ≤ 971) (hw : u = -1074 ∨ 4503599627370496 ≤ w) :
    Ev (fun k => fround_made.f k neg w u) (sgn neg ((u + 1074) * 4503599627370496 + w)) := by
  refine Ev.bind (fbits_Make_c neg (m := w) (e := u) (by unfold U; omega) (by omega) (by omega)) ?_
  have hk := Mk_made (neg := neg) h0 h1 hu0 hu1 hw
  by_cases h : (Mk neg w u).2 = true
  · rw [if_pos h] at hk
    exact Ev.ifp h (Ev.same (congrArg some hk))
  · rw [if_neg h] at hk
    exact Ev.ifn h (Ev.bindc (fbits_Inf_c neg) (Ev.same (congrArg some hk)))
theorem fround_made_zero (neg : Bool) : Ev (fun k => fround_made.f k neg 0 0) (sgn neg 0) := by
  refine Ev.bind (fbits_Make_c neg (m := 0) (e := 0) (by unfold U; omega) (by omega) (by omega)) ?_
  rw [Mk_zero]
  exact Ev.ifp rfl (Ev.same rfl)
theorem fround_even_c {x : Int} (h0 : 0 ≤ x) (h1 : x < 9223372036854775808) (half more : Bool) : fround_even.f x half more = some (if half = true ∧ (more = true ∨ x % 2 = 1) then x + 1 else x) := by
  unfold fround_even.f
  rw [and1 x h0 (by omega), wu_id (by omega) (by omega)]
  cases half
  · simp
  · cases more
    · simp only [Bool.false_eq_true, if_true, if_false, false_or, true_and]
      split <;> rfl
    · simp
/-- The exponents that are gone through. -/
def ce (e : Int) : Int := mn (mx e (-1099511627776)) 1099511627776
theorem ce_range (e : Int) : -1099511627776 ≤ ce e ∧ ce e ≤ 1099511627776 := by
  unfold ce mn mx
  split <;> split <;> omega
theorem ce_id {e : Int} (h0 : -1099511627776 ≤ e) (h1 : e ≤ 1099511627776) : ce e = e := by
  unfold ce mn mx
  split <;> split <;> omega
theorem un_text2 {m e : Int} (hm : bl m ≤ 1000000) (he : -1099511627776 ≤ e) (he' : e ≤ 1099511627776) : mx (wrap64 ((wrap64 (bl m + e)) - 53)) (-1074) = un m e := by
  have h2 := bl_nonneg m
  rw [w64_id (n := bl m + e) (by omega) (by omega), w64_id (by omega) (by omega)]
  unfold mx un
  generalize bl m = n at *
  split <;> omega
theorem half_word {G H r : Int} (hG : 0 < G) (hGH : G * H = 9223372036854775808) (h0 : 0 ≤ r) (h1 : r < 2 * H) :
    (G * r / 9223372036854775808 == 1) = decide (r ≥ H) ∧ (r > H → (G * r * 2 % 18446744073709551616 != 0) = true) ∧ (r = H → (G * r * 2 % 18446744073709551616 != 0) = false) := by
  have e1 : G * (2 * H) = 18446744073709551616 := by rw [Int.mul_left_comm, hGH]; rfl
  have b0 : 0 ≤ G * r := Int.mul_nonneg (by omega) h0
  have b1 : G * r < 18446744073709551616 := by rw [← e1]; exact Int.mul_lt_mul_of_pos_left h1 hG
  rcases Int.lt_trichotomy r H with h | h | h
  · have : G * r < 9223372036854775808 := by rw [← hGH]; exact Int.mul_lt_mul_of_pos_left h hG
    refine ⟨?_, fun k => by omega, fun k => by omega⟩
    rw [decide_eq_false (by omega), beq_eq_false_iff_ne]
    omega
  · subst h
    refine ⟨?_, fun k => by omega, fun _ => ?_⟩
    · rw [decide_eq_true (by omega), beq_iff_eq]
      omega
    · rw [bne_eq_false_iff_eq]
      omega
  · have : 9223372036854775808 < G * r := by rw [← hGH]; exact Int.mul_lt_mul_of_pos_left h hG
    refine ⟨?_, fun _ => ?_, fun k => by omega⟩
    · rw [decide_eq_true (by omega), beq_iff_eq]
      omega
    · rw [bne_iff_ne]
      omega
theorem Rd_pos {m e : Int} (h : 0 < m) (hu : un m e ≤ 971) : Rd m e = (un m e + 1074) * 4503599627370496 + ru m e (un m e) := by
  unfold Rd
  rw [if_neg (by omega), if_neg (by omega)]
theorem Rd_over {m e : Int} (h : 0 < m) (hu : un m e > 971) : Rd m e = INF := by
  unfold Rd
  rw [if_neg (by omega), if_pos hu]
theorem fround_Word_c {m e : Int} (neg : Bool) (hm : U m) : Ev (fun k => fround_Word.f k neg m e) (sgn neg (Rd m (ce e))) := by
  obtain ⟨hm0, hm1⟩ := id hm
  have hE := ce_range e
  by_cases hz : m = 0
  · refine Ev.ifp hz (Ev.bind (fround_made_zero neg) (Ev.same ?_))
    rw [hz, Rd_zero]
  · have hp : 0 < m := by omega
    have b1 := bl_pos hp
    have b2 := bl_64 hm1
    refine Ev.ifn hz (Ev.bind (limb_Len_c hm) ?_)
    have eE : mn (mx e (-1099511627776)) 1099511627776 = ce e := rfl
    rw [eE]
    generalize ce e = E at *
    rw [un_text2 (by omega) (by omega) (by omega)]
    have hu : un m E = max (bl m + E - 53) (-1074) := rfl
    have hq := un_q (e := E) hp
    have hr := ru_units (e := E) hp
    by_cases h1 : un m E > 971
    · refine Ev.ifp h1 (Ev.bindc (fbits_Inf_c neg) (Ev.same ?_))
      rw [Rd_over hp h1]
    · refine Ev.ifn h1 ?_
      rw [w64_id (n := un m E - E) (by omega) (by omega), Rd_pos hp (by omega)]
      by_cases h2 : un m E - E ≤ 0
      · refine Ev.ifp h2 ?_
        rw [w64_id (by omega) (by omega)]
        refine Ev.ifp (by omega) ?_
        by_cases ht : -(un m E - E) ≤ 64
        · have e0 : ru m E (un m E) = m * 2 ^ (E - un m E).toNat := by
            unfold ru
            rw [show (un m E - E).toNat = 0 by omega, rnd_zero]
          rw [show (un m E - E).toNat = 0 by omega, Int.pow_zero, Int.ediv_one] at hq
          rw [e0] at hr ⊢
          rw [shl_u _ _ (by omega), show (-(un m E - E)).toNat = (E - un m E).toNat by omega, Int.emod_eq_of_lt hq.1 (by omega)]
          exact Ev.bind (fround_made_c neg hr.1 hr.2.1 (by omega) (by omega) hr.2.2) (Ev.same rfl)
        · exfalso
          omega
      · refine Ev.ifn h2 ?_
        by_cases h3 : un m E - E > 64
        · refine Ev.ifp h3 (Ev.bind (fround_made_zero neg) (Ev.same ?_))
          have hu2 : un m E = -1074 := by omega
          have e0 : ru m E (un m E) = 0 := by
            unfold ru
            rw [show (E - un m E).toNat = 0 by omega, Int.pow_zero, Int.mul_one]
            have := pow_le_pow (a := 65) (b := (un m E - E).toNat) (by omega)
            exact rnd_small hm0 (by omega)
          rw [e0, hu2]
          rfl
        · refine Ev.ifn h3 ?_
          obtain ⟨d, hd⟩ : ∃ d : Nat, un m E - E = ((d + 1 : Nat) : Int) := ⟨(un m E - E).toNat - 1, by omega⟩
          have hd63 : d + 1 ≤ 64 := by omega
          have e0 : ru m E (un m E) = rnd m (d + 1) := by
            unfold ru
            rw [show (E - un m E).toNat = 0 by omega, Int.pow_zero, Int.mul_one, hd, Int.toNat_natCast]
          rw [show (E - un m E).toNat = 0 by omega, Int.pow_zero, Int.mul_one, hd, Int.toNat_natCast] at hq
          rw [e0] at hr ⊢
          rw [hd, w64_id (by omega) (by omega), w64_id (n := ((d + 1 : Nat) : Int) - 1) (by omega) (by omega)]
          refine Ev.ifp (by omega) (Ev.ifp (by omega) ?_)
          have hH : (2 : Int) ^ (d + 1) = 2 * 2 ^ d := by rw [Int.pow_succ, Int.mul_comm]
          have hGH : (2 : Int) ^ (64 - (d + 1)) * 2 ^ d = 9223372036854775808 := by rw [← Int.pow_add, show 64 - (d + 1) + d = 63 by omega]; rfl
          rw [shr_u _ _ (by omega), shl_u _ _ (by omega), show (((d + 1 : Nat) : Int) - 1).toNat = d by omega, show (64 - ((d + 1 : Nat) : Int)).toNat = 64 - (d + 1) by omega, mod_up m hd63, wu]
          have e1 : m / 2 / 2 ^ d = m / 2 ^ (d + 1) := by rw [Int.ediv_ediv_of_nonneg (by omega), ← hH]
          rw [e1]
          have r0 := Int.emod_nonneg m (show (2 : Int) ^ (d + 1) ≠ 0 by have := pow_pos (d + 1); omega)
          have r1 := Int.emod_lt_of_pos m (pow_pos (d + 1))
          have hw := half_word (G := 2 ^ (64 - (d + 1))) (H := 2 ^ d) (r := m % 2 ^ (d + 1)) (pow_pos _) hGH r0 (by omega)
          rw [hw.1]
          have he := fround_even_c (x := m / 2 ^ (d + 1)) hq.1 (by omega) (decide (m % 2 ^ (d + 1) ≥ 2 ^ d)) (2 ^ (64 - (d + 1)) * (m % 2 ^ (d + 1)) * 2 % 18446744073709551616 != 0)
          have hv : (if decide (m % 2 ^ (d + 1) ≥ 2 ^ d) = true ∧ ((2 ^ (64 - (d + 1)) * (m % 2 ^ (d + 1)) * 2 % 18446744073709551616 != 0) = true ∨ m / 2 ^ (d + 1) % 2 = 1) then m / 2 ^ (d + 1) + 1 else m / 2 ^ (d + 1)) = rnd m (d + 1) := by
            unfold rnd
            rcases Int.lt_trichotomy (m % 2 ^ (d + 1)) (2 ^ d) with h | h | h
            · rw [if_neg (by simp; omega), if_neg (by omega)]
            · rw [hw.2.2 h]
              by_cases ho : m / 2 ^ (d + 1) % 2 = 1
              · rw [if_pos ⟨decide_eq_true (by omega), .inr ho⟩, if_pos (.inr ⟨by omega, ho⟩)]
              · rw [if_neg (by simp [ho]), if_neg (by omega)]
            · rw [hw.2.1 h, if_pos ⟨decide_eq_true (by omega), .inl rfl⟩, if_pos (.inl (by omega))]
          rw [hv] at he
          refine Ev.bindc he ?_
          exact Ev.bind (fround_made_c neg hr.1 hr.2.1 (by omega) (by omega) hr.2.2) (Ev.same rfl)
theorem fround_FromInt_c {n : Int} (h0 : -9223372036854775808 ≤ n) (h1 : n ≤ 9223372036854775807) : Ev (fun k => fround_FromInt.f k n) (sgn (decide (n < 0)) (Rd (if n < 0 then -n else n) 0)) := by
  by_cases h : n < 0
  · rw [decide_eq_true h, if_pos h]
    refine Ev.ifp h ?_
    have e : IntKind.u64.wrap (-(IntKind.u64.wrap n)) = -n := by rw [wu, wu]; omega
    rw [e]
    refine Ev.bind (fround_Word_c (e := 0) true (by unfold U; omega)) (Ev.same ?_)
    rw [ce_id (by omega) (by omega)]
  · rw [decide_eq_false h, if_neg h]
    refine Ev.ifn h ?_
    rw [wu_id (by omega) (by omega)]
    refine Ev.bind (fround_Word_c (e := 0) false (by unfold U; omega)) (Ev.same ?_)
    rw [ce_id (by omega) (by omega)]
end Go.Proofs.Ytbpggonjcnakgaa.M
