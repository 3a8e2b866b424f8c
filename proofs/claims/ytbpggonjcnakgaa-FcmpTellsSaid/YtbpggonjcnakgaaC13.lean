/- What the functions of fcmp answer. -/
import Derived.Test.YtbpggonjcnakgaaBfcmp
import Derived.Test.YtbpggonjcnakgaaC10
import Derived.Test.YtbpggonjcnakgaaM13
import Derived.Test.YtbpggonjcnakgaaC13b
namespace Go.Proofs.Ytbpggonjcnakgaa.M
open Go.RowKit Go.Proofs.Ytbpggonjcnakgaa.P Go.Proofs.YtbpggonjcnakgaaW.PrintWords Go.Proofs.YtbpggonjcnakgaaW.PrintLast Go.Proofs.YtbpggonjcnakgaaW.PrintMore
set_option linter.unusedVariables false

theorem fcmp_key_c {b : Int} (h : U b) : fcmp_key.f b = some (fkey b) := by
  unfold fcmp_key.f
  rw [fbits_Neg_c h, wu]
  unfold U at h
  show (if fs b = true then some (wrap64 (-(wrap64 (b * 2 % 18446744073709551616 / 2)))) else some (wrap64 (b * 2 % 18446744073709551616 / 2))) = some (fkey b)
  unfold fkey fs
  by_cases hb : b ≥ 9223372036854775808
  · rw [decide_eq_true hb, if_pos rfl, if_pos rfl, w64_id (n := b * 2 % 18446744073709551616 / 2) (by omega) (by omega), w64_id (by omega) (by omega)]
    congr 1
    omega
  · rw [decide_eq_false hb, if_neg (by decide), if_neg (by decide), w64_id (by omega) (by omega)]
    congr 1
    omega
theorem fcmp_known_c {a b : Int} (ha : U a) (hb : U b) : fcmp_known.f a b = some (decide (fk a ≠ 4 ∧ fk b ≠ 4)) := by
  unfold fcmp_known.f
  rw [fbits_Kind_c ha, fbits_Kind_c hb]
  show (if fk a = 4 then some false else some (fk b != 4)) = _
  by_cases h : fk a = 4
  · rw [if_pos h, decide_eq_false (fun k => k.1 h)]
  · rw [if_neg h]
    congr 1
    by_cases h2 : fk b = 4
    · rw [decide_eq_false (fun k => k.2 h2), bne_eq_false_iff_eq]; exact h2
    · rw [decide_eq_true ⟨h, h2⟩, bne_iff_ne]; exact h2
/-- Are two doubles the same number? -/
def sameD (a b : Int) : Bool := decide (fk a ≠ 4 ∧ fk b ≠ 4 ∧ fkey a = fkey b)
theorem fcmp_Less_c {a b : Int} (ha : U a) (hb : U b) : fcmp_Less.f a b = some (less a b) := by
  unfold fcmp_Less.f less
  rw [fcmp_known_c ha hb, fcmp_key_c ha, fcmp_key_c hb]
  show (if decide (fk a ≠ 4 ∧ fk b ≠ 4) = true then some (decide (fkey a < fkey b)) else some false) = _
  by_cases h : fk a ≠ 4 ∧ fk b ≠ 4
  · rw [decide_eq_true h, if_pos rfl]
    congr 1
    simp [h.1, h.2]
  · rw [decide_eq_false h, if_neg (by decide), decide_eq_false (fun k => h ⟨k.1, k.2.1⟩)]
theorem fcmp_Same_c {a b : Int} (ha : U a) (hb : U b) : fcmp_Same.f a b = some (sameD a b) := by
  unfold fcmp_Same.f sameD
  rw [fcmp_known_c ha hb, fcmp_key_c ha, fcmp_key_c hb]
  show (if decide (fk a ≠ 4 ∧ fk b ≠ 4) = true then some (fkey a == fkey b) else some false) = _
  by_cases h : fk a ≠ 4 ∧ fk b ≠ 4
  · rw [decide_eq_true h, if_pos rfl]
    congr 1
    simp [h.1, h.2]
    rfl
  · rw [decide_eq_false h, if_neg (by decide), decide_eq_false (fun k => h ⟨k.1, k.2.1⟩)]
theorem near_no {b : Int} (h : fx b = 2047 ∨ bl (pm b) + pe b > 62) : near b = (0, false) := by unfold near; rw [if_pos h]
theorem near_yes {b : Int} (h : fx b ≠ 2047) (h2 : bl (pm b) + pe b ≤ 62) : near b = (if fs b then -(ru (pm b) (pe b) 0) else ru (pm b) (pe b) 0, true) := by
  unfold near
  rw [if_neg (by omega)]
theorem fcmp_Near_j1 {n : Int} (neg t : Bool) (h0 : 0 ≤ n) (h1 : n ≤ 4611686018427387904) : Ev (fun k => fcmp_Near.j1 k neg n t) (if neg then -(if t then n + 1 else n) else (if t then n + 1 else n), true) := by
  refine Ev.step (fun k => fcmp_Near.j1.eq_2 ..) ?_
  cases t
  · refine Ev.ifn (by decide) ?_
    cases neg
    · exact Ev.ifn (by decide) (Ev.same rfl)
    · refine Ev.ifp rfl (Ev.same ?_)
      rw [w64_id (by omega) (by omega)]
      rfl
  · refine Ev.ifp rfl ?_
    cases neg
    · refine Ev.ifn (by decide) (Ev.same ?_)
      rw [w64_id (by omega) (by omega)]
      rfl
    · refine Ev.ifp rfl (Ev.same ?_)
      rw [w64_id (n := n + 1) (by omega) (by omega), w64_id (by omega) (by omega)]
      rfl
theorem fcmp_Near_c {b : Int} (h : U b) : Ev (fun k => fcmp_Near.f k b) (near b) := by
  have hP := fbits_Parts_c h
  have a1 := pm_range b
  have a2 := pe_range b
  by_cases hx : fx b = 2047
  · rw [if_pos hx] at hP
    refine Ev.bind hP (Ev.ifn (by decide) (Ev.step (fun k => fcmp_Near.j0.eq_2 ..) (Ev.ifp rfl (Ev.same ?_))))
    rw [near_no (.inl hx)]
  · rw [if_neg hx] at hP
    refine Ev.bind hP (Ev.ifp rfl (Ev.bind (limb_Len_c (x := pm b) (by unfold U; omega)) ?_))
    dsimp only
    have b0 := bl_nonneg (pm b)
    have b1 : bl (pm b) ≤ 53 := bl_le_of (n := 53) (by omega)
    have a3 : -1074 ≤ pe b ∧ pe b ≤ 972 := ⟨a2.1, a2.2.1⟩
    have a4 := a2.2.2.2
    rw [w64_id (n := bl (pm b) + pe b) (by omega) (by omega)]
    clear a2 hP
    by_cases h1 : bl (pm b) + pe b > 62
    · refine Ev.step (fun k => fcmp_Near.j0.eq_2 ..) (Ev.ifp (decide_eq_true h1) (Ev.same ?_))
      rw [near_no (.inr h1)]
    · rw [near_yes hx (by omega)]
      refine Ev.step (fun k => fcmp_Near.j0.eq_2 ..) (Ev.ifn (by rw [decide_eq_false h1]; decide) ?_)
      have l1 := bl_lt (pm b)
      generalize pm b = m at *
      generalize pe b = e at *
      generalize fs b = neg
      by_cases h2 : e ≥ 0
      · refine Ev.ifp h2 (Ev.ifp h2 ?_)
        have hlt : m * 2 ^ e.toNat < 2 ^ 62 := by
          have hp := pow_pos e.toNat
          have := Int.mul_lt_mul_of_pos_right l1 hp
          rw [← Int.pow_add] at this
          have := pow_le_pow (a := (bl m).toNat + e.toNat) (b := 62) (by omega)
          omega
        have hge : 0 ≤ m * 2 ^ e.toNat := Int.mul_nonneg a1.1 (by have := pow_pos e.toNat; omega)
        have er : ru m e 0 = m * 2 ^ e.toNat := by
          unfold ru
          rw [show (0 - e).toNat = 0 by omega, rnd_zero, show e - 0 = e by omega]
        rw [er, shl_u _ _ (by omega), Int.emod_eq_of_lt hge (by omega), w64_id (n := m * 2 ^ e.toNat) (by omega) (by omega), w64_id (by omega) (by omega)]
        cases neg
        · exact Ev.ifn (by decide) (Ev.same rfl)
        · exact Ev.ifp rfl (Ev.same rfl)
      · refine Ev.ifn h2 ?_
        by_cases h3 : e > -64
        · refine Ev.ifp h3 ?_
          obtain ⟨d, hd⟩ : ∃ d : Nat, -e = ((d + 1 : Nat) : Int) := ⟨(-e).toNat - 1, by omega⟩
          have hd63 : d + 1 ≤ 63 := by omega
          have er : ru m e 0 = rnd m (d + 1) := by
            unfold ru
            rw [show (0 - e).toNat = d + 1 by omega, show (e - 0).toNat = 0 by omega, Int.pow_zero, Int.mul_one]
          rw [w64_id (n := -e) (by omega) (by omega), w64_id (n := 64 + e) (by omega) (by omega)]
          refine Ev.ifp (by omega) (Ev.ifp (by omega) ?_)
          have hp := pow_pos (d + 1)
          have q0 : 0 ≤ m / 2 ^ (d + 1) := Int.ediv_nonneg a1.1 (by omega)
          have q1 : m / 2 ^ (d + 1) ≤ m := Int.ediv_le_self _ a1.1
          have r0 := Int.emod_nonneg m (show (2 : Int) ^ (d + 1) ≠ 0 by omega)
          have r1 := Int.emod_lt_of_pos m hp
          have hH : (2 : Int) ^ (d + 1) = 2 * 2 ^ d := by rw [Int.pow_succ, Int.mul_comm]
          have hGH : (2 : Int) ^ (64 - (d + 1)) * 2 ^ d = 9223372036854775808 := by rw [← Int.pow_add, show 64 - (d + 1) + d = 63 by omega]; rfl
          rw [shr_u _ _ (by omega), shl_u _ _ (by omega), hd, Int.toNat_natCast, show (64 + e).toNat = 64 - (d + 1) by omega, mod_up' m (show 64 - (d + 1) ≤ 64 by omega), show 64 - (64 - (d + 1)) = d + 1 by omega, w64_id (n := m / 2 ^ (d + 1)) (by omega) (by omega), and_one_i64, er]
          have hG := pow_pos (64 - (d + 1))
          have J := fun t => fcmp_Near_j1 (n := m / 2 ^ (d + 1)) neg t q0 (by omega)
          rcases Int.lt_trichotomy (m % 2 ^ (d + 1)) (2 ^ d) with hc | hc | hc
          · have : 2 ^ (64 - (d + 1)) * (m % 2 ^ (d + 1)) < 9223372036854775808 := by rw [← hGH]; exact Int.mul_lt_mul_of_pos_left hc hG
            refine Ev.ifn (by omega) (Ev.ifn (by omega) ((J false).eqr ?_))
            have e1 : rnd m (d + 1) = m / 2 ^ (d + 1) := by
              unfold rnd
              rw [if_neg (by omega)]
            rw [e1]
            rfl
          · refine Ev.ifn (by rw [hc, hGH]; omega) (Ev.ifp (by rw [hc, hGH]) ((J _).eqr ?_))
            have e1 : rnd m (d + 1) = if (m / 2 ^ (d + 1) % 2 == 1) = true then m / 2 ^ (d + 1) + 1 else m / 2 ^ (d + 1) := by
              unfold rnd
              by_cases ho : m / 2 ^ (d + 1) % 2 = 1
              · rw [if_pos (.inr ⟨by omega, ho⟩), if_pos (by rw [ho]; rfl)]
              · rw [if_neg (by omega), if_neg (by rw [beq_iff_eq]; exact ho)]
            rw [e1]
          · have : 9223372036854775808 < 2 ^ (64 - (d + 1)) * (m % 2 ^ (d + 1)) := by rw [← hGH]; exact Int.mul_lt_mul_of_pos_left hc hG
            refine Ev.ifp (by omega) ((J true).eqr ?_)
            have e1 : rnd m (d + 1) = m / 2 ^ (d + 1) + 1 := by
              unfold rnd
              rw [if_pos (.inl (by omega))]
            rw [e1]
            rfl
        · refine Ev.ifn h3 ?_
          have er : ru m e 0 = 0 := by
            unfold ru
            rw [show (e - 0).toNat = 0 by omega, Int.pow_zero, Int.mul_one]
            have := pow_le_pow (a := 64) (b := (0 - e).toNat) (by omega)
            exact rnd_small a1.1 (by omega)
          rw [er]
          cases neg
          · exact Ev.ifn (by decide) (Ev.same rfl)
          · exact Ev.ifp rfl (Ev.same rfl)
theorem clamp_eq (k c : Int) (hc : 0 ≤ c) : mn (mx k (-c)) c = min (max k (-c)) c := by
  unfold mn mx
  split <;> split <;> omega
theorem fcmp_Scale_c {b k : Int} (h : U b) : Ev (fun r => fcmp_Scale.f r b k) (fscale b k) := by
  have hP := fbits_Parts_c h
  have a1 := pm_range b
  have a2 := pe_range b
  unfold fscale
  by_cases hx : fx b = 2047
  · rw [if_pos hx] at hP ⊢
    exact Ev.bind hP (Ev.ifn (by decide) (Ev.bindc (fbits_Clean_c h) (Ev.same rfl)))
  · rw [if_neg hx] at hP ⊢
    refine Ev.bind hP (Ev.ifp rfl ?_)
    dsimp only
    have a3 : -1074 ≤ pe b ∧ pe b ≤ 972 := ⟨a2.1, a2.2.1⟩
    clear a2
    rw [clamp_eq k 5000 (by omega), w64_id (by omega) (by omega)]
    refine Ev.bind (fround_Word_c (e := pe b + min (max k (-5000)) 5000) (fs b) (m := pm b) (by unfold U; omega)) (Ev.same ?_)
    rw [ce_id (by omega) (by omega)]
end Go.Proofs.Ytbpggonjcnakgaa.M
