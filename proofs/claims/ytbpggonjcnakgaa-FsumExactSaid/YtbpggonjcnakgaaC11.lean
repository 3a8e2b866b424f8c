/- What the functions of fsum, and of its reference, answer. -/
import Derived.Test.YtbpggonjcnakgaaBfsum
import Derived.Test.YtbpggonjcnakgaaC10r
import Derived.Test.YtbpggonjcnakgaaM13
import Derived.Test.YtbpggonjcnakgaaC11b
namespace Go.Proofs.Ytbpggonjcnakgaa.M
open Go.RowKit Go.Proofs.Ytbpggonjcnakgaa.P Go.Proofs.YtbpggonjcnakgaaW.PrintWords Go.Proofs.YtbpggonjcnakgaaW.PrintLast Go.Proofs.YtbpggonjcnakgaaW.PrintMore
set_option linter.unusedVariables false

theorem fsum_odd_c {m : Int} (h0 : 0 ≤ m) (h1 : m < 9007199254740992) (s : Nat) : fsum_odd.f m s = some (st m s) := by
  unfold fsum_odd.f
  by_cases hs : (s : Int) > 63
  · rw [if_pos hs]
    have := pow_le_pow (a := 64) (b := s) (by omega)
    unfold st mn
    rw [Int.emod_eq_of_lt h0 (by omega), Int.ediv_eq_zero_of_lt h0 (by omega)]
    rcases (show m = 0 ∨ 1 ≤ m by omega) with h | h
    · rw [h]; rfl
    · rw [if_neg (show ¬ m = 0 by omega)]
      congr 1
      split <;> omega
  · rw [if_neg hs, if_pos (by omega), shr_u _ _ (by omega), shl_u _ _ (by omega), Int.toNat_natCast]
    have hp := pow_pos s
    have hd := Int.mul_ediv_add_emod m (2 ^ s)
    have hr := Int.emod_nonneg m (show (2 : Int) ^ s ≠ 0 by omega)
    have hq : 0 ≤ m / 2 ^ s := Int.ediv_nonneg h0 (by omega)
    have hqm : m / 2 ^ s ≤ m := Int.ediv_le_self _ h0
    have hpq : 0 ≤ m / 2 ^ s * 2 ^ s := Int.mul_nonneg hq (by omega)
    rw [Int.mul_comm] at hd
    rw [Int.emod_eq_of_lt hpq (by omega), or_one (by unfold U; omega)]
    unfold st
    by_cases h : m % 2 ^ s = 0
    · rw [if_pos h, if_pos (by omega)]
    · rw [if_neg h, if_neg (by omega)]
theorem fsum_finite_j0 {m e n f : Int} (a b : Bool) (hm0 : 0 ≤ m) (hm : m < 9007199254740992) (hn0 : 0 ≤ n) (hn : n < 9007199254740992) (hef : f ≤ e) (hf : -1074 ≤ f) (he : e ≤ 1000) (hw : e = -1074 ∨ 4503599627370496 ≤ m) :
    Ev (fun k => fsum_finite.j0 k a m e b n f) (if a = b then sgn a (Rd (m * 2 ^ (e - f).toNat + n) f) else if m * 2 ^ (e - f).toNat = n then 0 else if m * 2 ^ (e - f).toNat > n then sgn a (Rd (m * 2 ^ (e - f).toNat - n) f) else sgn b (Rd (n - m * 2 ^ (e - f).toNat) f)) := by
  refine Ev.step (fun k => fsum_finite.j0.eq_2 ..) ?_
  have e1 : mn (wrap64 (e - f)) 10 = min (e - f) 10 := by
    rw [w64_id (by omega) (by omega)]
    unfold mn
    split <;> omega
  obtain ⟨up, hup⟩ : ∃ up : Nat, (up : Int) = min (e - f) 10 := ⟨(min (e - f) 10).toNat, by omega⟩
  obtain ⟨s, hs⟩ : ∃ s : Nat, e - up - f = s := ⟨(e - up - f).toNat, by omega⟩
  rw [e1, ← hup]
  have e2 : wrap64 (e - (up : Int)) = e - up := w64_id (by omega) (by omega)
  have e3 : wrap64 (e - (up : Int) - f) = s := by rw [w64_id (by omega) (by omega)]; exact hs
  rw [e2, e3]
  refine Ev.ifp (by omega) (Ev.bindc (fsum_odd_c hn0 hn s) ?_)
  have hS := sum_st hm0 hm hn0 hn hef hf hw hup hs
  have hX0 : 0 ≤ m * 2 ^ up := Int.mul_nonneg hm0 (by have := pow_pos up; omega)
  have hX1 : m * 2 ^ up ≤ 9007199254740991 * 1024 := Int.mul_le_mul (by omega) (pow_le_pow (show up ≤ 10 by omega)) (by have := pow_pos up; omega) (by omega)
  have hY0 := st_nonneg hn0 s
  have hY1 : st n s ≤ n + 1 := by
    have := st_le hn0 s
    have : n / 2 ^ s ≤ n := Int.ediv_le_self _ hn0
    omega
  rw [Int.toNat_natCast, wu_id hX0 (by omega), wu_id (n := m * 2 ^ up + st n s) (by omega) (by omega)]
  obtain ⟨s1, s2, s3, s4, s5⟩ := hS
  generalize m * 2 ^ up = X at *
  generalize st n s = Y at *
  generalize m * 2 ^ (e - f).toNat = M at *
  have hce : ce (e - (up : Int)) = e - up := ce_id (by omega) (by omega)
  by_cases hab : a = b
  · rw [if_pos hab]
    refine Ev.ifp (by rw [hab]; simp) ?_
    refine Ev.bind (fround_Word_c (e := e - (up : Int)) a (m := X + Y) (by unfold U; omega)) (Ev.same ?_)
    rw [hce, s1]
  · rw [if_neg hab]
    refine Ev.ifn (by simp [hab]) ?_
    by_cases h1 : X > Y
    · rw [if_neg (show ¬ M = n by omega), if_pos (s2.1 h1)]
      refine Ev.ifp h1 ?_
      rw [wu_id (by omega) (by omega)]
      refine Ev.bind (fround_Word_c (e := e - (up : Int)) a (m := X - Y) (by unfold U; omega)) (Ev.same ?_)
      rw [hce, s4 h1]
    · refine Ev.ifn h1 ?_
      by_cases h2 : X < Y
      · rw [if_neg (show ¬ M = n by omega), if_neg (show ¬ M > n by omega)]
        refine Ev.ifp h2 ?_
        rw [wu_id (by omega) (by omega)]
        refine Ev.bind (fround_Word_c (e := e - (up : Int)) b (m := Y - X) (by unfold U; omega)) (Ev.same ?_)
        rw [hce, s5 h2]
      · rw [if_pos (show M = n by omega)]
        exact Ev.ifn h2 (Ev.same rfl)
theorem fsum_finite_c {a b : Int} (ha : fx a ≠ 2047) (hb : fx b ≠ 2047) : Ev (fun k => fsum_finite.f k (fs a) (pm a) (pe a) (fs b) (pm b) (pe b)) (fsF a b) := by
  have a1 := pm_range a
  have a2 := pe_range a
  have b1 := pm_range b
  have b2 := pe_range b
  by_cases h : pe a < pe b
  · refine Ev.ifp h ((fsum_finite_j0 (fs b) (fs a) b1.1 b1.2 a1.1 a1.2 (by omega) (by omega) (by omega) b2.2.2.2).eqr ?_)
    rw [fsF_comm]
    unfold fsF
    rw [show min (pe b) (pe a) = pe a by omega, show (pe a - pe a).toNat = 0 by omega, Int.pow_zero, Int.mul_one]
  · refine Ev.ifn h ((fsum_finite_j0 (fs a) (fs b) a1.1 a1.2 b1.1 b1.2 (by omega) (by omega) (by omega) a2.2.2.2).eqr ?_)
    unfold fsF
    rw [show min (pe a) (pe b) = pe b by omega, show (pe b - pe b).toNat = 0 by omega, Int.pow_zero, Int.mul_one]
theorem fsum_of_c {b : Int} (h : U b) (hx : fx b ≠ 2047) : Ev (fun k => fsum_of.f k b) (fs b, pm b, pe b) := by
  have := fbits_Parts_c h
  rw [if_neg hx] at this
  exact Ev.bind this (Ev.same rfl)
theorem fsum_Add_c {a b : Int} (ha : U a) (hb : U b) : Ev (fun k => fsum_Add.f k a b) (fadd a b) := by
  refine Ev.bindc (fbits_Kind_c ha) (Ev.bindc (fbits_Kind_c hb) ?_)
  have nan : ∀ t : Bool, t = true → (fk a = 4 ∨ fk b = 4) → Ev (fun k => fsum_Add.j0 k a b (fk a) (fk b) t) (fadd a b) := by
    intro t ht h
    refine Ev.step (fun k => fsum_Add.j0.eq_2 ..) (Ev.ifp ht (Ev.bindc fbits_Nan_c (Ev.same ?_)))
    unfold fadd
    rw [if_pos h]
  by_cases h1 : fk a = 4
  · exact Ev.ifp h1 (nan _ rfl (.inl h1))
  · refine Ev.ifn h1 ?_
    by_cases h2 : fk b = 4
    · exact nan _ (by rw [h2]; rfl) (.inr h2)
    · refine Ev.step (fun k => fsum_Add.j0.eq_2 ..) (Ev.ifn (by simp [h2]) ?_)
      have j1 : ∀ t : Bool, (t = true ↔ (fk a = 3 ∧ fk b = 3 ∧ a ≠ b)) → Ev (fun k => fsum_Add.j1 k a b (fk a) (fk b) t) (fadd a b) := by
        intro t ht
        refine Ev.step (fun k => fsum_Add.j1.eq_2 ..) ?_
        unfold fadd
        rw [if_neg (show ¬ (fk a = 4 ∨ fk b = 4) by omega)]
        by_cases h3 : fk a = 3 ∧ fk b = 3 ∧ a ≠ b
        · rw [if_pos h3]
          exact Ev.ifp (ht.2 h3) (Ev.bindc fbits_Nan_c (Ev.same rfl))
        · rw [if_neg h3]
          refine Ev.ifn (fun k => h3 (ht.1 k)) ?_
          by_cases h4 : fk a = 3
          · rw [if_pos h4]
            exact Ev.ifp h4 (Ev.same rfl)
          · rw [if_neg h4]
            refine Ev.ifn h4 ?_
            by_cases h5 : fk b = 3
            · rw [if_pos h5]
              exact Ev.ifp h5 (Ev.same rfl)
            · rw [if_neg h5]
              refine Ev.ifn h5 (Ev.bind (fsum_of_c ha (fk_fin (fun k => h1 k) h4)) (Ev.bind (fsum_of_c hb (fk_fin h2 h5)) ?_))
              exact Ev.bind (fsum_finite_c (fk_fin h1 h4) (fk_fin h2 h5)) (Ev.same rfl)
      by_cases h3 : fk a = 3
      · refine Ev.ifp h3 ?_
        by_cases h4 : fk b = 3
        · exact Ev.ifp h4 (j1 _ (by simp [h3, h4]))
        · exact Ev.ifn h4 (j1 _ (by simp [h4]))
      · exact Ev.ifn h3 (j1 _ (by simp [h3]))
theorem fsum_Sub_c {a b : Int} (ha : U a) (hb : U b) : Ev (fun k => fsum_Sub.f k a b) (fsub a b) := Ev.bindc (fbits_Flip_c hb) (Ev.bind (fsum_Add_c ha (fl_U b)) (Ev.same rfl))

/-! ### The reference -/
end Go.Proofs.Ytbpggonjcnakgaa.M
