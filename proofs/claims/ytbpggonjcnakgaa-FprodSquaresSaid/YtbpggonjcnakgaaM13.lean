/- What holds of sums, products, quotients and roots of doubles; the nearest whole number, powers of two, the order. -/
import Derived.Test.YtbpggonjcnakgaaM10
import Derived.Test.YtbpggonjcnakgaaM11
namespace Go.Proofs.Ytbpggonjcnakgaa.M
open Go.RowKit Go.Proofs.YtbpggonjcnakgaaW.PrintWords Go.Proofs.YtbpggonjcnakgaaW.PrintLast Go.Proofs.YtbpggonjcnakgaaW.PrintMore
set_option linter.unusedVariables false

theorem NAN_fk : fk NAN = 4 := by decide
theorem fl_NAN : fl NAN = NAN := by unfold fl; rw [if_pos NAN_fk]
theorem fl_none {b : Int} (h : fk b = 4) : fl b = NAN := by unfold fl; rw [if_pos h]
theorem fl_some {b : Int} (h : fk b ≠ 4) : fl b = (b + 9223372036854775808) % 18446744073709551616 := by unfold fl; rw [if_neg h]
theorem fl_fk {b : Int} (h : U b) : fk (fl b) = fk b := by
  by_cases h1 : fk b = 4
  · rw [fl_none h1, NAN_fk, h1]
  · rw [fl_some h1]; exact (fl_more h).1
theorem fsF_flip {a b : Int} (ha : U a) (hb : U b) (h1 : fk a ≠ 4) (h2 : fk b ≠ 4) : fsF (fl a) (fl b) = fl (fsF a b) ∨ (fk (fsF a b) = 0 ∧ fk (fsF (fl a) (fl b)) = 0) := by
  rw [fl_some h1, fl_some h2]
  obtain ⟨_, a1, a2⟩ := fl_more ha
  obtain ⟨_, b1, b2⟩ := fl_more hb
  have a3 := (fl_parts ha).2.2
  have b3 := (fl_parts hb).2.2
  unfold fsF
  rw [a1, a2, a3, b1, b2, b3]
  have e : ((!fs a) = (!fs b)) = (fs a = fs b) := by cases fs a <;> cases fs b <;> simp
  simp only [e]
  split
  · exact .inl (Rd_flip ..).symm
  · split
    · exact .inr (by decide)
    · split
      · exact .inl (Rd_flip ..).symm
      · exact .inl (Rd_flip ..).symm
theorem fadd_flip {a b : Int} (ha : U a) (hb : U b) : fadd (fl a) (fl b) = fl (fadd a b) ∨ (fk (fadd a b) = 0 ∧ fk (fadd (fl a) (fl b)) = 0) := by
  by_cases h1 : fk a = 4 ∨ fk b = 4
  · refine .inl ?_
    unfold fadd
    rw [if_pos (by rw [fl_fk ha, fl_fk hb]; exact h1), if_pos h1, fl_NAN]
  · have h2 : fk a ≠ 4 := by omega
    have h3 : fk b ≠ 4 := by omega
    have hne : (fl a ≠ fl b) = (a ≠ b) := by
      rw [fl_some h2, fl_some h3]
      unfold U at ha hb
      refine propext ⟨fun h k => h (by rw [k]), fun h k => h (by omega)⟩
    unfold fadd
    rw [fl_fk ha, fl_fk hb, if_neg h1, if_neg h1]
    simp only [hne]
    by_cases h4 : fk a = 3 ∧ fk b = 3 ∧ a ≠ b
    · rw [if_pos h4, if_pos h4, fl_NAN]; exact .inl rfl
    · rw [if_neg h4, if_neg h4]
      by_cases h5 : fk a = 3
      · rw [if_pos h5, if_pos h5]; exact .inl rfl
      · rw [if_neg h5, if_neg h5]
        by_cases h6 : fk b = 3
        · rw [if_pos h6, if_pos h6]; exact .inl rfl
        · rw [if_neg h6, if_neg h6]; exact fsF_flip ha hb h2 h3

/-! ### Products and quotients by 1, of opposites -/
theorem word_inf {a : Int} (h : U a) (h3 : fk a = 3) : sgn (fs a) INF = a := by
  have k := fk_eq a
  conv => rhs; rw [word_parts h, (k.2.1.1 h3).1, (k.2.1.1 h3).2]
  rfl
theorem word_finite {a : Int} (h : U a) (h1 : fk a ≠ 4) (h3 : fk a ≠ 3) : sgn (fs a) (Rd (pm a) (pe a)) = a := by
  have k := fk_eq a
  rw [Rd_parts (by omega)]
  exact (word_parts h).symm
theorem one_parts : fk 4607182418800017408 = 2 ∧ fs 4607182418800017408 = false ∧ pm 4607182418800017408 = 4503599627370496 ∧ pe 4607182418800017408 = -52 := by decide
theorem bne_false' (x : Bool) : (x != false) = x := by cases x <;> rfl
theorem fmul_one {a : Int} (h : U a) : fmul a 4607182418800017408 = cl a := by
  obtain ⟨o1, o2, o3, o4⟩ := one_parts
  unfold fmul cl
  rw [o1, o2, o3, o4, bne_false']
  by_cases h4 : fk a = 4
  · rw [if_pos (.inl h4), if_pos h4]
  · rw [if_neg (by omega), if_neg h4]
    by_cases h3 : fk a = 3
    · rw [if_pos (.inl h3), word_inf h h3]
    · rw [if_neg (by omega)]
      conv => rhs; rw [← word_finite h h4 h3]
      congr 1
      have := pm_range a
      rcases (show pm a = 0 ∨ 0 < pm a by omega) with h0 | h0
      · rw [h0, Int.zero_mul, Rd_zero, Rd_zero]
      · exact Rd_scale h0 (pe a) 52
theorem qd_one {m e : Int} (h : 0 < m) (hm : m < 9007199254740992) : qd m e 4503599627370496 (-52) = Rd m e := by
  have b1 := bl_pos h
  have b2 : bl m ≤ 53 := bl_le_of (n := 53) hm
  have b3 : bl 4503599627370496 = 53 := bl_eq (n := 52) (by decide) (by decide)
  unfold qd
  rw [b3, show (4503599627370496 : Int) * 2 ^ ((64 : Int) - 53).toNat = 9223372036854775808 by decide]
  rw [if_pos (by omega), show m * 2 ^ (63 - bl m).toNat * 18446744073709551616 / 9223372036854775808 = m * 2 ^ (63 - bl m).toNat * 2 by omega]
  have e1 : m * 2 ^ (63 - bl m).toNat * 2 = m * 2 ^ ((63 - bl m).toNat + 1) := by rw [Int.pow_succ, Int.mul_assoc]
  rw [e1, ← Rd_scale h e ((63 - bl m).toNat + 1)]
  congr 1
  omega
theorem fdiv_one {a : Int} (h : U a) : fdiv a 4607182418800017408 = cl a := by
  obtain ⟨o1, o2, o3, o4⟩ := one_parts
  have k := fk_eq a
  unfold fdiv cl
  rw [o1, o2, o3, o4, bne_false']
  by_cases h4 : fk a = 4
  · rw [if_pos (.inl h4), if_pos h4]
  · rw [if_neg (by omega), if_neg h4]
    by_cases h3 : fk a = 3
    · rw [if_pos (.inl h3), word_inf h h3]
    · rw [if_neg (by omega)]
      have e := word_finite h h4 h3
      have := pm_range a
      by_cases h0 : fk a = 0
      · rw [if_pos (.inl h0)]
        rw [(k.2.2.2.1.1 h0).2, Rd_zero] at e
        exact e
      · rw [if_neg (by omega), qd_one (by omega) (by omega)]
        exact e
theorem not_bne (x y : Bool) : ((!x) != y) = !(x != y) := by cases x <;> cases y <;> rfl
theorem fmul_flip {a b : Int} (ha : U a) : fmul (fl a) b = fl (fmul a b) := by
  by_cases h4 : fk a = 4
  · unfold fmul
    rw [fl_none h4, NAN_fk, if_pos (.inl rfl), if_pos (.inl h4), fl_NAN]
  · rw [fl_some h4]
    obtain ⟨a0, a1, a2⟩ := fl_more ha
    have a3 := (fl_parts ha).2.2
    unfold fmul
    rw [a0, a1, a2, a3, not_bne]
    split
    · exact fl_NAN.symm
    · split
      · exact (sgn_flip (by decide) (Int.le_refl _) _).symm
      · exact (Rd_flip ..).symm

/-! ### The root of a square -/
theorem rnd_near (M : Int) (d : Nat) : 2 * (rnd M d * 2 ^ d - M) ≤ 2 ^ d ∧ 2 * (M - rnd M d * 2 ^ d) ≤ 2 ^ d := by
  have hp := pow_pos d
  have h1 := Int.mul_ediv_add_emod M (2 ^ d)
  have h2 := Int.emod_nonneg M (show (2 : Int) ^ d ≠ 0 by omega)
  have h3 := Int.emod_lt_of_pos M hp
  unfold rnd
  rw [Int.mul_comm] at h1
  split
  · rw [Int.add_mul]; omega
  · omega
theorem square_root {a : Int} (hU : U a) (h0 : 2355382605114769408 ≤ a % 9223372036854775808) (h1 : a % 9223372036854775808 ≤ 6858982232485265408) (hx0 : 523 ≤ fx a) (hx1 : fx a ≤ 1523) :
    fs (fmul a a) = false ∧ fk (fmul a a) = 2 ∧ IsSq (pm (fmul a a)) (pe (fmul a a)) (a % 9223372036854775808) := by
  have hf := @fr_range a
  have hm : pm a = fr a + 4503599627370496 := by unfold pm; rw [if_neg (by omega)]
  have he : pe a = fx a - 1075 := by unfold pe; rw [if_neg (by omega)]
  have hk : fk a = 2 := by unfold fk; rw [if_neg (by omega), if_neg (by omega)]
  have hR := Rd_parts (b := a) (by omega)
  have hx : fx a * 4503599627370496 + fr a = a % 9223372036854775808 := by unfold fx fr; unfold U at hU; omega
  rw [hx] at hR
  have hmul : fmul a a = sgn false (Rd (pm a * pm a) (pe a + pe a)) := by
    unfold fmul
    rw [hk, if_neg (by omega), if_neg (by omega)]
    congr 1
    cases fs a <;> rfl
  have m0 : 4503599627370496 ≤ pm a := by omega
  have m1 : pm a < 9007199254740992 := by omega
  have e0 : -552 ≤ pe a := by omega
  have e1 : pe a ≤ 448 := by omega
  rw [hmul]
  generalize pm a = m at *
  generalize pe a = e at *
  generalize a % 9223372036854775808 = w at *
  clear hm he hk hx hmul hf hx0 hx1 hU
  have P0 : (2 : Int) ^ 104 ≤ m * m := by
    have := Int.mul_le_mul m0 m0 (by omega) (by omega)
    omega
  have P1 : m * m < 2 ^ 106 := by
    have := Int.mul_le_mul (show m ≤ 9007199254740991 by omega) (show m ≤ 9007199254740991 by omega) (by omega) (by omega)
    omega
  obtain ⟨d, hb, hd0, hd1⟩ : ∃ d : Nat, bl (m * m) = d + 53 ∧ 52 ≤ d ∧ d ≤ 53 := by
    rcases Int.lt_or_le (m * m) (2 ^ 105) with h | h
    · exact ⟨52, bl_eq P0 h, by omega, by omega⟩
    · exact ⟨53, bl_eq h P1, by omega, by omega⟩
  have hP53 : d = 53 → 2 ^ 105 ≤ m * m := by
    intro hd
    rcases Int.lt_or_le (m * m) (2 ^ 105) with h | h
    · have := bl_eq P0 h
      omega
    · exact h
  have hu : un (m * m) (e + e) = 2 * e + d := by unfold un; rw [hb]; omega
  have hPpos : 0 < m * m := by have := pow_pos 104; omega
  have ry := ru_units (e := e + e) hPpos
  rw [hu] at ry
  have hRd : Rd (m * m) (e + e) = (2 * e + d + 1074) * 4503599627370496 + ru (m * m) (e + e) (2 * e + d) := by
    unfold Rd
    rw [if_neg (by omega), hu, if_neg (by omega)]
  have hru : ru (m * m) (e + e) (2 * e + d) = rnd (m * m) d := by
    unfold ru
    rw [show (e + e - (2 * e + (d : Int))).toNat = 0 by omega, show (2 * e + (d : Int) - (e + e)).toNat = d by omega, Int.pow_zero, Int.mul_one]
  have hn := rnd_near (m * m) d
  rw [hRd]
  rw [hru] at ry ⊢
  generalize rnd (m * m) d = y at *
  have y0 : 4503599627370496 ≤ y := by omega
  have y1 : y ≤ 9007199254740992 := by omega
  -- the parts of the square
  have hsp := sgn_parts (x := (2 * e + d + 1074) * 4503599627370496 + y) (by omega) (by omega) false
  obtain ⟨s1, s2, s3, s4⟩ := hsp
  generalize sgn false ((2 * e + (d : Int) + 1074) * 4503599627370496 + y) = b at *
  refine ⟨s2, ?_, ?_⟩
  · unfold fk
    rw [if_neg (by omega), if_neg (by omega)]
  -- its root
  have hup : ∃ s : Nat, pm b * 2 ^ s = y ∧ pe b - s = 2 * e + d := by
    rcases (show y < 9007199254740992 ∨ y = 9007199254740992 by omega) with h | h
    · refine ⟨0, ?_, ?_⟩
      · unfold pm
        rw [if_neg (by omega), Int.pow_zero]
        omega
      · unfold pe
        rw [if_neg (by omega)]
        omega
    · refine ⟨1, ?_, ?_⟩
      · unfold pm
        rw [if_neg (by omega), Int.pow_one]
        omega
      · unfold pe
        rw [if_neg (by omega)]
        omega
  obtain ⟨s, hs1, hs2⟩ := hup
  have hp4 : (2 : Int) ^ (52 + 4) ≤ 2 ^ (d + 2 * 2) := pow_le_pow (by omega)
  have hYX : (2 : Int) ^ 108 ≤ y * 2 ^ (d + 2 * 2) := by
    have := Int.mul_le_mul y0 hp4 (by decide) (by omega)
    omega
  obtain ⟨r, hr⟩ := root_ex (A := y * 2 ^ (d + 2 * 2)) (by have := pow_pos 108; omega)
  have hr3 := hr.2.2
  have hrge : (18014398509481984 : Int) < r + 1 := lt_of_sq (by have := hr.1; omega) (by omega)
  have hX : pm b * 2 ^ (s + (d + 2 * 2)) = y * 2 ^ (d + 2 * 2) := by rw [Int.pow_add, ← Int.mul_assoc, hs1]
  refine ⟨s + (d + 2 * 2), e - 3, r, by omega, by rw [hX]; exact hr, by omega, ?_⟩
  rw [hX, ← hR]
  rcases (show m = 4503599627370496 ∨ 4503599627370496 < m by omega) with h | h
  · -- a power of two: exact
    subst h
    have hd : d = 52 := by
      rcases (show d = 52 ∨ d = 53 by omega) with h | h
      · exact h
      · have := hP53 h
        omega
    subst hd
    have hy : y = 4503599627370496 := by omega
    subst hy
    have hrr : r = 18014398509481984 := root_unique hr ⟨by decide, by decide, by decide⟩
    subst hrr
    unfold sv
    rw [if_pos (by decide)]
    exact (Rd_scale (m := 4503599627370496) (by decide) e 3).symm
  · have hdd : (2 : Int) ^ d ≤ 2 * (m - 1) := by
      rcases (show d = 52 ∨ d = 53 by omega) with rfl | rfl
      · omega
      · omega
    have := sq_square (m := m) (e := e) (y := y) (r := r) (d := d) (j := 2) (by omega) h m1 (by omega) (by omega) (by omega) hr
    rw [show e - ((2 : Nat) : Int) - 1 = e - 3 by omega] at this
    exact this.symm

/-! ### The nearest whole number, powers of two, the order -/
def near (b : Int) : Int × Bool := if fx b = 2047 ∨ bl (pm b) + pe b > 62 then (0, false) else (if fs b then -(ru (pm b) (pe b) 0) else ru (pm b) (pe b) 0, true)
def fscale (b k : Int) : Int := if fx b = 2047 then cl b else sgn (fs b) (Rd (pm b) (pe b + min (max k (-5000)) 5000))
theorem fscale_far (b k : Int) : Rd (pm b) (pe b + min (max k (-9000)) 9000) = Rd (pm b) (pe b + min (max k (-5000)) 5000) := by
  have h1 := pm_range b
  have h2 := pe_range b
  have h3 : bl (pm b) ≤ 53 := bl_le_of (n := 53) (by omega)
  rcases (show pm b = 0 ∨ 0 < pm b by omega) with h | h
  · rw [h, Rd_zero, Rd_zero]
  · rcases (show 5000 < k ∨ k < -5000 ∨ (-5000 ≤ k ∧ k ≤ 5000) by omega) with hk | hk | hk
    · rw [Rd_inf h (by omega), Rd_inf h (by omega)]
    · rw [Rd_none (by omega) (by omega), Rd_none (by omega) (by omega)]
    · congr 1
      omega
theorem fscale_U {b : Int} (h : U b) (k : Int) : U (fscale b k) := by
  unfold fscale cl
  split
  · split
    · exact NAN_U
    · exact h
  · exact sgnRd_U ..
def fkey (b : Int) : Int := if fs b then -(b - 9223372036854775808) else b
def less (a b : Int) : Bool := decide (fk a ≠ 4 ∧ fk b ≠ 4 ∧ fkey a < fkey b)
def fint (n : Int) : Int := sgn (decide (n < 0)) (Rd (if n < 0 then -n else n) 0)
theorem fint_U (n : Int) : U (fint n) := sgnRd_U ..
end Go.Proofs.Ytbpggonjcnakgaa.M
