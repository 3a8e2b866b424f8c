/- Sums, products, quotients of doubles as numbers. -/
import Derived.Test.YtbpggonjcnakgaaM9
namespace Go.Proofs.Ytbpggonjcnakgaa.M
open Go.RowKit Go.Proofs.YtbpggonjcnakgaaW.PrintWords Go.Proofs.YtbpggonjcnakgaaW.PrintLast Go.Proofs.YtbpggonjcnakgaaW.PrintMore
set_option linter.unusedVariables false

/-! ### Sums -/
theorem cell_neg {a b G : Int} (hG : 0 < G) (hq : a / G = b / G) (hz : a % G = 0 ↔ b % G = 0) : (-a) / G = (-b) / G ∧ ((-a) % G = 0 ↔ (-b) % G = 0) := by
  have key : ∀ x : Int, (x % G = 0 → (-x) / G = -(x / G) ∧ (-x) % G = 0) ∧ (x % G ≠ 0 → (-x) / G = -(x / G) - 1 ∧ (-x) % G = G - x % G) := by
    intro x
    have h1 := Int.mul_ediv_add_emod x G
    have h2 := Int.emod_nonneg x (show G ≠ 0 by omega)
    have h3 := Int.emod_lt_of_pos x hG
    constructor
    · intro h
      exact (Int.ediv_emod_unique hG).2 ⟨by rw [Int.mul_neg]; omega, by omega, by omega⟩
    · intro h
      exact (Int.ediv_emod_unique hG).2 ⟨by rw [Int.mul_sub, Int.mul_neg, Int.mul_one]; omega, by omega, by omega⟩
  have ka := key a
  have kb := key b
  have b3 := Int.emod_lt_of_pos b hG
  have a3 := Int.emod_lt_of_pos a hG
  by_cases h : a % G = 0
  · have h' := hz.1 h
    exact ⟨by rw [(ka.1 h).1, (kb.1 h').1, hq], by simp [(ka.1 h).2, (kb.1 h').2]⟩
  · have h' := fun k => h (hz.2 k)
    refine ⟨by rw [(ka.2 h).1, (kb.2 h').1, hq], ?_⟩
    rw [(ka.2 h).2, (kb.2 h').2]
    omega
theorem cell_add {a b G : Int} (K : Int) (hq : a / G = b / G) (hz : a % G = 0 ↔ b % G = 0) (hG : 0 < G) : (G * K + a) / G = (G * K + b) / G ∧ ((G * K + a) % G = 0 ↔ (G * K + b) % G = 0) := by
  rw [Int.add_comm (G * K), Int.add_comm (G * K), Int.add_mul_ediv_left _ _ (by omega), Int.add_mul_ediv_left _ _ (by omega), Int.add_mul_emod_self_left, Int.add_mul_emod_self_left]
  exact ⟨by rw [hq], hz⟩
theorem st_le {n : Int} (h0 : 0 ≤ n) (s : Nat) : st n s ≤ n / 2 ^ s + 1 := by
  unfold st
  split <;> omega
/-- A sum with the lesser number moved down, its lost bits marked. -/
theorem sum_st {m e n f : Int} (hm0 : 0 ≤ m) (hm : m < 9007199254740992) (hn0 : 0 ≤ n) (hn : n < 9007199254740992) (hef : f ≤ e) (hf : -1074 ≤ f) (hw : e = -1074 ∨ 4503599627370496 ≤ m) {up s : Nat} (hup : (up : Int) = min (e - f) 10) (hs : e - up - f = s) :
    Rd (m * 2 ^ up + st n s) (e - up) = Rd (m * 2 ^ (e - f).toNat + n) f ∧
    (m * 2 ^ up > st n s ↔ m * 2 ^ (e - f).toNat > n) ∧ (m * 2 ^ up < st n s ↔ m * 2 ^ (e - f).toNat < n) ∧
    (m * 2 ^ up > st n s → Rd (m * 2 ^ up - st n s) (e - up) = Rd (m * 2 ^ (e - f).toNat - n) f) ∧
    (m * 2 ^ up < st n s → Rd (st n s - m * 2 ^ up) (e - up) = Rd (n - m * 2 ^ (e - f).toNat) f) := by
  rcases (show s = 0 ∨ 0 < s by omega) with rfl | hs0
  · rw [st_zero, show (e - f).toNat = up by omega, show e - (up : Int) = f by omega]
    exact ⟨rfl, Iff.rfl, Iff.rfl, fun _ => rfl, fun _ => rfl⟩
  · obtain rfl : up = 10 := by omega
    have hm2 : 4503599627370496 ≤ m := by omega
    have hG : (0 : Int) < 2 ^ s := pow_pos s
    have hG2 : (0 : Int) < 2 ^ (s + 1) := pow_pos _
    have hge : (2 : Int) ≤ 2 ^ s := by
      have := pow_le_pow (a := 1) (b := s) (by omega)
      omega
    have eX : m * 2 ^ (e - f).toNat = 2 ^ (s + 1) * (m * 512) := by
      rw [show (e - f).toNat = s + 1 + 9 by omega, Int.pow_add]
      generalize (2 : Int) ^ (s + 1) = G
      rw [show (2 : Int) ^ 9 = 512 from rfl]
      grind
    have hY := st_le hn0 s
    have hY0 := st_nonneg hn0 s
    have hYn : n / 2 ^ s ≤ n := Int.ediv_le_self _ hn0
    have hc := st_cell n s
    have hcn := cell_neg hG2 hc.1 hc.2
    have ca := cell_add (m * 512) hc.1 hc.2 hG2
    have cn := cell_add (m * 512) hcn.1 hcn.2 hG2
    have hX : 4503599627370496 * 512 * 2 ^ (s + 1) ≤ 2 ^ (s + 1) * (m * 512) := by
      rw [Int.mul_comm]
      exact Int.mul_le_mul_of_nonneg_left (by omega) (by omega)
    have ee : e - ((10 : Nat) : Int) = f + s := by omega
    have e10 : m * 2 ^ 10 = m * 1024 := rfl
    rw [ee, eX, e10]
    have p1 : (2 : Int) ^ (s + 1) = 2 ^ s * 2 := Int.pow_succ ..
    have s1 : (m * 1024 + st n s) * 2 ^ s = 2 ^ (s + 1) * (m * 512) + st n s * 2 ^ s := by rw [p1]; grind
    have s2 : (m * 1024 - st n s) * 2 ^ s = 2 ^ (s + 1) * (m * 512) + -(st n s * 2 ^ s) := by rw [p1]; grind
    have u1 : ∀ M : Int, 4503599627370496 * 511 * 2 ^ (s + 1) ≤ M → f + ((s + 1 : Nat) : Int) + 1 ≤ un M f := by
      intro M h
      have : (2 : Int) ^ (60 + (s + 1)) ≤ M := by
        rw [Int.pow_add]
        have : (2 : Int) ^ 60 * 2 ^ (s + 1) ≤ 4503599627370496 * 511 * 2 ^ (s + 1) := Int.mul_le_mul_of_nonneg_right (by decide) (by omega)
        omega
      have := bl_ge' this
      unfold un
      omega
    have hbig : (4503599627370496 : Int) * 2 ≤ 4503599627370496 * 2 ^ (s + 1) := by omega
    have gt1 : m * 1024 > st n s := by omega
    have gt2 : 2 ^ (s + 1) * (m * 512) > n := by omega
    refine ⟨?_, by omega, by omega, fun _ => ?_, fun h => by omega⟩
    · rw [← Rd_scale (show 0 < m * 1024 + st n s by omega) (f + s) s, show f + (s : Int) - s = f by omega, s1]
      exact (Rd_cell (g := s + 1) (by omega) (by have := Int.mul_nonneg hY0 (Int.le_of_lt hG); omega) ca.1.symm ca.2.symm (u1 _ (by omega))).symm
    · rw [← Rd_scale (show 0 < m * 1024 - st n s by omega) (f + s) s, show f + (s : Int) - s = f by omega, s2, show 2 ^ (s + 1) * (m * 512) - n = 2 ^ (s + 1) * (m * 512) + -n by omega]
      have pos : 0 < 2 ^ (s + 1) * (m * 512) + -(st n s * 2 ^ s) := by rw [← s2]; exact Int.mul_pos (by omega) hG
      exact (Rd_cell (g := s + 1) (by omega) pos cn.1.symm cn.2.symm (u1 _ (by omega))).symm
/-- The sum of two finite doubles. -/
def fsF (a b : Int) : Int :=
  if fs a = fs b then sgn (fs a) (Rd (pm a * 2 ^ (pe a - min (pe a) (pe b)).toNat + pm b * 2 ^ (pe b - min (pe a) (pe b)).toNat) (min (pe a) (pe b)))
  else if pm a * 2 ^ (pe a - min (pe a) (pe b)).toNat = pm b * 2 ^ (pe b - min (pe a) (pe b)).toNat then 0
  else if pm a * 2 ^ (pe a - min (pe a) (pe b)).toNat > pm b * 2 ^ (pe b - min (pe a) (pe b)).toNat then sgn (fs a) (Rd (pm a * 2 ^ (pe a - min (pe a) (pe b)).toNat - pm b * 2 ^ (pe b - min (pe a) (pe b)).toNat) (min (pe a) (pe b)))
  else sgn (fs b) (Rd (pm b * 2 ^ (pe b - min (pe a) (pe b)).toNat - pm a * 2 ^ (pe a - min (pe a) (pe b)).toNat) (min (pe a) (pe b)))
theorem fsF_comm (a b : Int) : fsF a b = fsF b a := by
  unfold fsF
  rw [show min (pe b) (pe a) = min (pe a) (pe b) by omega]
  generalize pm a * 2 ^ (pe a - min (pe a) (pe b)).toNat = X
  generalize pm b * 2 ^ (pe b - min (pe a) (pe b)).toNat = Y
  by_cases h : fs a = fs b
  · rw [if_pos h, if_pos h.symm, h, Int.add_comm]
  · have h' : ¬ fs b = fs a := fun k => h k.symm
    rw [if_neg h, if_neg h']
    rcases Int.lt_trichotomy X Y with h1 | h1 | h1
    · rw [if_neg (show ¬ X = Y by omega), if_neg (show ¬ X > Y by omega), if_neg (show ¬ Y = X by omega), if_pos (show Y > X from h1)]
    · rw [if_pos h1, if_pos h1.symm]
    · rw [if_neg (show ¬ X = Y by omega), if_pos (show X > Y from h1), if_neg (show ¬ Y = X by omega), if_neg (show ¬ Y > X by omega)]
def fadd (a b : Int) : Int := if fk a = 4 ∨ fk b = 4 then NAN else if fk a = 3 ∧ fk b = 3 ∧ a ≠ b then NAN else if fk a = 3 then a else if fk b = 3 then b else fsF a b
/-! ### The opposite -/
def fl (b : Int) : Int := if fk b = 4 then NAN else (b + 9223372036854775808) % 18446744073709551616
theorem fl_parts {b : Int} (h : U b) : fx ((b + 9223372036854775808) % 18446744073709551616) = fx b ∧ fr ((b + 9223372036854775808) % 18446744073709551616) = fr b ∧ fs ((b + 9223372036854775808) % 18446744073709551616) = !fs b := by
  unfold U at h
  unfold fx fr fs
  refine ⟨by omega, by omega, ?_⟩
  by_cases hb : b ≥ 9223372036854775808
  · rw [decide_eq_true hb, decide_eq_false (by omega)]; rfl
  · rw [decide_eq_false hb, decide_eq_true (by omega)]; rfl
theorem fl_more {b : Int} (h : U b) : fk ((b + 9223372036854775808) % 18446744073709551616) = fk b ∧ pm ((b + 9223372036854775808) % 18446744073709551616) = pm b ∧ pe ((b + 9223372036854775808) % 18446744073709551616) = pe b := by
  obtain ⟨h1, h2, h3⟩ := fl_parts h
  unfold fk pm pe
  rw [h1, h2]
  exact ⟨rfl, rfl, rfl⟩
theorem fl_U (b : Int) : U (fl b) := by unfold fl NAN U; split <;> omega
theorem sgn_parts {x : Int} (h0 : 0 ≤ x) (h1 : x < 9223372036854775808) (neg : Bool) : U (sgn neg x) ∧ fs (sgn neg x) = neg ∧ fx (sgn neg x) = x / 4503599627370496 ∧ fr (sgn neg x) = x % 4503599627370496 := by
  unfold sgn U fs fx fr
  cases neg
  · simp only [Bool.false_eq_true, if_false]
    exact ⟨by omega, decide_eq_false (by omega), by omega, by first | trivial | omega⟩
  · simp only [if_true]
    exact ⟨by omega, decide_eq_true (by omega), by omega, by omega⟩
theorem fsF_U (a b : Int) : U (fsF a b) := by
  have key : ∀ (n : Bool) (m e : Int), U (sgn n (Rd m e)) := fun n m e => (sgn_parts (Rd_range m e).1 (by have := (Rd_range m e).2; unfold INF at this; omega) n).1
  unfold fsF
  split
  · exact key ..
  · split
    · unfold U; omega
    · split
      · exact key ..
      · exact key ..
theorem fadd_U {a b : Int} (ha : U a) (hb : U b) : U (fadd a b) := by
  have : U NAN := by unfold U NAN; omega
  unfold fadd
  split
  · exact this
  · split
    · exact this
    · split
      · exact ha
      · split
        · exact hb
        · exact fsF_U a b
def fsub (a b : Int) : Int := fadd a (fl b)

/-! ### Products, quotients -/
end Go.Proofs.Ytbpggonjcnakgaa.M
