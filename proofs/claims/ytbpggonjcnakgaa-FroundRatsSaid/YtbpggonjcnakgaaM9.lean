/- Doubles as numbers: their parts, what is just one of them, and what rounds to which. -/
import Derived.Test.YtbpggonjcnakgaaM1
namespace Go.Proofs.Ytbpggonjcnakgaa.M
open Go.RowKit Go.Proofs.YtbpggonjcnakgaaW.PrintWords Go.Proofs.YtbpggonjcnakgaaW.PrintLast Go.Proofs.YtbpggonjcnakgaaW.PrintMore
set_option linter.unusedVariables false

def fx (b : Int) : Int := b / 4503599627370496 % 2048
def fr (b : Int) : Int := b % 4503599627370496
def fs (b : Int) : Bool := decide (b ≥ 9223372036854775808)
def sgn (neg : Bool) (b : Int) : Int := if neg then b + 9223372036854775808 else b
def fk (b : Int) : Int := if fx b = 2047 then (if fr b = 0 then 3 else 4) else if fx b = 0 then (if fr b = 0 then 0 else 1) else 2
def pm (b : Int) : Int := if fx b = 0 then fr b else fr b + 4503599627370496
def pe (b : Int) : Int := if fx b = 0 then -1074 else fx b - 1075
def INF : Int := 9218868437227405312
theorem mul_cmp {a b c : Int} (h : 0 < c) : (a * c > b * c ↔ a > b) ∧ (a * c = b * c ↔ a = b) := by
  constructor
  · constructor
    · intro h1
      rcases Int.lt_or_le b a with h2 | h2
      · exact h2
      · have := Int.mul_le_mul_of_nonneg_right h2 (Int.le_of_lt h)
        omega
    · intro h1
      exact Int.mul_lt_mul_of_pos_right h1 h
  · exact ⟨fun h1 => Int.eq_of_mul_eq_mul_right (by omega) h1, fun h1 => by rw [h1]⟩
theorem mod_split (M : Int) {G D : Int} (hG : 0 < G) : M % (G * D) = G * (M / G % D) + M % G := by
  rw [Int.emod_def M (G * D), ← Int.ediv_ediv_of_nonneg (by omega), Int.emod_def (M / G) D, Int.emod_def M G]
  grind

/-! ### Rounding: halves to the even one -/
def rnd (M : Int) (d : Nat) : Int := if 2 * (M % 2 ^ d) > 2 ^ d ∨ (2 * (M % 2 ^ d) = 2 ^ d ∧ M / 2 ^ d % 2 = 1) then M / 2 ^ d + 1 else M / 2 ^ d
theorem rnd_zero (M : Int) : rnd M 0 = M := by
  unfold rnd
  rw [Int.pow_zero, Int.ediv_one, Int.emod_one, if_neg (by omega)]
theorem rnd_le (M : Int) (d : Nat) : M / 2 ^ d ≤ rnd M d ∧ rnd M d ≤ M / 2 ^ d + 1 := by
  unfold rnd
  split <;> omega
theorem rnd_small {M : Int} {d : Nat} (h0 : 0 ≤ M) (h : 2 * M < 2 ^ d) : rnd M d = 0 := by
  unfold rnd
  rw [Int.emod_eq_of_lt h0 (by omega), Int.ediv_eq_zero_of_lt h0 (by omega), if_neg (by omega)]
theorem rnd_exact {M : Int} {d : Nat} (h : M % 2 ^ d = 0) : rnd M d = M / 2 ^ d := by
  have := pow_pos d
  unfold rnd
  rw [h, if_neg (by omega)]
theorem rnd_scale (M : Int) (d s : Nat) : rnd (M * 2 ^ s) (d + s) = rnd M d := by
  have hs := pow_pos s
  have e1 : M * 2 ^ s / 2 ^ (d + s) = M / 2 ^ d := by
    rw [Int.pow_add, Int.mul_comm M, Int.mul_comm (2 ^ d), Int.mul_ediv_mul_of_pos _ _ hs]
  have e2 : M * 2 ^ s % 2 ^ (d + s) = M % 2 ^ d * 2 ^ s := by
    rw [Int.pow_add, Int.mul_comm M, Int.mul_comm (2 ^ d), Int.mul_emod_mul_of_pos _ _ hs, Int.mul_comm]
  have e3 := mul_cmp (a := 2 * (M % 2 ^ d)) (b := 2 ^ d) hs
  unfold rnd
  rw [e1, e2, ← Int.mul_assoc, Int.pow_add]
  simp only [e3.1, e3.2]
theorem bl_ge' {x : Int} {n : Nat} (h : 2 ^ n ≤ x) : (n : Int) + 1 ≤ bl x := by
  have := pow_pos n
  have a1 := bl_lt x
  have : n < (bl x).toNat := pow_lt_of (by omega)
  omega
theorem bl_shl {m : Int} (h : 0 < m) (s : Nat) : bl (m * 2 ^ s) = bl m + s := by
  have hp := pow_pos s
  have h1 : 2 ^ s ≤ m * 2 ^ s := by
    have := Int.mul_le_mul_of_nonneg_right (show 1 ≤ m by omega) (Int.le_of_lt hp)
    omega
  rw [bl_shr h1, Int.mul_ediv_cancel _ (by omega)]

/-- The unit of the doubles near m times 2^e. -/
def un (m e : Int) : Int := max (bl m + e - 53) (-1074)
theorem un_ge (m e : Int) : -1074 ≤ un m e := by unfold un; omega
theorem un_scale {m : Int} (h : 0 < m) (e : Int) (s : Nat) : un (m * 2 ^ s) (e - s) = un m e := by
  unfold un
  rw [bl_shl h, show bl m + (s : Int) + (e - s) - 53 = bl m + e - 53 by omega]
/-- m times 2^e in units of 2^u, rounded. -/
def ru (m e u : Int) : Int := rnd (m * 2 ^ (e - u).toNat) (u - e).toNat
theorem ru_scale (m e u : Int) (s : Nat) : ru (m * 2 ^ s) (e - s) u = ru m e u := by
  unfold ru
  rcases Int.lt_or_le u e with h | h
  · obtain ⟨t, ht⟩ : ∃ t : Nat, e - u = t := ⟨(e - u).toNat, by omega⟩
    rw [show (u - e).toNat = 0 by omega, rnd_zero, ht, Int.toNat_natCast]
    rcases Nat.lt_or_ge t s with h2 | h2
    · rw [show (e - s - u).toNat = 0 by omega, show (u - (e - s)).toNat = 0 + (s - t) by omega, Int.pow_zero, Int.mul_one]
      have : m * 2 ^ s = m * 2 ^ t * 2 ^ (s - t) := by rw [Int.mul_assoc, ← Int.pow_add, show t + (s - t) = s by omega]
      rw [this, rnd_scale, rnd_zero]
    · rw [show (e - s - u).toNat = t - s by omega, show (u - (e - s)).toNat = 0 by omega, rnd_zero, Int.mul_assoc, ← Int.pow_add, show s + (t - s) = t by omega]
  · rw [show (e - u).toNat = 0 by omega, show (e - s - u).toNat = 0 by omega, Int.pow_zero, Int.mul_one, Int.mul_one, show (u - (e - s)).toNat = (u - e).toNat + s by omega, rnd_scale]
/-- The word of the double nearest to m times 2^e. -/
def Rd (m e : Int) : Int := if m ≤ 0 then 0 else if un m e > 971 then INF else (un m e + 1074) * 4503599627370496 + ru m e (un m e)
theorem Rd_zero (e : Int) : Rd 0 e = 0 := by unfold Rd; rw [if_pos (by omega)]
theorem Rd_scale {m : Int} (h : 0 < m) (e : Int) (s : Nat) : Rd (m * 2 ^ s) (e - s) = Rd m e := by
  have : 0 < m * 2 ^ s := Int.mul_pos h (pow_pos s)
  unfold Rd
  rw [if_neg (show ¬ m * 2 ^ s ≤ 0 by omega), if_neg (show ¬ m ≤ 0 by omega), un_scale h, ru_scale]

/-! ### Two numbers in one cell -/
theorem le_of_div {X : Int} {g : Nat} (h : 1 ≤ X / 2 ^ g) : 2 ^ g ≤ X := by
  rw [Int.le_ediv_iff_mul_le (pow_pos g)] at h
  omega
theorem div_of_le {X : Int} {g : Nat} (h : 2 ^ g ≤ X) : 1 ≤ X / 2 ^ g := by
  rw [Int.le_ediv_iff_mul_le (pow_pos g)]
  omega
theorem un_cell {X Y c : Int} {g : Nat} (hX : 0 < X) (hY : 0 < Y) (hq : X / 2 ^ g = Y / 2 ^ g) (hu : c + g + 1 ≤ un X c) : un X c = un Y c := by
  have hp := pow_pos g
  unfold un at *
  rcases Int.lt_or_le X (2 ^ g) with h | h
  · have e1 : X / 2 ^ g = 0 := Int.ediv_eq_zero_of_lt (by omega) h
    have h2 : Y < 2 ^ g := by
      rcases Int.lt_or_le Y (2 ^ g) with h' | h'
      · exact h'
      · have := div_of_le h'
        omega
    have b1 := bl_le_of h
    have b2 := bl_le_of h2
    omega
  · have h3 := div_of_le h
    rw [hq] at h3
    rw [bl_shr h, bl_shr (le_of_div h3), hq]
theorem half_cmp {G κ H x : Int} (hG : 0 < G) (h0 : 0 ≤ x) (h1 : x < G) : (2 * (G * κ + x) > G * (2 * H) ↔ (κ > H ∨ (κ = H ∧ x ≠ 0))) ∧ (2 * (G * κ + x) = G * (2 * H) ↔ (κ = H ∧ x = 0)) := by
  rw [show G * (2 * H) = 2 * (G * H) from Int.mul_left_comm ..]
  rcases Int.lt_trichotomy κ H with h | h | h
  · have := Int.mul_le_mul_of_nonneg_left (show κ + 1 ≤ H by omega) (Int.le_of_lt hG)
    rw [Int.mul_add, Int.mul_one] at this
    omega
  · subst h
    omega
  · have := Int.mul_le_mul_of_nonneg_left (show H + 1 ≤ κ by omega) (Int.le_of_lt hG)
    rw [Int.mul_add, Int.mul_one] at this
    omega
theorem rnd_cell {X Y : Int} {d g : Nat} (hgd : g + 1 ≤ d) (hq : X / 2 ^ g = Y / 2 ^ g) (hz : X % 2 ^ g = 0 ↔ Y % 2 ^ g = 0) : rnd X d = rnd Y d := by
  obtain ⟨j, rfl⟩ : ∃ j, d = g + (j + 1) := ⟨d - g - 1, by omega⟩
  have hG := pow_pos g
  have e : (2 : Int) ^ (g + (j + 1)) = 2 ^ g * (2 * 2 ^ j) := by rw [Int.pow_add, Int.pow_succ, Int.mul_comm (2 ^ j)]
  unfold rnd
  have ex : X / (2 ^ g * (2 * 2 ^ j)) = X / 2 ^ g / (2 * 2 ^ j) := (Int.ediv_ediv_of_nonneg (by omega)).symm
  have ey : Y / (2 ^ g * (2 * 2 ^ j)) = Y / 2 ^ g / (2 * 2 ^ j) := (Int.ediv_ediv_of_nonneg (by omega)).symm
  rw [e, mod_split X hG, mod_split Y hG, ex, ey, hq]
  have hx := half_cmp (κ := Y / 2 ^ g % (2 * 2 ^ j)) (H := 2 ^ j) hG (Int.emod_nonneg X (show (2 : Int) ^ g ≠ 0 by omega)) (Int.emod_lt_of_pos X hG)
  have hy := half_cmp (κ := Y / 2 ^ g % (2 * 2 ^ j)) (H := 2 ^ j) hG (Int.emod_nonneg Y (show (2 : Int) ^ g ≠ 0 by omega)) (Int.emod_lt_of_pos Y hG)
  simp only [hx.1, hx.2, hy.1, hy.2, ne_eq, hz]
theorem Rd_cell {X Y c : Int} {g : Nat} (hX : 0 < X) (hY : 0 < Y) (hq : X / 2 ^ g = Y / 2 ^ g) (hz : X % 2 ^ g = 0 ↔ Y % 2 ^ g = 0) (hu : c + g + 1 ≤ un X c) : Rd X c = Rd Y c := by
  have e := un_cell hX hY hq hu
  unfold Rd
  rw [if_neg (show ¬ X ≤ 0 by omega), if_neg (show ¬ Y ≤ 0 by omega), ← e]
  split
  · rfl
  · congr 1
    unfold ru
    rw [show (c - un X c).toNat = 0 by omega, Int.pow_zero, Int.mul_one, Int.mul_one]
    exact rnd_cell (g := g) (by omega) hq hz
/-- A number moved down, its lowest bit set if a bit was lost. -/
def st (M : Int) (s : Nat) : Int := if M % 2 ^ s = 0 then M / 2 ^ s else M / 2 ^ s / 2 * 2 + 1
/-! ### How many units there are -/
theorem un_q {m e : Int} (h : 0 < m) : 0 ≤ m * 2 ^ (e - un m e).toNat / 2 ^ (un m e - e).toNat ∧ m * 2 ^ (e - un m e).toNat / 2 ^ (un m e - e).toNat < 9007199254740992 ∧ (un m e = -1074 ∨ 4503599627370496 ≤ m * 2 ^ (e - un m e).toNat / 2 ^ (un m e - e).toNat) := by
  have hu : un m e = max (bl m + e - 53) (-1074) := rfl
  have hb := bl_shl h (e - un m e).toNat
  have hM : 0 < m * 2 ^ (e - un m e).toNat := Int.mul_pos h (pow_pos _)
  have a1 := bl_lt (m * 2 ^ (e - un m e).toNat)
  have a2 := bl_le hM
  have a3 := bl_pos hM
  have hp := pow_pos (un m e - e).toNat
  generalize un m e = u at *
  generalize m * 2 ^ (e - u).toNat = M at *
  have q0 : 0 ≤ M / 2 ^ (u - e).toNat := Int.ediv_nonneg (by omega) (by omega)
  have q1 : M / 2 ^ (u - e).toNat < 9007199254740992 := by
    rw [Int.ediv_lt_iff_lt_mul hp, show (9007199254740992 : Int) = 2 ^ 53 from rfl, ← Int.pow_add]
    have := pow_le_pow (a := (bl M).toNat) (b := 53 + (u - e).toNat) (by omega)
    omega
  refine ⟨q0, q1, ?_⟩
  rcases (show u = -1074 ∨ u = bl m + e - 53 by omega) with h1 | h1
  · exact .inl h1
  · refine .inr ?_
    rw [Int.le_ediv_iff_mul_le hp, show (4503599627370496 : Int) = 2 ^ 52 from rfl, ← Int.pow_add]
    have := pow_le_pow (a := 52 + (u - e).toNat) (b := (bl M - 1).toNat) (by omega)
    omega
theorem ru_units {m e : Int} (h : 0 < m) : 0 ≤ ru m e (un m e) ∧ ru m e (un m e) ≤ 9007199254740992 ∧ (un m e = -1074 ∨ 4503599627370496 ≤ ru m e (un m e)) := by
  have q := un_q (e := e) h
  have r := rnd_le (m * 2 ^ (e - un m e).toNat) (un m e - e).toNat
  unfold ru
  omega
theorem Rd_inf {m e : Int} (h : 0 < m) (he : 1024 ≤ e) : Rd m e = INF := by
  have := bl_pos h
  unfold Rd
  rw [if_neg (by omega), if_pos (by unfold un; omega)]
theorem Rd_none {m e : Int} (h : 0 ≤ m) (he : bl m + e < -1074) : Rd m e = 0 := by
  rcases (show m = 0 ∨ 0 < m by omega) with rfl | h1
  · exact Rd_zero e
  · have hb := bl_pos h1
    have hu : un m e = -1074 := by unfold un; omega
    have hl := bl_lt m
    unfold Rd ru
    rw [hu, if_neg (by omega), if_neg (by omega), show (e - -1074).toNat = 0 by omega, Int.pow_zero, Int.mul_one]
    obtain ⟨j, hj⟩ : ∃ j : Nat, (-1074 - e).toNat = j + 1 := ⟨(-1074 - e).toNat - 1, by omega⟩
    have := pow_le_pow (a := (bl m).toNat) (b := j) (by omega)
    rw [hj, rnd_small h (by rw [Int.pow_succ]; omega)]
    rfl

/-! ### What a number of units is as a double -/
def Mk (neg : Bool) (m e : Int) : Int × Bool :=
  if m = 0 then (sgn neg 0, true) else
    if un m e > 971 ∨ m * 2 ^ (e - un m e).toNat % 2 ^ (un m e - e).toNat ≠ 0 then (0, false) else (sgn neg (Rd m e), true)
theorem Mk_zero (neg : Bool) (e : Int) : Mk neg 0 e = (sgn neg 0, true) := by unfold Mk; rw [if_pos rfl]
theorem Mk_no (neg : Bool) {m e : Int} (h : m ≠ 0) (hc : un m e > 971 ∨ m * 2 ^ (e - un m e).toNat % 2 ^ (un m e - e).toNat ≠ 0) : Mk neg m e = (0, false) := by
  unfold Mk
  rw [if_neg h, if_pos hc]
theorem Mk_yes (neg : Bool) {m e : Int} (h : m ≠ 0) (h1 : un m e ≤ 971) (h2 : m * 2 ^ (e - un m e).toNat % 2 ^ (un m e - e).toNat = 0) : Mk neg m e = (sgn neg (Rd m e), true) := by
  unfold Mk
  rw [if_neg h, if_neg (by rw [not_or]; exact ⟨by omega, fun k => k h2⟩)]
theorem Rd_exact {m e : Int} (h : 0 < m) (h1 : un m e ≤ 971) (h2 : m * 2 ^ (e - un m e).toNat % 2 ^ (un m e - e).toNat = 0) : Rd m e = (un m e + 1074) * 4503599627370496 + m * 2 ^ (e - un m e).toNat / 2 ^ (un m e - e).toNat := by
  unfold Rd ru
  rw [if_neg (by omega), if_neg (by omega), rnd_exact h2]
theorem un_bl {m e : Int} {n : Nat} (h1 : 2 ^ n ≤ m) (h2 : m < 2 ^ (n + 1)) : un m e = max ((n : Int) + e - 52) (-1074) := by
  unfold un
  rw [bl_eq h1 h2]
  congr 1
  omega
/-- Units that are a double's, or rounded up to the next power. -/
theorem Rd_made {w u : Int} (h0 : 0 < w) (h1 : w ≤ 9007199254740992) (hu0 : -1074 ≤ u) (hu1 : u ≤ 971) (hw : u = -1074 ∨ 4503599627370496 ≤ w) :
    (w < 9007199254740992 → un w u = u) ∧ (w = 9007199254740992 → un w u = u + 1) ∧ (un w u ≤ 971 → w * 2 ^ (u - un w u).toNat % 2 ^ (un w u - u).toNat = 0) ∧ Rd w u = (u + 1074) * 4503599627370496 + w := by
  have key : (w < 9007199254740992 → un w u = u) ∧ (w = 9007199254740992 → un w u = u + 1) := by
    constructor
    · intro h
      rcases Int.lt_or_le w 4503599627370496 with h2 | h2
      · have := bl_le_of (x := w) (n := 52) h2
        unfold un
        omega
      · rw [un_bl (n := 52) h2 h]
        omega
    · intro h
      rw [un_bl (n := 53) (by omega) (by omega)]
      omega
  refine ⟨key.1, key.2, ?_⟩
  rcases (show w < 9007199254740992 ∨ w = 9007199254740992 by omega) with h | h
  · have e := key.1 h
    rw [e]
    have e2 : w * 2 ^ (u - u).toNat % 2 ^ (u - u).toNat = 0 := by
      rw [show (u - u).toNat = 0 by omega, Int.pow_zero, Int.emod_one]
    refine ⟨fun _ => e2, ?_⟩
    rw [Rd_exact h0 (by omega) (by rw [e]; exact e2), e, show (u - u).toNat = 0 by omega, Int.pow_zero, Int.mul_one, Int.ediv_one]
  · have e := key.2 h
    rw [e]
    have e2 : w * 2 ^ (u - (u + 1)).toNat % 2 ^ (u + 1 - u).toNat = 0 := by
      rw [show (u - (u + 1)).toNat = 0 by omega, show (u + 1 - u).toNat = 1 by omega, h]
      rfl
    refine ⟨fun _ => e2, ?_⟩
    rcases (show u = 971 ∨ u + 1 ≤ 971 by omega) with h3 | h3
    · unfold Rd INF
      rw [if_neg (by omega), if_pos (by omega)]
      omega
    · rw [Rd_exact h0 (by omega) (by rw [e]; exact e2), e, show (u - (u + 1)).toNat = 0 by omega, show (u + 1 - u).toNat = 1 by omega, h]
      simp only [Int.pow_zero, Int.mul_one, Int.pow_one]
      omega
theorem Mk_made {neg : Bool} {w u : Int} (h0 : 0 ≤ w) (h1 : w ≤ 9007199254740992) (hu0 : -1074 ≤ u) (hu1 : u ≤ 971) (hw : u = -1074 ∨ 4503599627370496 ≤ w) :
    (if (Mk neg w u).2 then (Mk neg w u).1 else sgn neg INF) = sgn neg ((u + 1074) * 4503599627370496 + w) := by
  rcases (show w = 0 ∨ 0 < w by omega) with rfl | h
  · rw [Mk_zero]
    obtain rfl : u = -1074 := by omega
    rfl
  · obtain ⟨k1, k2, k3, k4⟩ := Rd_made h h1 hu0 hu1 hw
    by_cases hc : un w u > 971
    · rw [Mk_no neg (by omega) (.inl hc)]
      have hw2 : w = 9007199254740992 := by omega
      have hu2 : u = 971 := by omega
      rw [hw2, hu2]
      rfl
    · rw [Mk_yes neg (by omega) (by omega) (k3 (by omega)), k4]
      rfl
theorem Mk_scale (neg : Bool) {m : Int} (h : 0 < m) (e : Int) : Mk neg (m * 2) (e - 1) = Mk neg m e := by
  have hu := un_scale h e 1
  have hR := Rd_scale h e 1
  rw [Int.pow_one] at hu hR
  rw [show e - ((1 : Nat) : Int) = e - 1 from rfl] at hu hR
  have : m * 2 * 2 ^ (e - 1 - un m e).toNat % 2 ^ (un m e - (e - 1)).toNat = 0 ↔ m * 2 ^ (e - un m e).toNat % 2 ^ (un m e - e).toNat = 0 := by
    generalize un m e = u
    rcases Int.lt_or_le u e with h1 | h1
    · rw [show (u - e).toNat = 0 by omega, show (u - (e - 1)).toNat = 0 by omega, Int.pow_zero, Int.emod_one, Int.emod_one]
    · rw [show (e - u).toNat = 0 by omega, show (e - 1 - u).toNat = 0 by omega, show (u - (e - 1)).toNat = (u - e).toNat + 1 by omega, Int.pow_succ, Int.pow_zero, Int.mul_one, Int.mul_one, Int.mul_comm m, Int.mul_comm (2 ^ _), Int.mul_emod_mul_of_pos _ _ (by omega)]
      omega
  by_cases hc : un m e > 971 ∨ m * 2 ^ (e - un m e).toNat % 2 ^ (un m e - e).toNat ≠ 0
  · rw [Mk_no neg (by omega) hc, Mk_no neg (by omega) (by rw [hu]; rcases hc with hc | hc; exact .inl hc; exact .inr (fun k => hc (this.1 k)))]
  · rw [not_or] at hc
    have h2 : m * 2 ^ (e - un m e).toNat % 2 ^ (un m e - e).toNat = 0 := Decidable.byContradiction hc.2
    rw [Mk_yes neg (by omega) (by omega) h2, Mk_yes neg (by omega) (by omega) (by rw [hu]; exact this.2 h2), hR]

/-! ### A double's parts -/
theorem fx_range {b : Int} : 0 ≤ fx b ∧ fx b < 2048 := by unfold fx; omega
theorem fr_range {b : Int} : 0 ≤ fr b ∧ fr b < 4503599627370496 := by unfold fr; omega
theorem pm_range (b : Int) : 0 ≤ pm b ∧ pm b < 9007199254740992 := by
  have := @fr_range b
  unfold pm
  split <;> omega
theorem pe_range (b : Int) : -1074 ≤ pe b ∧ pe b ≤ 972 ∧ (fx b ≠ 2047 → pe b ≤ 971) ∧ (pe b = -1074 ∨ 4503599627370496 ≤ pm b) := by
  have := @fx_range b
  have := @fr_range b
  unfold pe pm
  split <;> omega
theorem fk_eq (b : Int) : (fk b = 4 ↔ fx b = 2047 ∧ fr b ≠ 0) ∧ (fk b = 3 ↔ fx b = 2047 ∧ fr b = 0) ∧ (fk b = 0 ↔ fx b = 0 ∧ fr b = 0) ∧ (fk b = 0 ↔ fx b ≠ 2047 ∧ pm b = 0) ∧ 0 ≤ fk b ∧ fk b ≤ 4 := by
  have h2 := @fr_range b
  unfold fk pm
  by_cases c1 : fx b = 2047
  · rw [if_pos c1]
    by_cases c2 : fr b = 0
    · rw [if_pos c2]; omega
    · rw [if_neg c2]; omega
  · rw [if_neg c1]
    by_cases c3 : fx b = 0
    · rw [if_pos c3, if_pos c3]
      by_cases c2 : fr b = 0
      · rw [if_pos c2]; omega
      · rw [if_neg c2]; omega
    · rw [if_neg c3, if_neg c3]; omega
end Go.Proofs.Ytbpggonjcnakgaa.M
