/- What the functions answer, over plain numbers. -/
import Derived.Test.YtjocbnjpjihpnaaCCa
import Derived.Test.YtjocbnjpjihpnaaBgradineref10
import Derived.Test.YtjocbnjpjihpnaaBfround
import Derived.Test.YtjocbnjpjihpnaaFgradinelaw10same
section
namespace Go.Proofs.Ytjocbnjpjihpnaa.M
open Go.RowKit Go.Proofs.YtjocbnjpjihpnaaW.PrintWords Go.Proofs.YtjocbnjpjihpnaaW.PrintLast Go.Proofs.YtjocbnjpjihpnaaW.PrintMore
set_option linter.unusedVariables false

/-- Twice the quotient, one more if something is left, stands to even numbers as twice the fraction itself does. -/
theorem qv_even {N D h : Int} (hD : 0 < D) : (qv N D < 2 * h ↔ 2 * N < 2 * h * D) ∧ (qv N D = 2 * h ↔ 2 * N = 2 * h * D) := by
  have d1 := Int.mul_ediv_add_emod N D
  have d2 := Int.emod_nonneg N (show D ≠ 0 by omega)
  have d3 := Int.emod_lt_of_pos N hD
  have e : 2 * h * D = 2 * (D * h) := by rw [Int.mul_assoc, Int.mul_comm h D]
  rw [e]
  have k1 : D * (N / D) < D * h ↔ N / D < h := ⟨fun q => Int.lt_of_mul_lt_mul_left q (by omega), fun q => Int.mul_lt_mul_of_pos_left q hD⟩
  have k2 : N / D < h → D * (N / D) + D ≤ D * h := fun q => by
    have := Int.mul_le_mul_of_nonneg_left (show N / D + 1 ≤ h by omega) (show 0 ≤ D by omega)
    rw [Int.mul_add, Int.mul_one] at this
    exact this
  have k3 : h < N / D → D * h + D ≤ D * (N / D) := fun q => by
    have := Int.mul_le_mul_of_nonneg_left (show h + 1 ≤ N / D by omega) (show 0 ≤ D by omega)
    rw [Int.mul_add, Int.mul_one] at this
    exact this
  have k4 : N / D = h → D * (N / D) = D * h := fun q => by rw [q]
  unfold qv
  rcases Int.lt_trichotomy (N / D) h with c | c | c
  · have := k2 c
    split <;> constructor <;> constructor <;> intro _ <;> omega
  · have := k4 c
    split <;> constructor <;> constructor <;> intro _ <;> omega
  · have := k3 c
    split <;> constructor <;> constructor <;> intro _ <;> omega
/-- The rounded number is as near as any other; of two that are as near it is even. -/
theorem rnd_nearest {N D : Int} {d : Nat} (hD : 0 < D) (hd : 2 ≤ d) (m : Int) :
    ab (2 * N - rnd (qv N D) d * 2 ^ d * D) ≤ ab (2 * N - m * 2 ^ d * D) ∧ (ab (2 * N - rnd (qv N D) d * 2 ^ d * D) = ab (2 * N - m * 2 ^ d * D) → m = rnd (qv N D) d ∨ rnd (qv N D) d % 2 = 0) := by
  obtain ⟨j, rfl⟩ : ∃ j : Nat, d = j + 2 := ⟨d - 2, by omega⟩
  have hp := pow_pos j
  have g : (2 : Int) ^ (j + 2) = 4 * 2 ^ j := by rw [Int.pow_add, Int.mul_comm]; rfl
  have s1 := Int.mul_ediv_add_emod (qv N D) (2 ^ (j + 2))
  have s2 := Int.emod_nonneg (qv N D) (show (2 : Int) ^ (j + 2) ≠ 0 by omega)
  have s3 := Int.emod_lt_of_pos (qv N D) (show (0 : Int) < 2 ^ (j + 2) by omega)
  unfold rnd
  generalize hk : qv N D / 2 ^ (j + 2) = k at *
  generalize hr : qv N D % 2 ^ (j + 2) = r at *
  have a1 := qv_even (N := N) (h := 2 * 2 ^ j * k) hD
  have a2 := qv_even (N := N) (h := 2 * 2 ^ j * k + 2 ^ j) hD
  have a3 := qv_even (N := N) (h := 2 * 2 ^ j * k + 2 * 2 ^ j) hD
  have W0 : 0 < 2 * 2 ^ j * D := Int.mul_pos (by omega) hD
  have e1 : 2 * (2 * 2 ^ j * k) * D = 2 * (k * (2 * 2 ^ j * D)) := by ac_rfl
  have e2 : 2 * (2 * 2 ^ j * k + 2 ^ j) * D = 2 * (k * (2 * 2 ^ j * D)) + 2 * 2 ^ j * D := by rw [Int.mul_add, Int.add_mul, e1]
  have e3 : 2 * (2 * 2 ^ j * k + 2 * 2 ^ j) * D = 2 * (k * (2 * 2 ^ j * D)) + 2 * (2 * 2 ^ j * D) := by rw [Int.mul_add, Int.add_mul, e1]; congr 1; ac_rfl
  have e0 : ∀ x : Int, x * 2 ^ (j + 2) * D = 2 * (x * (2 * 2 ^ j * D)) := fun x => by
    rw [g, show (4 : Int) * 2 ^ j = 2 * (2 * 2 ^ j) by omega]; ac_rfl
  rw [e1] at a1
  rw [e2] at a2
  rw [e3] at a3
  rw [e0, e0]
  generalize 2 * 2 ^ j * D = W at *
  have f1 : (k + 1) * W = k * W + W := by rw [Int.add_mul, Int.one_mul]
  have f2 : m ≤ k - 1 → m * W ≤ k * W - W := fun q => by
    have := Int.mul_le_mul_of_nonneg_right q (show 0 ≤ W by omega)
    rw [Int.sub_mul, Int.one_mul] at this
    exact this
  have f3 : k + 2 ≤ m → k * W + 2 * W ≤ m * W := fun q => by
    have := Int.mul_le_mul_of_nonneg_right q (show 0 ≤ W by omega)
    rw [Int.add_mul] at this
    exact this
  have f4 : m = k → m * W = k * W := fun q => by rw [q]
  have f5 : m = k + 1 → m * W = k * W + W := fun q => by rw [q, f1]
  have s1' : 4 * (2 ^ j * k) + r = qv N D := by rw [← s1, g, Int.mul_assoc]
  have t1 : 2 * (2 * 2 ^ j * k) = 4 * (2 ^ j * k) := by rw [Int.mul_assoc]; omega
  have t2 : 2 * (2 * 2 ^ j * k + 2 ^ j) = 4 * (2 ^ j * k) + 2 * 2 ^ j := by rw [Int.mul_add, t1]
  have t3 : 2 * (2 * 2 ^ j * k + 2 * 2 ^ j) = 4 * (2 ^ j * k) + 4 * 2 ^ j := by rw [Int.mul_add, t1]; omega
  rw [t1] at a1
  rw [t2] at a2
  rw [t3] at a3
  rw [g] at s3 ⊢
  generalize (2 : Int) ^ j * k = p at *
  generalize (2 : Int) ^ j = E at *
  generalize qv N D = Q at *
  have b1 : 2 * (k * W) ≤ 2 * N := by
    have := a1.1
    have : ¬ 2 * N < 2 * (k * W) := fun q => by have := this.2 q; omega
    omega
  have b3 : 2 * N < 2 * (k * W) + 2 * W := a3.1.1 (by omega)
  have cases5 : m ≤ k - 1 ∨ m = k ∨ m = k + 1 ∨ k + 2 ≤ m := by omega
  by_cases h : 2 * r > 4 * E ∨ (2 * r = 4 * E ∧ k % 2 = 1)
  · rw [if_pos h]
    have b2 : 2 * (k * W) + W ≤ 2 * N := by
      have : ¬ 2 * N < 2 * (k * W) + W := fun q => by have := a2.1.2 q; omega
      omega
    have b4 : 2 * N = 2 * (k * W) + W → k % 2 = 1 := fun q => by have := a2.2.2 q; omega
    rw [f1]
    generalize k * W = kW at *
    generalize m * W = mW at *
    unfold ab
    rcases cases5 with c | c | c | c
    · have := f2 c; constructor
      · split <;> split <;> omega
      · intro q; split at q <;> split at q <;> omega
    · have := f4 c; constructor
      · split <;> split <;> omega
      · intro q; split at q <;> split at q <;> omega
    · exact ⟨by rw [f5 c]; omega, fun _ => .inl c⟩
    · have := f3 c; constructor
      · split <;> split <;> omega
      · intro q; split at q <;> split at q <;> omega
  · rw [if_neg h]
    have b2 : 2 * N ≤ 2 * (k * W) + W := by
      by_cases q : Q < 4 * p + 2 * E
      · have := a2.1.1 q; omega
      · have := a2.2.1 (by omega); omega
    have b4 : 2 * N = 2 * (k * W) + W → k % 2 = 0 := fun q => by have := a2.2.2 q; omega
    generalize k * W = kW at *
    generalize m * W = mW at *
    unfold ab
    rcases cases5 with c | c | c | c
    · have := f2 c; constructor
      · split <;> split <;> omega
      · intro q; split at q <;> split at q <;> omega
    · exact ⟨by rw [f4 c]; omega, fun _ => .inl c⟩
    · have := f5 c; constructor
      · split <;> split <;> omega
      · intro q; split at q <;> split at q <;> omega
    · have := f3 c; constructor
      · split <;> split <;> omega
      · intro q; split at q <;> split at q <;> omega
end Go.Proofs.Ytjocbnjpjihpnaa.M
end
section
namespace Go.Proofs.Ytjocbnjpjihpnaa.M
open Go.RowKit Go.Proofs.YtjocbnjpjihpnaaW.PrintWords Go.Proofs.YtjocbnjpjihpnaaW.PrintLast Go.Proofs.YtjocbnjpjihpnaaW.PrintMore
set_option linter.unusedVariables false

/-! ### Products and quotients by 1, of opposites -/
/-! ### The root of a square -/
theorem rnd_near (M : Int) (d : Nat) : 2 * (rnd M d * 2 ^ d - M) ≤ 2 ^ d ∧ 2 * (M - rnd M d * 2 ^ d) ≤ 2 ^ d := by
  have hp := pow_pos d
  have h1 := Int.mul_ediv_add_emod M (2 ^ d)
  have h2 := Int.emod_nonneg M (show (2 : Int) ^ d ≠ 0 by omega)
  have h3 := Int.emod_lt_of_pos M hp
  unfold rnd
  rw [Int.mul_comm] at h1
  split
  · rw [Int.add_mul]; omega
  · omega
/-! ### The nearest whole number, powers of two, the order -/
def near (b : Int) : Int × Bool := if fx b = 2047 ∨ bl (pm b) + pe b > 62 then (0, false) else (if fs b then -(ru (pm b) (pe b) 0) else ru (pm b) (pe b) 0, true)
def fkey (b : Int) : Int := if fs b then -(b - 9223372036854775808) else b
def less (a b : Int) : Bool := decide (fk a ≠ 4 ∧ fk b ≠ 4 ∧ fkey a < fkey b)
end Go.Proofs.Ytjocbnjpjihpnaa.M
end
section
namespace Go.Proofs.Ytjocbnjpjihpnaa.M
open Go.RowKit Go.Proofs.YtjocbnjpjihpnaaW.PrintWords Go.Proofs.YtjocbnjpjihpnaaW.PrintLast Go.Proofs.YtjocbnjpjihpnaaW.PrintMore
set_option linter.unusedVariables false

/-- In units of the least double. -/
def V (b : Int) : Int := pm b * 2 ^ (pe b + 1074).toNat
def SV (b : Int) : Int := sgI (fs b) (V b)
theorem V_nonneg (b : Int) : 0 ≤ V b := Int.mul_nonneg (pm_range b).1 (by have := pow_pos (pe b + 1074).toNat; omega)
theorem V_low {b : Int} (h : fx b = 0) : V b = fr b := by
  unfold V pm pe
  rw [if_pos h, if_pos h]
  show fr b * 2 ^ 0 = _
  rw [Int.pow_zero, Int.mul_one]
theorem V_high {b : Int} {n : Nat} (h : fx b = n + 1) : V b = (fr b + 4503599627370496) * 2 ^ n := by
  unfold V pm pe
  rw [if_neg (by omega), if_neg (by omega), show (fx b - 1075 + 1074).toNat = n by omega]
theorem tn_V (b : Int) : pm b * 2 ^ (pe b).toNat * 2 ^ 1074 = V b * 2 ^ (-pe b).toNat := by
  have h := pe_range b
  unfold V
  rw [Int.mul_assoc, Int.mul_assoc, ← Int.pow_add, ← Int.pow_add]
  congr 2
  omega
end Go.Proofs.Ytjocbnjpjihpnaa.M
end
section
namespace Go.Proofs.Ytjocbnjpjihpnaa.M
open Go.RowKit Go.Proofs.YtjocbnjpjihpnaaW.PrintWords Go.Proofs.YtjocbnjpjihpnaaW.PrintLast Go.Proofs.YtjocbnjpjihpnaaW.PrintMore
set_option linter.unusedVariables false

theorem V_word {w u b : Int} (h : b = (u + 1074) * 4503599627370496 + w) (w0 : 0 ≤ w) (w1 : w ≤ 9007199254740992) (hu1 : -1074 ≤ u) (hu2 : u ≤ 971) (w2 : u = -1074 ∨ 4503599627370496 ≤ w) (hb : b < INF) :
    fx b ≠ 2047 ∧ fs b = false ∧ V b = w * 2 ^ (u + 1074).toNat ∧ U b := by
  unfold INF at hb
  have hs : fs b = false := by unfold fs; exact decide_eq_false (by omega)
  refine ⟨by unfold fx; omega, hs, ?_, by unfold U; omega⟩
  rcases Int.lt_or_le w 4503599627370496 with k | k
  · obtain rfl : u = -1074 := by omega
    rw [V_low (by unfold fx; omega)]
    show fr b = w * 2 ^ 0
    rw [Int.pow_zero, Int.mul_one]
    unfold fr
    omega
  · rcases Int.lt_or_le w 9007199254740992 with k2 | k2
    · rw [V_high (n := (u + 1074).toNat) (by unfold fx; omega)]
      congr 1
      unfold fr
      omega
    · obtain rfl : w = 9007199254740992 := by omega
      rw [V_high (n := (u + 1074).toNat + 1) (by unfold fx; omega), Int.pow_succ, show fr b = 0 by unfold fr; omega]
      generalize (2 : Int) ^ (u + 1074).toNat = p
      omega
end Go.Proofs.Ytjocbnjpjihpnaa.M
end
section
namespace Go.Proofs.Ytjocbnjpjihpnaa.M
open Go.RowKit Go.Proofs.Ytjocbnjpjihpnaa.P Go.Proofs.YtjocbnjpjihpnaaW.PrintWords Go.Proofs.YtjocbnjpjihpnaaW.PrintLast Go.Proofs.YtjocbnjpjihpnaaW.PrintMore
set_option linter.unusedVariables false

theorem shn_nat {n : Int} (h : n ≤ 65536) : shn n = n.toNat := by
  rcases Int.lt_or_le n 0 with h0 | h0
  · unfold shn mn mx
    split <;> split <;> omega
  · exact shn_of h0 h
end Go.Proofs.Ytjocbnjpjihpnaa.M
end
section
namespace Go.Proofs.Ytjocbnjpjihpnaa.M
open Go.RowKit Go.Proofs.Ytjocbnjpjihpnaa.P Go.Proofs.YtjocbnjpjihpnaaW.PrintWords Go.Proofs.YtjocbnjpjihpnaaW.PrintLast Go.Proofs.YtjocbnjpjihpnaaW.PrintMore
set_option linter.unusedVariables false

/-- Units of the least double. -/
def LL : Int := 2 ^ 1074
theorem LL_pos : 0 < LL := pow_pos 1074
theorem bl_LL : bl LL ≤ 1075 := bl_le_of (n := 1075) (by have := pow_pos 1074; unfold LL; rw [Int.pow_succ]; omega)
theorem bl_V (b : Int) : bl (V b) ≤ 2200 := by
  have h := pm_range b
  have h2 := pe_range b
  have b1 : bl (pm b) ≤ 53 := bl_le_of (n := 53) (by omega)
  unfold V
  rcases (show pm b = 0 ∨ 0 < pm b by omega) with h0 | h0
  · rw [h0, Int.zero_mul, bl_zero]; omega
  · rw [bl_shl h0]; omega
theorem ab_SV (b : Int) : ab (SV b) = V b := by
  have := V_nonneg b
  unfold ab SV sgI
  cases fs b
  · simp only [Bool.false_eq_true, if_false]; rw [if_neg (by omega)]
  · simp only [if_true]; split <;> omega
theorem fit_V (b : Int) : Fit (SV b) LL := by
  have := bl_V b
  have := bl_LL
  exact ⟨LL_pos, by rw [ab_SV]; omega, by omega⟩
theorem ref10_ToRat_c {b : Int} (h : U b) : Ev (fun k => gradineref10_ToRat.f k b) (Rq (SV b) LL) := by
  have p1 := pm_range b
  have p2 := pe_range b
  have p3 : -1074 ≤ pe b ∧ pe b ≤ 972 := ⟨p2.1, p2.2.1⟩
  clear p2
  refine Ev.bindc (ref09_Parts_c h) (Ev.bindc (ref09_Neg_c h) ?_)
  dsimp only
  rw [w64_id (n := -pe b) (by omega) (by omega)]
  have S1 := ref02_Shl_c (a := [pm b]) ⟨Ws_one (by unfold U; omega), by simp⟩ (by simp) (pe b)
  have S2 := ref02_Shl_c (a := [1]) ⟨Ws_one (by unfold U; omega), by decide⟩ (by decide) (-pe b)
  rw [nv_one, shn_nat (by omega)] at S1 S2
  rw [Int.one_mul] at S2
  refine Ev.bind S1 (Ev.bind S2 ?_)
  have b1 : bl (pm b) ≤ 53 := bl_le_of (n := 53) (by omega)
  have hp := pow_pos (pe b).toNat
  have hq := pow_pos (-pe b).toNat
  have bn : bl (pm b * 2 ^ (pe b).toNat) ≤ 2000 := by
    rcases (show pm b = 0 ∨ 0 < pm b by omega) with h0 | h0
    · rw [h0, Int.zero_mul, bl_zero]; omega
    · rw [bl_shl h0]; omega
  have bd : bl ((2 : Int) ^ (-pe b).toNat) ≤ 2000 := by
    have : bl ((2 : Int) ^ (-pe b).toNat) ≤ (((-pe b).toNat + 1 : Nat) : Int) := bl_le_of (by rw [Int.pow_succ]; omega)
    omega
  refine Ev.bind (make_dg (fs b) (Int.mul_nonneg p1.1 (by omega)) hq (by omega) (by omega)) (Ev.same ?_)
  have e : Rq (sgI (fs b) (pm b * 2 ^ (pe b).toNat)) (2 ^ (-pe b).toNat) = Rq (SV b) LL := by
    refine Rq_eq hq LL_pos ?_
    have t := tn_V b
    unfold SV sgI LL
    cases fs b
    · simp only [Bool.false_eq_true, if_false]; exact t
    · simp only [if_true]; rw [Int.neg_mul, Int.neg_mul, t]
  rw [e]
end Go.Proofs.Ytjocbnjpjihpnaa.M
end
section
namespace Go.Proofs.Ytjocbnjpjihpnaa.M
open Go.RowKit Go.Proofs.YtjocbnjpjihpnaaW.PrintWords Go.Proofs.YtjocbnjpjihpnaaW.PrintLast Go.Proofs.YtjocbnjpjihpnaaW.PrintMore
set_option linter.unusedVariables false

theorem ab_mul_pos {x p : Int} (h : 0 < p) : ab (p * x) = p * ab x := by rw [Int.mul_comm p x, ab_mul x h, Int.mul_comm]
theorem LL_eq : LL = 2 ^ (1074 : Nat) := rfl
theorem two_pows {a b c d : Nat} {x : Int} (hx : x = 2 ^ b) (h : a + b = c + d) : (2 : Int) ^ a * x = 2 ^ c * 2 ^ d := by
  subst hx
  rw [← Int.pow_add, ← Int.pow_add, h]
/-- A fraction's rounding, laid open: the unit, the rounded number, and what is nearest. -/
theorem fq_open {N D : Int} (hN : 0 < N) (hD : 0 < D) (h0 : -1200 ≤ bl N - bl D) (h1 : bl N - bl D ≤ 1200) (hw : fq N D < INF) :
    ∃ u r : Int, -1074 ≤ u ∧ u ≤ 971 ∧ 0 ≤ r ∧ r ≤ 9007199254740992 ∧ (u = -1074 ∨ 4503599627370496 * 2 ^ (u + 1074).toNat * D ≤ N * LL) ∧ fq N D = (u + 1074) * 4503599627370496 + r ∧ (u = -1074 ∨ 4503599627370496 ≤ r) ∧
      ∀ m : Int, ab (N * LL - r * 2 ^ (u + 1074).toNat * D) ≤ ab (N * LL - m * 2 ^ (u + 1074).toNat * D) ∧ (ab (N * LL - r * 2 ^ (u + 1074).toNat * D) = ab (N * LL - m * 2 ^ (u + 1074).toNat * D) → m = r ∨ r % 2 = 0) := by
  rw [fq_far hN hD h0 h1] at hw ⊢
  have q := quot_big (up := (max (70 - (bl N - bl D)) 0).toNat) (g := 60) hN hD (by omega)
  have he : -(max (70 - (bl N - bl D)) 0) - 1 = -((max (70 - (bl N - bl D)) 0).toNat : Int) - 1 := by omega
  rw [he] at hw ⊢
  generalize (max (70 - (bl N - bl D)) 0).toNat = up at *
  have qg := (qv_ge (N * 2 ^ up) D).1
  have k60 : (2 : Int) ^ 60 = 1152921504606846976 := rfl
  have hQ : 2 ^ 60 ≤ qv (N * 2 ^ up) D := by omega
  have hb := bl_ge' hQ
  have hp : 0 < qv (N * 2 ^ up) D := by omega
  generalize hQd : qv (N * 2 ^ up) D = Q at *
  have hun : un Q (-(up : Int) - 1) ≤ 971 := by
    rcases Int.lt_or_le 971 (un Q (-(up : Int) - 1)) with k | k
    · unfold Rd at hw
      rw [if_neg (by omega), if_pos k] at hw
      omega
    · exact k
  have hR : Rd Q (-(up : Int) - 1) = (un Q (-(up : Int) - 1) + 1074) * 4503599627370496 + ru Q (-(up : Int) - 1) (un Q (-(up : Int) - 1)) := by
    unfold Rd; rw [if_neg (by omega), if_neg (by omega)]
  have U3 := ru_units (m := Q) (e := -(up : Int) - 1) hp
  have U4 := un_q (m := Q) (e := -(up : Int) - 1) hp
  have u1 := un_ge Q (-(up : Int) - 1)
  have ud : un Q (-(up : Int) - 1) ≥ -(up : Int) - 1 + 2 := by unfold un; omega
  rw [hR]
  unfold ru at *
  generalize un Q (-(up : Int) - 1) = u at *
  rw [show (-(up : Int) - 1 - u).toNat = 0 by omega, Int.pow_zero, Int.mul_one] at *
  generalize hd : (u - (-(up : Int) - 1)).toNat = d at *
  have hd2 : 2 ≤ d := by omega
  have hpw : (2 : Int) ^ d * LL = 2 ^ (up + 1) * 2 ^ (u + 1074).toNat := by
    have hd' : d + 1074 = up + 1 + (u + 1074).toNat := by omega
    exact two_pows (a := d) (b := 1074) (c := up + 1) (d := (u + 1074).toNat) (x := LL) LL_eq hd'
  have P0 := pow_pos (up + 1)
  have key : ∀ m : Int, LL * (2 * (N * 2 ^ up) - m * 2 ^ d * D) = 2 ^ (up + 1) * (N * LL - m * 2 ^ (u + 1074).toNat * D) := fun m => by
    have a1 : LL * (2 * (N * 2 ^ up)) = 2 ^ (up + 1) * (N * LL) := by
      rw [Int.pow_succ]
      generalize LL = L
      ac_rfl
    have a2 : LL * (m * 2 ^ d * D) = 2 ^ (up + 1) * (m * 2 ^ (u + 1074).toNat * D) := by
      have : LL * (m * 2 ^ d * D) = 2 ^ d * LL * (m * D) := by generalize LL = L; ac_rfl
      rw [this, hpw]
      ac_rfl
    rw [Int.mul_sub, Int.mul_sub, a1, a2]
  have kab : ∀ m : Int, LL * ab (2 * (N * 2 ^ up) - m * 2 ^ d * D) = 2 ^ (up + 1) * ab (N * LL - m * 2 ^ (u + 1074).toNat * D) := fun m => by
    rw [← ab_mul_pos LL_pos, ← ab_mul_pos P0, key]
  refine ⟨u, rnd Q d, by omega, hun, U3.1, U3.2.1, ?_, rfl, U3.2.2, fun m => ?_⟩
  · rcases U4.2.2 with k | k
    · exact .inl k
    · refine .inr ?_
      have hge : 4503599627370496 * 2 ^ d ≤ Q := (Int.le_ediv_iff_mul_le (pow_pos d)).1 k
      obtain ⟨j, rfl⟩ : ∃ j : Nat, d = j + 1 := ⟨d - 1, by omega⟩
      have ev := (qv_even (N := N * 2 ^ up) (h := 4503599627370496 * 2 ^ j) hD).1
      rw [hQd] at ev
      have e2 : 2 * (4503599627370496 * (2 : Int) ^ j) = 4503599627370496 * 2 ^ (j + 1) := by rw [Int.pow_succ]; ac_rfl
      rw [e2] at ev
      have : ¬ 2 * (N * 2 ^ up) < 4503599627370496 * 2 ^ (j + 1) * D := fun z => by have := ev.2 z; omega
      have K := key 4503599627370496
      have L1 : 0 ≤ LL * (2 * (N * 2 ^ up) - 4503599627370496 * 2 ^ (j + 1) * D) := Int.mul_nonneg (Int.le_of_lt LL_pos) (by omega)
      rw [K] at L1
      have := Int.nonneg_of_mul_nonneg_right L1 P0
      omega
  · have R := rnd_nearest (N := N * 2 ^ up) (D := D) (d := d) hD hd2 m
    rw [hQd] at R
    constructor
    · have := Int.mul_le_mul_of_nonneg_left R.1 (Int.le_of_lt LL_pos)
      rw [kab, kab] at this
      exact Int.le_of_mul_le_mul_left this P0
    · intro e
      refine R.2 ?_
      have this : (2 : Int) ^ (up + 1) * ab (N * LL - rnd Q d * 2 ^ (u + 1074).toNat * D) = 2 ^ (up + 1) * ab (N * LL - m * 2 ^ (u + 1074).toNat * D) := by rw [e]
      rw [← kab, ← kab] at this
      exact Int.eq_of_mul_eq_mul_left (by have := LL_pos; omega) this
theorem sgI_mulr (s : Bool) (x y : Int) : sgI s (x * y) = sgI s x * y := by unfold sgI; cases s <;> simp [Int.neg_mul]
/-- No finite double is nearer; of two that are as near it is the even one. -/
theorem fq_near {N D z : Int} (hN : 0 < N) (hD : 0 < D) (h0 : -1200 ≤ bl N - bl D) (h1 : bl N - bl D ≤ 1200) (hw : fq N D < INF) :
    fx (fq N D) ≠ 2047 ∧ fs (fq N D) = false ∧ U (fq N D) ∧ ab (N * LL - V (fq N D) * D) ≤ ab (N * LL - SV z * D) ∧ (ab (N * LL - V (fq N D) * D) = ab (N * LL - SV z * D) → SV z = V (fq N D) ∨ fq N D % 2 = 0) := by
  obtain ⟨u, r, c1, c2, c3, c4, c5, c6, c7, c8⟩ := fq_open hN hD h0 h1 hw
  obtain ⟨v1, v2, v3, v4⟩ := V_word c6 c3 c4 c1 c2 c7 hw
  refine ⟨v1, v2, v4, ?_⟩
  rw [v3]
  have ev : r % 2 = 0 → fq N D % 2 = 0 := fun h => by omega
  have zr := pm_range z
  have ze := pe_range z
  have G0 := pow_pos (u + 1074).toNat
  rcases Int.lt_or_le (pe z) u with k | k
  · have hu : ¬ u = -1074 := by omega
    have B := c5.resolve_left hu
    have hV : SV z < 4503599627370496 * 2 ^ (u + 1074).toNat := by
      have e1 : V z < 4503599627370496 * 2 ^ (u + 1074).toNat := by
        unfold V
        obtain ⟨n, hn⟩ : ∃ n : Nat, (u + 1074).toNat = n + 1 := ⟨(u + 1074).toNat - 1, by omega⟩
        have p1 := pow_le_pow (a := (pe z + 1074).toNat) (b := n) (by omega)
        have p0 := pow_pos (pe z + 1074).toNat
        have p2 : pm z * 2 ^ (pe z + 1074).toNat ≤ 9007199254740991 * 2 ^ (pe z + 1074).toNat := Int.mul_le_mul_of_nonneg_right (by omega) (by omega)
        rw [hn, Int.pow_succ]
        omega
      have e2 := V_nonneg z
      unfold SV sgI
      split <;> omega
    have S := Int.mul_lt_mul_of_pos_right hV hD
    have c := (c8 4503599627370496).1
    have : ab (N * LL - 4503599627370496 * 2 ^ (u + 1074).toNat * D) < ab (N * LL - SV z * D) := by unfold ab; split <;> split <;> omega
    exact ⟨by omega, fun e => by omega⟩
  · have hm : SV z = sgI (fs z) (pm z * 2 ^ (pe z - u).toNat) * 2 ^ (u + 1074).toNat := by
      unfold SV V
      rw [← sgI_mulr, Int.mul_assoc, ← Int.pow_add, show (pe z - u).toNat + (u + 1074).toNat = (pe z + 1074).toNat by omega]
    have c := c8 (sgI (fs z) (pm z * 2 ^ (pe z - u).toNat))
    rw [hm]
    refine ⟨c.1, fun e => ?_⟩
    rcases c.2 e with q | q
    · exact .inl (by rw [q])
    · exact .inr (ev q)
end Go.Proofs.Ytjocbnjpjihpnaa.M
end
section
namespace Go.Proofs.Ytjocbnjpjihpnaa.M
open Go.RowKit Go.Proofs.YtjocbnjpjihpnaaW.PrintWords Go.Proofs.YtjocbnjpjihpnaaW.PrintLast Go.Proofs.YtjocbnjpjihpnaaW.PrintMore
set_option linter.unusedVariables false

/-- A rounded number that reaches an even number's upper half came from no less. -/
theorem rnd_reach {Q k : Int} {d : Nat} (hd : 1 ≤ d) (h : k ≤ rnd Q d) : 2 * k * 2 ^ d ≤ 2 * Q + 2 ^ d := by
  have r := rnd_near Q d
  have p := pow_pos d
  have := Int.mul_le_mul_of_nonneg_right h (show (0 : Int) ≤ 2 ^ d by omega)
  rw [Int.mul_assoc]
  omega
/-- What a quotient's bound says of the fraction. -/
theorem qv_bound {N D c : Int} {up s : Nat} (hD : 0 < D) (h : c * 2 ^ (up + s + 1) ≤ qv (N * 2 ^ up) D) : c * 2 ^ s * D ≤ N := by
  have ev := (qv_even (N := N * 2 ^ up) (h := c * 2 ^ (up + s)) hD).1
  have e : 2 * (c * (2 : Int) ^ (up + s)) = c * 2 ^ (up + s + 1) := by rw [Int.pow_succ]; ac_rfl
  rw [e] at ev
  have h1 : ¬ 2 * (N * 2 ^ up) < c * 2 ^ (up + s + 1) * D := fun z => by have := ev.2 z; omega
  have p := pow_pos up
  have e2 : c * (2 : Int) ^ (up + s + 1) * D = 2 * (c * 2 ^ s * D * 2 ^ up) := by rw [Int.pow_succ, Int.pow_add]; ac_rfl
  rw [e2] at h1
  exact Int.le_of_mul_le_mul_right (show c * 2 ^ s * D * 2 ^ up ≤ N * 2 ^ up by omega) p
theorem fq_over {N D : Int} (hN : 0 < N) (hD : 0 < D) (h0 : -1200 ≤ bl N - bl D) (h1 : bl N - bl D ≤ 1200) (hw : ¬ fq N D < INF) : 18014398509481983 * 2 ^ 970 * D ≤ N := by
  rw [fq_far hN hD h0 h1] at hw
  have q := quot_big (up := (max (70 - (bl N - bl D)) 0).toNat) (g := 60) hN hD (by omega)
  have he : -(max (70 - (bl N - bl D)) 0) - 1 = -((max (70 - (bl N - bl D)) 0).toNat : Int) - 1 := by omega
  rw [he] at hw
  generalize (max (70 - (bl N - bl D)) 0).toNat = up at *
  have qg := (qv_ge (N * 2 ^ up) D).1
  have k60 : (2 : Int) ^ 60 = 1152921504606846976 := rfl
  have hp : 0 < qv (N * 2 ^ up) D := by omega
  refine qv_bound (up := up) (s := 970) hD ?_
  generalize qv (N * 2 ^ up) D = Q at *
  have U3 := ru_units (m := Q) (e := -(up : Int) - 1) hp
  have u1 := un_ge Q (-(up : Int) - 1)
  have bb := bl_le hp
  have P := pow_pos (up + 970)
  rcases Int.lt_or_le 971 (un Q (-(up : Int) - 1)) with k | k
  · have hb : bl Q ≥ 1026 + up := by unfold un at k; omega
    have k2 := pow_le_pow (a := 54 + (up + 970 + 1)) (b := (bl Q - 1).toNat) (by omega)
    rw [Int.pow_add] at k2
    have e54 : (2 : Int) ^ 54 = 18014398509481984 := rfl
    have P1 := pow_pos (up + 970 + 1)
    rw [e54] at k2
    generalize (2 : Int) ^ (up + 970 + 1) = X at *
    omega
  · unfold Rd at hw
    rw [if_neg (by omega), if_neg (by omega)] at hw
    unfold INF at hw
    have hu : un Q (-(up : Int) - 1) = 971 := by omega
    rw [hu] at hw U3
    unfold ru at hw U3
    rw [show (-(up : Int) - 1 - 971).toNat = 0 by omega, Int.pow_zero, Int.mul_one, show (971 - (-(up : Int) - 1)).toNat = up + 970 + 1 + 1 by omega] at hw U3
    have R := rnd_reach (Q := Q) (k := 9007199254740992) (d := up + 970 + 1 + 1) (by omega) (by omega)
    rw [Int.pow_succ] at R
    generalize (2 : Int) ^ (up + 970 + 1) = X at *
    omega
/-- The same for fractions of any size. -/
theorem near_all {N D z : Int} (hN : 0 < N) (hD : 0 < D) (hw : fq N D < INF) :
    fx (fq N D) ≠ 2047 ∧ fs (fq N D) = false ∧ U (fq N D) ∧ ab (N * LL - V (fq N D) * D) ≤ ab (N * LL - SV z * D) ∧ (ab (N * LL - V (fq N D) * D) = ab (N * LL - SV z * D) → SV z = V (fq N D) ∨ fq N D % 2 = 0) := by
  by_cases h0 : bl N - bl D < -1200
  · have e : fq N D = 0 := by unfold fq; rw [if_pos h0]
    rw [e]
    refine ⟨by decide, by decide, by unfold U; omega, ?_⟩
    have v0 : V 0 = 0 := by rw [V_low (by decide)]; decide
    rw [v0, Int.zero_mul, Int.sub_zero]
    have hx : 0 ≤ N * LL := Int.mul_nonneg (by omega) (Int.le_of_lt LL_pos)
    have hs : 2 * (N * LL) < D := by
      have b1 := bl_lt N
      have b2 := bl_le hD
      have k := pow_le_pow (a := (bl N).toNat + 1075) (b := (bl D - 1).toNat) (by have := bl_nonneg N; omega)
      rw [Int.pow_add, Int.pow_succ 2 1074, ← LL_eq] at k
      have := Int.mul_lt_mul_of_pos_right b1 LL_pos
      have e3 : (2 : Int) ^ (bl N).toNat * (LL * 2) = 2 * (2 ^ (bl N).toNat * LL) := by generalize LL = L; ac_rfl
      rw [e3] at k
      omega
    have hab : ab (N * LL) = N * LL := by unfold ab; rw [if_neg (by omega)]
    rw [hab]
    by_cases c : SV z = 0
    · rw [c, Int.zero_mul, Int.sub_zero, hab]
      exact ⟨Int.le_refl _, fun _ => .inl rfl⟩
    · have : N * LL < ab (N * LL - SV z * D) := by
        rcases (show SV z ≤ -1 ∨ 1 ≤ SV z by omega) with k | k
        · have := Int.mul_le_mul_of_nonneg_right k (show 0 ≤ D by omega)
          unfold ab; split <;> omega
        · have := Int.mul_le_mul_of_nonneg_right k (show 0 ≤ D by omega)
          unfold ab; split <;> omega
      exact ⟨by omega, fun q => by omega⟩
  · by_cases h1 : bl N - bl D ≤ 1200
    · exact fq_near hN hD (by omega) h1 hw
    · have e : fq N D = INF := by unfold fq; rw [if_neg h0, if_pos (by omega)]
      omega
theorem over_all {N D : Int} (hN : 0 < N) (hD : 0 < D) (hw : ¬ fq N D < INF) : 18014398509481983 * 2 ^ 970 * D ≤ N := by
  by_cases h0 : bl N - bl D < -1200
  · have e : fq N D = 0 := by unfold fq; rw [if_pos h0]
    rw [e] at hw
    exact absurd (by unfold INF; omega) hw
  · by_cases h1 : bl N - bl D ≤ 1200
    · exact fq_over hN hD (by omega) h1 hw
    · have b1 := bl_lt D
      have b2 := bl_le hN
      have b3 := bl_pos hD
      have k := pow_le_pow (a := (bl D).toNat + (54 + 970)) (b := (bl N - 1).toNat) (by omega)
      have P := pow_pos 970
      rw [Int.pow_add, Int.pow_add] at k
      have e54 : (2 : Int) ^ 54 = 18014398509481984 := rfl
      rw [e54] at k
      have m1 : 18014398509481983 * 2 ^ 970 * D ≤ 18014398509481984 * 2 ^ 970 * D := Int.mul_le_mul_of_nonneg_right (by omega) (by omega)
      have m2 : 18014398509481984 * 2 ^ 970 * D ≤ 18014398509481984 * 2 ^ 970 * 2 ^ (bl D).toNat := Int.mul_le_mul_of_nonneg_left (by omega) (by omega)
      rw [Int.mul_comm (18014398509481984 * 2 ^ 970) (2 ^ (bl D).toNat)] at m2
      omega
end Go.Proofs.Ytjocbnjpjihpnaa.M
end
section
namespace Go.Proofs.Ytjocbnjpjihpnaa.M
open Go.RowKit Go.Proofs.Ytjocbnjpjihpnaa.P Go.Proofs.YtjocbnjpjihpnaaW.PrintWords Go.Proofs.YtjocbnjpjihpnaaW.PrintLast Go.Proofs.YtjocbnjpjihpnaaW.PrintMore
set_option linter.unusedVariables false

theorem qv_more {N D e : Int} (hq : 0 < N / D) : (if decide (((dg (N % D)).length : Int) > 0) = true then Rd (2 * (N / D) + 1) (e - 1) else Rd (N / D) e) = Rd (qv N D) (e - 1) ∨ N % D < 0 := by
  rcases Int.lt_or_le (N % D) 0 with h | h
  · exact .inr h
  · left
    unfold qv
    by_cases hz : N % D = 0
    · rw [hz, dg_zero, if_neg (by decide), if_pos rfl, ← Rd_scale hq e 1, Int.pow_one, Int.mul_comm]
      rfl
    · have : (dg (N % D)).length ≠ 0 := fun k => hz ((dg_len_zero h).1 (by omega))
      rw [if_pos (decide_eq_true (by omega)), if_neg hz]
/-- The double of a right number. -/
def fR (neg : Bool) (N D : Int) : Int := if N = 0 then 0 else sgn neg (fq N D)
theorem div_small {N D : Int} {up : Nat} (hN : 0 < N) (hD : 0 < D) {m : Int} (hm : bl N + up ≤ m) : 0 ≤ N * 2 ^ up / D ∧ bl (N * 2 ^ up / D) ≤ m ∧ 0 ≤ N * 2 ^ up % D ∧ bl (N * 2 ^ up % D) ≤ m := by
  have hp := pow_pos up
  have h0 : 0 < N * 2 ^ up := Int.mul_pos hN hp
  have hb : bl (N * 2 ^ up) = bl N + up := bl_shl hN up
  have h1 : N * 2 ^ up / D ≤ N * 2 ^ up := Int.ediv_le_self _ (by omega)
  have h3 := Int.mul_ediv_add_emod (N * 2 ^ up) D
  have h4 := Int.mul_nonneg (show 0 ≤ D by omega) (Int.ediv_nonneg (show 0 ≤ N * 2 ^ up by omega) (show 0 ≤ D by omega))
  have h2 : N * 2 ^ up % D ≤ N * 2 ^ up := by omega
  exact ⟨Int.ediv_nonneg (by omega) (by omega), by have := bl_mono h1; omega, Int.emod_nonneg _ (by omega), by have := bl_mono h2; omega⟩
theorem fround_FromRat_c {a b : List Int} (neg : Bool) (ha : Wl a) (hb : Wl b) (hla : a.length ≤ 30) (hlb : b.length ≤ 30) (hB : 0 < nv b) : Ev (fun k => fround_FromRat.f k neg a b) (fR neg (nv a) (nv b)) := by
  have na := nv_nonneg ha.1
  have ba := bl_nv ha.1
  have bb := bl_nv hb.1
  have pb := bl_pos hB
  have b0 := bl_nonneg (nv a)
  refine Ev.bind (nat_Bits_c ha) (Ev.bind (nat_Bits_c hb) (Ev.bind (rat_Sign_c neg ha) ?_))
  have SG := rat_Sign_c (b := b) neg ha
  rw [w64_id (n := bl (nv a) - bl (nv b)) (by omega) (by omega)]
  unfold fR
  by_cases hz : nv a = 0
  · rw [if_pos hz]
    rw [if_pos hz] at SG ⊢
    refine Ev.ifp rfl (Ev.eqv (fun k => fround_FromRat.j0.eq_1 ..) (Ev.ifp rfl ?_))
    cases neg
    · exact Ev.ifn (by decide) (Ev.bind (fround_made_zero false) (Ev.same rfl))
    · exact Ev.ifp rfl (Ev.bind SG (Ev.bind (fround_made_zero _) (Ev.same rfl)))
  · have hN : 0 < nv a := by omega
    rw [if_neg hz] at SG ⊢
    have hs : (if neg = true then (-1 : Int) else 1) ≠ 0 := by cases neg <;> decide
    rw [if_neg hz]
    refine Ev.ifn hs (Ev.eqv (fun k => fround_FromRat.j0.eq_1 ..) ?_)
    by_cases h1 : bl (nv a) - bl (nv b) < -1200
    · refine Ev.ifp (decide_eq_true h1) ?_
      have e : fq (nv a) (nv b) = 0 := by unfold fq; rw [if_pos h1]
      rw [e]
      cases neg
      · exact Ev.ifn (by decide) (Ev.bind (fround_made_zero false) (Ev.same rfl))
      · exact Ev.ifp rfl (Ev.bind SG (Ev.bind (fround_made_zero _) (Ev.same rfl)))
    · refine Ev.ifn (by simp; omega) ?_
      by_cases h2 : bl (nv a) - bl (nv b) > 1200
      · refine Ev.ifp h2 (Ev.bindc (fbits_Inf_c neg) (Ev.same ?_))
        unfold fq
        rw [if_neg (by omega), if_pos (by omega)]
      · refine Ev.ifn h2 ?_
        rw [fq_far hN hB (by omega) (by omega)]
        have eM : mx (wrap64 (70 - (bl (nv a) - bl (nv b)))) 0 = max (70 - (bl (nv a) - bl (nv b))) 0 := by
          rw [w64_id (by omega) (by omega)]; unfold mx; split <;> omega
        rw [eM]
        have S := nat_Shl_c ha (by omega) (max (70 - (bl (nv a) - bl (nv b))) 0)
        rw [shn_of (by omega) (by omega)] at S
        refine Ev.bind S ?_
        obtain ⟨up, hup⟩ : ∃ up : Nat, max (70 - (bl (nv a) - bl (nv b))) 0 = (up : Int) := ⟨(max (70 - (bl (nv a) - bl (nv b))) 0).toNat, by omega⟩
        have q := quot_big (up := up) (g := 1) hN hB (by omega)
        rw [hup, Int.toNat_natCast]
        have ds := div_small (up := up) hN hB (m := 4000) (by omega)
        have hp0 : 0 < nv a * 2 ^ up := Int.mul_pos hN (pow_pos up)
        have bs : bl (nv a * 2 ^ up) = bl (nv a) + up := bl_shl hN up
        have ls := dg_len_bl (nv a * 2 ^ up)
        have D := quot_Div_c (a := dg (nv a * 2 ^ up)) (b := b) (Wl_dg (by omega)) hb (by omega)
        rw [if_neg (by omega), nv_dg (by omega)] at D
        refine Ev.bind D ?_
        dsimp only
        have lq := dg_len_bl (nv a * 2 ^ up / nv b)
        have F := fround_Of_c neg (l := dg (nv a * 2 ^ up / nv b)) (Wl_dg (by omega)) (by omega) (wrap64 (-(up : Int))) (decide (((dg (nv a * 2 ^ up % nv b)).length : Int) > 0))
        rw [nv_dg ds.1, w64_id (by omega) (by omega), ce_id (by omega) (by omega)] at F
        have k := qv_more (N := nv a * 2 ^ up) (D := nv b) (e := -(up : Int)) (by omega)
        rw [k.resolve_right (by omega)] at F
        rw [w64_id (by omega) (by omega)]
        exact Ev.bind F (Ev.same rfl)
end Go.Proofs.Ytjocbnjpjihpnaa.M
end
section
namespace Go.Proofs.Ytjocbnjpjihpnaa.M
open Go.RowKit Go.Proofs.YtjocbnjpjihpnaaW.PrintWords Go.Proofs.YtjocbnjpjihpnaaW.PrintLast Go.Proofs.YtjocbnjpjihpnaaW.PrintMore
set_option linter.unusedVariables false

theorem sgn_fields (neg : Bool) {w : Int} (h0 : 0 ≤ w) (h1 : w < 9223372036854775808) : fx (sgn neg w) = fx w ∧ fr (sgn neg w) = fr w ∧ fs (sgn neg w) = neg ∧ U (sgn neg w) := by
  unfold fx fr fs sgn U
  cases neg
  · refine ⟨rfl, rfl, ?_, ?_⟩
    · simp; omega
    · simp; omega
  · refine ⟨?_, ?_, ?_, ?_⟩
    · simp; omega
    · simp; omega
    · simp; omega
    · simp; omega
theorem sgn_V (neg : Bool) {w : Int} (h0 : 0 ≤ w) (h1 : w < 9223372036854775808) : V (sgn neg w) = V w := by
  obtain ⟨e1, e2, _, _⟩ := sgn_fields neg h0 h1
  unfold V pm pe
  rw [e1, e2]
theorem sgn_SV (neg : Bool) {w : Int} (h0 : 0 ≤ w) (h1 : w < 9223372036854775808) : SV (sgn neg w) = sgI neg (V w) := by
  unfold SV
  rw [sgn_V neg h0 h1, (sgn_fields neg h0 h1).2.2.1]
/-- For each double there is its opposite. -/
theorem flip_SV (neg : Bool) {z : Int} (h : U z) : ∃ z' : Int, SV z' = sgI neg (SV z) := by
  cases neg
  · exact ⟨z, rfl⟩
  · unfold U at h
    refine ⟨if z < 9223372036854775808 then z + 9223372036854775808 else z - 9223372036854775808, ?_⟩
    have key : ∀ x y : Int, fx x = fx y → fr x = fr y → fs x = !(fs y) → SV x = sgI true (SV y) := fun x y e1 e2 e3 => by
      have : V x = V y := by unfold V pm pe; rw [e1, e2]
      unfold SV
      rw [this, e3]
      cases fs y <;> simp [sgI]
    refine key _ _ ?_ ?_ ?_
    · unfold fx; split <;> omega
    · unfold fr; split <;> omega
    · unfold fs
      split
      · rw [decide_eq_true (by omega), decide_eq_false (by omega)]; rfl
      · rw [decide_eq_false (by omega), decide_eq_true (by omega)]; rfl
theorem fq_range {N D : Int} : 0 ≤ fq N D ∧ fq N D ≤ INF := by
  unfold fq
  split
  · unfold INF; omega
  · split
    · unfold INF; omega
    · exact Rd_range _ _
theorem pow_2044 : (2 : Int) ^ 2045 = 2 * 2 ^ 2044 := by rw [Int.pow_succ, Int.mul_comm]
theorem LL_2044 : LL * 2 ^ 970 = 2 ^ 2044 := by rw [LL_eq, ← Int.pow_add]
end Go.Proofs.Ytjocbnjpjihpnaa.M
end
section
namespace Go.Proofs.Ytjocbnjpjihpnaa.M
open Go.RowKit Go.Proofs.Ytjocbnjpjihpnaa.P Go.Proofs.YtjocbnjpjihpnaaW.PrintWords Go.Proofs.YtjocbnjpjihpnaaW.PrintLast Go.Proofs.YtjocbnjpjihpnaaW.PrintMore
set_option linter.unusedVariables false

theorem law10_same_c : Ev (fun k => gradinelaw10_same.f k) true := by
  have h1 := fround_Word_c (m := 9007199254740993) (e := 0) false (by unfold U; omega)
  rw [show sgn false (Rd 9007199254740993 (ce 0)) = 4845873199050653696 by decide] at h1
  have h2 := fround_Word_c (m := 9007199254740995) (e := 0) false (by unfold U; omega)
  rw [show sgn false (Rd 9007199254740995 (ce 0)) = 4845873199050653698 by decide] at h2
  have h3 := fround_FromInt_c (n := -1) (by omega) (by omega)
  rw [show sgn (decide ((-1 : Int) < 0)) (Rd (if (-1 : Int) < 0 then - (-1) else -1) 0) = 13830554455654793216 by decide] at h3
  refine Ev.bind h1 (Ev.ifp rfl (Ev.bind h2 (Ev.ifp rfl (Ev.bind h3 (Ev.same rfl)))))
end Go.Proofs.Ytjocbnjpjihpnaa.M
end
