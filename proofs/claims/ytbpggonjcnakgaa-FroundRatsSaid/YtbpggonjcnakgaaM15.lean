/- Quotients rounded to doubles: whatever number of digits they are taken with. -/
import Derived.Test.YtbpggonjcnakgaaM9
import Derived.Test.YtbpggonjcnakgaaC02b
namespace Go.Proofs.Ytbpggonjcnakgaa.M
open Go.RowKit Go.Proofs.YtbpggonjcnakgaaW.PrintWords Go.Proofs.YtbpggonjcnakgaaW.PrintLast Go.Proofs.YtbpggonjcnakgaaW.PrintMore
set_option linter.unusedVariables false

/-- Twice the quotient, one more if something is left. -/
def qv (N D : Int) : Int := if N % D = 0 then 2 * (N / D) else 2 * (N / D) + 1
theorem qv_ge (N D : Int) : 2 * (N / D) ≤ qv N D ∧ qv N D ≤ 2 * (N / D) + 1 := by unfold qv; split <;> omega
theorem qv_step {N D c : Int} (hD : 0 < D) (hq : 9007199254740992 ≤ N / D) : Rd (qv N D) c = Rd (qv (N * 2) D) (c - 1) := by
  have hs : 0 < qv N D := by have := qv_ge N D; omega
  rw [← Rd_scale hs c 1, Int.pow_one, show c - ((1 : Nat) : Int) = c - 1 from rfl]
  have d1 := Int.mul_ediv_add_emod N D
  have d2 := Int.emod_nonneg N (show D ≠ 0 by omega)
  have d3 := Int.emod_lt_of_pos N hD
  have key : N * 2 / D = 2 * (N / D) + (N % D * 2) / D ∧ (N * 2) % D = (N % D * 2) % D := by
    have e : N * 2 = N % D * 2 + D * (2 * (N / D)) := by
      have : D * (2 * (N / D)) = 2 * (D * (N / D)) := by rw [← Int.mul_assoc, Int.mul_comm D 2, Int.mul_assoc]
      omega
    constructor
    · rw [e, Int.add_mul_ediv_left _ _ (by omega)]; omega
    · rw [e, Int.add_mul_emod_self_left]
  have r1 : (N % D * 2) / D = 0 ∧ (N % D * 2) % D = N % D * 2 ∨ (N % D * 2) / D = 1 ∧ (N % D * 2) % D = N % D * 2 - D ∧ N % D ≠ 0 := by
    rcases Int.lt_or_le (N % D * 2) D with h | h
    · exact .inl ⟨Int.ediv_eq_zero_of_lt (by omega) h, Int.emod_eq_of_lt (by omega) h⟩
    · have e2 : N % D * 2 = (N % D * 2 - D) + D * 1 := by omega
      refine .inr ⟨?_, ?_, by omega⟩
      · rw [e2, Int.add_mul_ediv_left _ _ (by omega), Int.ediv_eq_zero_of_lt (by omega) (by omega)]; rfl
      · rw [e2, Int.add_mul_emod_self_left, Int.emod_eq_of_lt (by omega) (by omega)]; omega
  have hX : 18014398509481984 ≤ qv N D := by have := qv_ge N D; omega
  have hY : 0 < qv (N * 2) D := by have := qv_ge (N * 2) D; rw [key.1] at this; rcases r1 with h | h <;> omega
  have c1 : qv N D * 2 / 2 ^ 2 = qv (N * 2) D / 2 ^ 2 ∧ (qv N D * 2 % 2 ^ 2 = 0 ↔ qv (N * 2) D % 2 ^ 2 = 0) := by
    unfold qv
    rw [key.1, key.2]
    rw [show ((2 : Int) ^ 2) = 4 from rfl]
    generalize N / D = q at *
    generalize N % D = r at *
    by_cases hr : r = 0
    · subst hr
      rcases r1 with ⟨k1, k2⟩ | ⟨k1, k2, k3⟩
      · rw [k1, k2, if_pos rfl, if_pos (by omega)]; omega
      · exact absurd rfl k3
    · rw [if_neg hr]
      rcases r1 with ⟨k1, k2⟩ | ⟨k1, k2, k3⟩
      · rw [k1, k2, if_neg (by omega)]; omega
      · rw [k1, k2]; split <;> omega
  refine Rd_cell (g := 2) (by omega) hY c1.1 c1.2 ?_
  have := bl_ge' (x := qv N D * 2) (n := 55) (by omega)
  unfold un
  omega
theorem qv_steps (j : Nat) : ∀ {N D c : Int}, 0 < D → 9007199254740992 ≤ N / D → Rd (qv N D) c = Rd (qv (N * 2 ^ j) D) (c - j) := by
  induction j with
  | zero => intro N D c hD hq; rw [Int.pow_zero, Int.mul_one, show c - ((0 : Nat) : Int) = c by omega]
  | succ j ih =>
    intro N D c hD hq
    have e : N * 2 ^ (j + 1) = N * 2 * 2 ^ j := by rw [Int.pow_succ, Int.mul_comm (2 ^ j), Int.mul_assoc]
    have d1 := Int.mul_ediv_add_emod N D
    have d2 := Int.emod_nonneg N (show D ≠ 0 by omega)
    have h2 : 9007199254740992 ≤ N * 2 / D := by
      have h3 : N / D * D ≤ N := by rw [Int.mul_comm]; omega
      have h4 : N / D ≤ N * 2 / D := (Int.le_ediv_iff_mul_le hD).2 (by
        have : 0 ≤ N / D * D := Int.mul_nonneg (by omega) (by omega)
        omega)
      omega
    rw [e, qv_step hD hq, ih hD h2]
    congr 1
    omega
/-- The double of a number: a quotient's, by its bits. -/
def fq (N D : Int) : Int :=
  if bl N - bl D < -1200 then 0 else if bl N - bl D > 1100 then INF
  else Rd (qv (N * 2 ^ (max 0 (64 - (bl N - bl D))).toNat) D) (-(max 0 (64 - (bl N - bl D))) - 1)
theorem pow_bl {N : Int} (h : 0 < N) : ∃ n : Nat, bl N = n + 1 ∧ 2 ^ n ≤ N ∧ N < 2 ^ (n + 1) := by
  have h1 := bl_pos h
  refine ⟨(bl N - 1).toNat, by omega, ?_, ?_⟩
  · exact bl_le h
  · have := bl_lt N
    have e : ((bl N - 1).toNat + 1) = (bl N).toNat := by omega
    rw [e]; exact this
/-- Enough digits of a quotient. -/
theorem quot_big {N D : Int} {up g : Nat} (hN : 0 < N) (hD : 0 < D) (h : bl D + g + 1 ≤ bl N + up) : 2 ^ g ≤ N * 2 ^ up / D := by
  obtain ⟨n, n1, n2, n3⟩ := pow_bl hN
  obtain ⟨d, d1, d2, d3⟩ := pow_bl hD
  refine (Int.le_ediv_iff_mul_le hD).2 ?_
  have k1 : (2 : Int) ^ g * D ≤ 2 ^ g * 2 ^ (d + 1) := Int.mul_le_mul_of_nonneg_left (by omega) (by have := pow_pos g; omega)
  have k2 : (2 : Int) ^ n * 2 ^ up ≤ N * 2 ^ up := Int.mul_le_mul_of_nonneg_right n2 (by have := pow_pos up; omega)
  rw [← Int.pow_add] at k1 k2
  have k3 := pow_le_pow (a := g + (d + 1)) (b := n + up) (by omega)
  omega
theorem fq_far {N D : Int} (hN : 0 < N) (hD : 0 < D) (h0 : -1200 ≤ bl N - bl D) (h1 : bl N - bl D ≤ 1200) :
    fq N D = Rd (qv (N * 2 ^ (max (70 - (bl N - bl D)) 0).toNat) D) (-(max (70 - (bl N - bl D)) 0) - 1) := by
  unfold fq
  rw [if_neg (by omega)]
  by_cases h : bl N - bl D > 1100
  · rw [if_pos h, show max (70 - (bl N - bl D)) 0 = 0 by omega, show (0 : Int).toNat = 0 from rfl, Int.pow_zero, Int.mul_one]
    have q := quot_big (up := 0) (g := 1099) hN hD (by omega)
    rw [Int.pow_zero, Int.mul_one] at q
    have k := (qv_ge N D).1
    have k2 : (2 : Int) ^ 1099 ≤ qv N D := by have := pow_pos 1099; omega
    have hb := bl_ge' k2
    have hp : 0 < qv N D := by have := pow_pos 1099; omega
    unfold Rd
    rw [if_neg (by omega), if_pos (by unfold un; omega)]
  · rw [if_neg h]
    have q := quot_big (up := (max 0 (64 - (bl N - bl D))).toNat) (g := 53) hN hD (by omega)
    generalize hu : (max 0 (64 - (bl N - bl D))).toNat = up at *
    rw [qv_steps ((max (70 - (bl N - bl D)) 0).toNat - up) hD q, Int.mul_assoc, ← Int.pow_add, show up + ((max (70 - (bl N - bl D)) 0).toNat - up) = (max (70 - (bl N - bl D)) 0).toNat by omega]
    congr 1
    omega
theorem tz_mod {x : Int} (h : 0 < x) (i : Nat) : x % 2 ^ i = 0 ↔ (i : Int) ≤ tz x := by
  obtain ⟨n, h1, h2, h3⟩ := tz_spec h
  have key : ∀ j : Nat, j ≤ n → x % 2 ^ j = 0 := by
    intro j
    induction j with
    | zero => intro _; rw [Int.pow_zero, Int.emod_one]
    | succ j ih =>
      intro hj
      rw [Int.pow_succ, mod_split x (pow_pos j), h3 j (by omega), ih (by omega)]
      simp
  rw [h1]
  constructor
  · intro k
    rcases Nat.lt_or_ge n i with hlt | hge
    · exfalso
      have e : (2 : Int) ^ i = 2 ^ n * (2 * 2 ^ (i - n - 1)) := by
        rw [← Int.pow_succ', ← Int.pow_add]; congr 1; omega
      rw [e] at k
      have h5 := mod_split x (D := 2 * 2 ^ (i - n - 1)) (pow_pos n)
      rw [k, key n (Nat.le_refl _)] at h5
      have h6 : x / 2 ^ n % (2 * 2 ^ (i - n - 1)) = 0 := by
        have hp := pow_pos n
        have : (2 : Int) ^ n * (x / 2 ^ n % (2 * 2 ^ (i - n - 1))) = 0 := by omega
        rcases Int.mul_eq_zero.1 this with h7 | h7 <;> omega
      have h7 := Int.emod_emod_of_dvd (x / 2 ^ n) (show (2 : Int) ∣ 2 * 2 ^ (i - n - 1) from ⟨_, rfl⟩)
      rw [h6] at h7
      omega
    · omega
  · intro k
    exact key i (by omega)
end Go.Proofs.Ytbpggonjcnakgaa.M
