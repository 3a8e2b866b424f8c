/- What the functions of limb, and of its reference, answer: sums, differences, products of words. -/
import Derived.Test.YtbpggonjcnakgaaM1
import Derived.Test.YtbpggonjcnakgaaBlimb
import Derived.Test.YtbpggonjcnakgaaBgradineref01
namespace Go.Proofs.Ytbpggonjcnakgaa.M
open Go.RowKit Go.Proofs.Ytbpggonjcnakgaa.P Go.Proofs.YtbpggonjcnakgaaW.PrintWords Go.Proofs.YtbpggonjcnakgaaW.PrintLast Go.Proofs.YtbpggonjcnakgaaW.PrintMore
set_option linter.unusedVariables false

theorem mul_bound {x y m n : Int} (hx0 : 0 ≤ x) (hx : x ≤ m) (hy0 : 0 ≤ y) (hy : y ≤ n) : 0 ≤ x * y ∧ x * y ≤ m * n :=
  ⟨Int.mul_nonneg hx0 hy0, Int.mul_le_mul hx hy hy0 (by omega)⟩
/-! ### How many bits -/
theorem len_base (k : Nat) (x n : Int) (h0 : 0 ≤ x) (h1 : x < 2) (hn0 : 0 ≤ n) (hn1 : n ≤ 63) : limb_Len.l0 (k + 1) x n 0 = some (n + bl x) := by
  simp only [limb_Len.l0]
  rw [if_neg (by omega), w64_id (n := x) (by omega) (by omega), w64_id (by omega) (by omega)]
  rcases (show x = 0 ∨ x = 1 by omega) with rfl | rfl
  · rfl
  · have : bl 1 = 1 := rfl
    rw [this]
theorem len_step (k s s' : Nat) (hs : 0 < s) (hs2 : s ≤ 32) (hs' : s' = s / 2)
    (H : ∀ x n : Int, 0 ≤ x → x < 2 ^ s → 0 ≤ n → n ≤ 64 - s → limb_Len.l0 k x n s' = some (n + bl x))
    (x n : Int) (h0 : 0 ≤ x) (h1 : x < 2 ^ (2 * s)) (hn0 : 0 ≤ n) (hn1 : n ≤ 64 - 2 * s) : limb_Len.l0 (k + 1) x n s = some (n + bl x) := by
  have hp := pow_pos s
  have hd : ((s : Nat) : Int) / 2 = ((s' : Nat) : Int) := by omega
  simp only [limb_Len.l0]
  rw [if_pos (by omega), if_pos (by omega), shr_u _ _ (by omega), Int.toNat_natCast, hd]
  by_cases hq : x / 2 ^ s > 0
  · have hle : 2 ^ s ≤ x := by
      rcases Int.lt_or_le x (2 ^ s) with h | h
      · rw [Int.ediv_eq_zero_of_lt h0 h] at hq; omega
      · exact h
    rw [if_pos hq, w64_id (by omega) (by omega), H _ _ (by omega) ?_ (by omega) (by omega), bl_shr hle]
    · congr 1; omega
    · rw [Int.ediv_lt_iff_lt_mul hp, ← Int.pow_add]
      rwa [show s + s = 2 * s by omega]
  · have hlt : x < 2 ^ s := by
      rcases Int.lt_or_le x (2 ^ s) with h | h
      · exact h
      · have : 1 ≤ x / 2 ^ s := by rw [Int.le_ediv_iff_mul_le hp]; omega
        omega
    rw [if_neg hq, H _ _ h0 hlt hn0 (by omega)]
theorem limb_Len_c {x : Int} (h : U x) : Ev (fun k => limb_Len.f k x) (bl x) := by
  refine ⟨7, fun k hk => ?_⟩
  obtain ⟨k, rfl⟩ : ∃ m, k = m + 1 + 1 + 1 + 1 + 1 + 1 + 1 := ⟨k - 7, by omega⟩
  have s0 : ∀ x n : Int, 0 ≤ x → x < 2 ^ 1 → 0 ≤ n → n ≤ 64 - ((1 : Nat) : Int) → limb_Len.l0 (k + 1) x n ((0 : Nat) : Int) = some (n + bl x) := fun x n a b c d => len_base k x n a (by omega) c (by omega)
  have s1 := len_step (k + 1) 1 0 (by omega) (by omega) rfl s0
  have s2 := len_step (k + 1 + 1) 2 1 (by omega) (by omega) rfl (fun x n a b c d => s1 x n a b c (by omega))
  have s3 := len_step (k + 1 + 1 + 1) 4 2 (by omega) (by omega) rfl (fun x n a b c d => s2 x n a b c (by omega))
  have s4 := len_step (k + 1 + 1 + 1 + 1) 8 4 (by omega) (by omega) rfl (fun x n a b c d => s3 x n a b c (by omega))
  have s5 := len_step (k + 1 + 1 + 1 + 1 + 1) 16 8 (by omega) (by omega) rfl (fun x n a b c d => s4 x n a b c (by omega))
  have s6 := len_step (k + 1 + 1 + 1 + 1 + 1 + 1) 32 16 (by omega) (by omega) rfl (fun x n a b c d => s5 x n a b c (by omega))
  have := s6 x 0 h.1 h.2 (by omega) (by omega)
  unfold limb_Len.f
  exact this.trans (by congr 1; omega)
theorem ref01_Len_l (m : Nat) : ∀ x n : Int, 0 ≤ x → x.toNat ≤ m → bl x ≤ 64 → 0 ≤ n → n + bl x ≤ 1000 → Ev (fun k => gradineref01_Len.l0 k x n) (n + bl x) := by
  induction m with
  | zero =>
    intro x n h0 h1 hb hn hn1
    obtain rfl : x = 0 := by omega
    refine Ev.step (fun k => gradineref01_Len.l0.eq_2 ..) ?_
    refine Ev.ifn (by omega) ?_
    exact Ev.same (by rw [bl_zero]; congr 1; omega)
  | succ m ih =>
    intro x n h0 h1 hb hn hn1
    refine Ev.step (fun k => gradineref01_Len.l0.eq_2 ..) ?_
    by_cases hx : x > 0
    · refine Ev.ifp hx ?_
      have e : bl x = bl (x / 2) + 1 ∨ (x = 1 ∧ bl x = 1) := by
        rcases (show x = 1 ∨ 2 ≤ x by omega) with h | h
        · exact .inr ⟨h, by rw [h]; rfl⟩
        · exact .inl (bl_shr (s := 1) (by omega))
      have e2 : bl x = bl (x / 2) + 1 := by
        rcases e with e | ⟨rfl, e⟩
        · exact e
        · rfl
      have hn2 := bl_nonneg (x / 2)
      rw [w64_id (by omega) (by omega)]
      refine (ih (x / 2) (n + 1) (by omega) (by omega) (by omega) (by omega) (by omega)).eqr (by omega)
    · refine Ev.ifn hx ?_
      obtain rfl : x = 0 := by omega
      exact Ev.same (by rw [bl_zero]; congr 1; omega)
theorem ref01_Len_c {x : Int} (h : U x) : Ev (fun k => gradineref01_Len.f k x) (bl x) := by
  have hb := bl_64 h.2
  have := ref01_Len_l x.toNat x 0 h.1 (Nat.le_refl _) hb (by omega) (by omega)
  exact this.eqr (by omega)

/-! ### Quotients -/
/-! ### The reference, bit by bit -/
theorem div_pow_range {b : Int} (hb : U b) (n : Nat) : 0 ≤ b / 2 ^ n ∧ b / 2 ^ n ≤ b := by
  have hp := pow_pos n
  exact ⟨Int.ediv_nonneg hb.1 (by omega), Int.ediv_le_self _ hb.1⟩
end Go.Proofs.Ytbpggonjcnakgaa.M
