/- Roots of doubles: whatever number of digits they are taken with. -/
import Derived.Test.YtbpggonjcnakgaaM9
import Derived.Test.YtbpggonjcnakgaaM4
namespace Go.Proofs.Ytbpggonjcnakgaa.M
open Go.RowKit Go.Proofs.YtbpggonjcnakgaaW.PrintWords Go.Proofs.YtbpggonjcnakgaaW.PrintLast Go.Proofs.YtbpggonjcnakgaaW.PrintMore
set_option linter.unusedVariables false

/-- Twice the root, one more if something is left. -/
def sv (X r : Int) : Int := if r * r = X then 2 * r else 2 * r + 1
theorem sq_step {X r r' c : Int} (h : IsRoot X r) (h' : IsRoot (X * 4) r') (hr : 9007199254740992 ≤ r) : Rd (sv X r) c = Rd (sv (X * 4) r') (c - 1) := by
  have hs : 0 < sv X r := by unfold sv; split <;> omega
  rw [← Rd_scale hs c 1, Int.pow_one, show c - ((1 : Nat) : Int) = c - 1 from rfl]
  obtain ⟨h0, h1, h2⟩ := h
  obtain ⟨g0, g1, g2⟩ := h'
  have e1 : (2 * r) * (2 * r) = r * r * 4 := by grind
  have e2 : (2 * (r + 1)) * (2 * (r + 1)) = (r + 1) * (r + 1) * 4 := by grind
  have k1 : 2 * r ≤ r' := by
    have := lt_of_sq (a := 2 * r) (b := r' + 1) (by omega) (by omega)
    omega
  have k2 : r' < 2 * (r + 1) := lt_of_sq (by omega) (by omega)
  by_cases hx : r * r = X
  · have : r' = 2 * r := by
      have := le_of_sq (a := r') (b := 2 * r) (by omega) (by omega)
      omega
    unfold sv
    rw [if_pos hx, if_pos (by rw [this]; omega), this]
    congr 1
    omega
  · have hx' : r' * r' ≠ X * 4 := by
      intro he
      rcases (show r' = 2 * r ∨ r' = 2 * r + 1 by omega) with rfl | rfl
      · omega
      · have : (2 * r + 1) * (2 * r + 1) = r * r * 4 + 4 * r + 1 := by grind
        omega
    unfold sv
    rw [if_neg hx, if_neg hx']
    refine Rd_cell (g := 2) (by omega) (by omega) (by omega) (by omega) ?_
    have := bl_ge' (x := (2 * r + 1) * 2) (n := 55) (by omega)
    unfold un
    omega
theorem sq_steps (j : Nat) : ∀ {X r r' c : Int}, IsRoot X r → IsRoot (X * 4 ^ j) r' → 9007199254740992 ≤ r → Rd (sv X r) c = Rd (sv (X * 4 ^ j) r') (c - j) := by
  induction j with
  | zero =>
    intro X r r' c h h' hr
    rw [Int.pow_zero, Int.mul_one] at h' ⊢
    rw [root_unique h h', show c - ((0 : Nat) : Int) = c by omega]
  | succ j ih =>
    intro X r r' c h h' hr
    have e : X * 4 ^ (j + 1) = X * 4 * 4 ^ j := by rw [Int.pow_succ, Int.mul_comm (4 ^ j), Int.mul_assoc]
    rw [e] at h' ⊢
    obtain ⟨h0, h1, h2⟩ := h
    have hX : 0 ≤ X := by
      have := Int.mul_nonneg h0 h0
      omega
    obtain ⟨s, hs⟩ := root_ex (A := X * 4) (by omega)
    have e1 : (2 * r) * (2 * r) = r * r * 4 := by grind
    have hs2 := hs.2.2
    have : 2 * r < s + 1 := lt_of_sq (by have := hs.1; omega) (by omega)
    rw [sq_step ⟨h0, h1, h2⟩ hs hr, ih hs h' (by omega)]
    congr 1
    omega
/-- w is the root of m times 2^e. -/
def IsSq (m e w : Int) : Prop := ∃ (up : Nat) (c r : Int), e - up = 2 * (c + 1) ∧ IsRoot (m * 2 ^ up) r ∧ 9007199254740992 ≤ r ∧ w = Rd (sv (m * 2 ^ up) r) c
theorem four_pow (j : Nat) : (4 : Int) ^ j = 2 ^ (2 * j) := by rw [Int.pow_mul]; rfl
theorem IsSq_le {m e : Int} {up up' : Nat} {c c' r r' : Int} (hle : up ≤ up') (h1 : e - up = 2 * (c + 1)) (h2 : IsRoot (m * 2 ^ up) r) (h3 : 9007199254740992 ≤ r) (k1 : e - up' = 2 * (c' + 1)) (k2 : IsRoot (m * 2 ^ up') r') :
    Rd (sv (m * 2 ^ up) r) c = Rd (sv (m * 2 ^ up') r') c' := by
  obtain ⟨j, hj⟩ : ∃ j, up' = up + 2 * j := ⟨(up' - up) / 2, by omega⟩
  subst hj
  have e1 : m * 2 ^ (up + 2 * j) = m * 2 ^ up * 4 ^ j := by rw [Int.pow_add, four_pow, Int.mul_assoc]
  rw [e1] at k2 ⊢
  rw [sq_steps j h2 k2 h3]
  congr 1
  omega
theorem IsSq_unique {m e w w' : Int} (h : IsSq m e w) (h' : IsSq m e w') : w = w' := by
  obtain ⟨up, c, r, h1, h2, h3, rfl⟩ := h
  obtain ⟨up', c', r', k1, k2, k3, rfl⟩ := h'
  rcases Nat.le_total up up' with hle | hle
  · exact IsSq_le hle h1 h2 h3 k1 k2
  · exact (IsSq_le hle k1 k2 k3 h1 h2).symm
theorem IsSq_ex {m : Int} (h : 0 < m) (e : Int) : ∃ w, IsSq m e w := by
  obtain ⟨up, hup, hp⟩ : ∃ up : Nat, (e - up) % 2 = 0 ∧ 106 ≤ up := by
    rcases (show e % 2 = 0 ∨ e % 2 = 1 by omega) with h1 | h1
    · exact ⟨106, by omega, by omega⟩
    · exact ⟨107, by omega, by omega⟩
  have h2 : (2 : Int) ^ 106 ≤ m * 2 ^ up := by
    have a1 := pow_le_pow hp
    have := Int.mul_le_mul_of_nonneg_right (show 1 ≤ m by omega) (Int.le_of_lt (pow_pos up))
    omega
  obtain ⟨r, hr⟩ := root_ex (A := m * 2 ^ up) (by have := pow_pos 106; omega)
  have h3 := hr.2.2
  have : (9007199254740992 : Int) < r + 1 := lt_of_sq (by have := hr.1; omega) (by omega)
  exact ⟨_, up, (e - up) / 2 - 1, r, by omega, hr, by omega, rfl⟩
/-- The root with its lowest bit set if something is left. -/
theorem sq_code {X r c : Int} (h : IsRoot X r) (hr : 18014398509481984 ≤ r) : Rd (if r * r = X then r else r / 2 * 2 + 1) c = Rd (sv X r) (c - 1) := by
  have hs : 0 < (if r * r = X then r else r / 2 * 2 + 1) := by split <;> omega
  rw [← Rd_scale hs c 1, Int.pow_one, show c - ((1 : Nat) : Int) = c - 1 from rfl]
  unfold sv
  by_cases hx : r * r = X
  · rw [if_pos hx, if_pos hx, Int.mul_comm]
  · rw [if_neg hx, if_neg hx]
    refine Rd_cell (g := 2) (by omega) (by omega) (by omega) (by omega) ?_
    have := bl_ge' (x := (r / 2 * 2 + 1) * 2) (n := 55) (by omega)
    unfold un
    omega

/-! ### The root of a rounded square -/
end Go.Proofs.Ytbpggonjcnakgaa.M
