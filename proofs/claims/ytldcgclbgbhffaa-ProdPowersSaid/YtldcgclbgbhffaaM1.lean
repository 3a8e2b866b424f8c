/- Lists of words as natural numbers: their values, and a number's list without words 0 at its end. -/
import Derived.Test.YtldcgclbgbhffaaM0
namespace Go.Proofs.Ytldcgclbgbhffaa.M
open Go.RowKit Go.Proofs.YtldcgclbgbhffaaW.PrintWords Go.Proofs.YtldcgclbgbhffaaW.PrintLast Go.Proofs.YtldcgclbgbhffaaW.PrintMore
set_option linter.unusedVariables false

def U (x : Int) : Prop := 0 ≤ x ∧ x < 18446744073709551616
def Ws (l : List Int) : Prop := ∀ x ∈ l, U x
/-- Words, and not more of them than any machine has. -/
def Wl (l : List Int) : Prop := Ws l ∧ l.length ≤ 1000000000
def nv : List Int → Int
  | [] => 0
  | x :: l => x + 18446744073709551616 * nv l
theorem nv_cons (x : Int) (l : List Int) : nv (x :: l) = x + 18446744073709551616 * nv l := rfl
def Wp (n : Nat) : Int := 18446744073709551616 ^ n

theorem Wp_zero : Wp 0 = 1 := rfl
theorem Wp_succ (n : Nat) : Wp (n + 1) = 18446744073709551616 * Wp n := by unfold Wp; rw [Int.pow_succ, Int.mul_comm]
theorem Wp_pos (n : Nat) : 0 < Wp n := by
  induction n with
  | zero => decide
  | succ n ih => rw [Wp_succ]; omega
theorem Wp_add (a b : Nat) : Wp (a + b) = Wp a * Wp b := by unfold Wp; rw [Int.pow_add]
theorem Wp_two (n : Nat) : Wp n = 2 ^ (64 * n) := by
  unfold Wp
  rw [Int.pow_mul]
  rfl
theorem Wp_le {a b : Nat} (h : a ≤ b) : Wp a ≤ Wp b := by rw [Wp_two, Wp_two]; exact pow_le_pow (by omega)

theorem Ws_nil : Ws [] := fun x h => by simp at h
theorem Ws_cons {x : Int} {l : List Int} : Ws (x :: l) ↔ U x ∧ Ws l := by unfold Ws; simp
theorem Ws_app {a b : List Int} : Ws (a ++ b) ↔ Ws a ∧ Ws b := by
  unfold Ws
  simp only [List.mem_append]
  exact ⟨fun h => ⟨fun x hx => h x (.inl hx), fun x hx => h x (.inr hx)⟩, fun h x hx => hx.elim (h.1 x) (h.2 x)⟩
theorem Ws_take {l : List Int} (h : Ws l) (n : Nat) : Ws (l.take n) := fun x hx => h x (List.mem_of_mem_take hx)
theorem Ws_drop {l : List Int} (h : Ws l) (n : Nat) : Ws (l.drop n) := fun x hx => h x (List.mem_of_mem_drop hx)
theorem Ws_one {x : Int} (h : U x) : Ws [x] := fun y hy => by simp at hy; rw [hy]; exact h
theorem Ws_zeros (n : Nat) : Ws (List.replicate n 0) := fun x hx => by rw [List.eq_of_mem_replicate hx]; unfold U; omega
theorem U_rd {l : List Int} (h : Ws l) (i : Int) : U (rd l i) := by
  unfold rd
  rw [List.getD_eq_getElem?_getD]
  rcases Nat.lt_or_ge i.toNat l.length with hi | hi
  · rw [List.getElem?_eq_getElem hi]; exact h _ (List.getElem_mem hi)
  · rw [List.getElem?_eq_none hi]; unfold U; simp

theorem nv_nonneg {l : List Int} (h : Ws l) : 0 ≤ nv l := by
  induction l with
  | nil => exact Int.le_refl 0
  | cons x l ih =>
    have h1 := Ws_cons.1 h
    have h2 := ih h1.2
    have h3 := h1.1.1
    rw [nv_cons]
    omega
theorem nv_lt {l : List Int} (h : Ws l) : nv l < Wp l.length := by
  induction l with
  | nil => decide
  | cons x l ih =>
    have h1 := Ws_cons.1 h
    have h2 := ih h1.2
    have h3 := h1.1.2
    rw [List.length_cons, Wp_succ, nv_cons]
    omega
theorem nv_app (a b : List Int) : nv (a ++ b) = nv a + Wp a.length * nv b := by
  induction a with
  | nil => simp [nv, Wp_zero]
  | cons x a ih =>
    rw [List.cons_append, List.length_cons, Wp_succ, nv_cons, nv_cons, ih]
    grind
theorem nv_one (x : Int) : nv [x] = x := by rw [nv_cons]; show x + 18446744073709551616 * 0 = x; omega
theorem nv_snoc (a : List Int) (x : Int) : nv (a ++ [x]) = nv a + Wp a.length * x := by rw [nv_app, nv_one]
theorem nv_zeros (n : Nat) : nv (List.replicate n 0) = 0 := by
  induction n with
  | zero => rfl
  | succ n ih => rw [List.replicate_succ, nv_cons, ih]; rfl
theorem take_rd {l : List Int} {i : Nat} (h : i < l.length) : l.take (i + 1) = l.take i ++ [rd l (i : Int)] := by
  rw [List.take_succ_eq_append_getElem h]
  unfold rd
  rw [Int.toNat_natCast, List.getD_eq_getElem?_getD, List.getElem?_eq_getElem h]
  rfl
theorem nv_take_succ {l : List Int} {i : Nat} (h : i < l.length) : nv (l.take (i + 1)) = nv (l.take i) + Wp i * rd l (i : Int) := by
  rw [take_rd h, nv_snoc, List.length_take, Nat.min_eq_left (by omega)]
theorem nv_split (l : List Int) (i : Nat) : nv l = nv (l.take i) + Wp (min i l.length) * nv (l.drop i) := by
  have := nv_app (l.take i) (l.drop i)
  rw [List.take_append_drop, List.length_take] at this
  exact this

/-! ### A number's list -/
def dgF : Nat → Int → List Int
  | 0, _ => []
  | k + 1, n => if n ≤ 0 then [] else n % 18446744073709551616 :: dgF k (n / 18446744073709551616)
def dg (n : Int) : List Int := dgF n.toNat n
theorem dgF_nil (k : Nat) {n : Int} (h : n ≤ 0) : dgF k n = [] := by
  cases k with
  | zero => rfl
  | succ k => unfold dgF; rw [if_pos h]
theorem dgF_eq : ∀ (k j : Nat) (n : Int), n.toNat ≤ k → n.toNat ≤ j → dgF k n = dgF j n
  | 0, j, n, hk, _ => by rw [dgF_nil 0 (by omega), dgF_nil j (by omega)]
  | k + 1, 0, n, _, hj => by rw [dgF_nil _ (by omega), dgF_nil 0 (by omega)]
  | k + 1, j + 1, n, hk, hj => by
    unfold dgF
    by_cases h : n ≤ 0
    · rw [if_pos h, if_pos h]
    · rw [if_neg h, if_neg h, dgF_eq k j _ (by omega) (by omega)]
theorem dg_nil {n : Int} (h : n ≤ 0) : dg n = [] := dgF_nil _ h
theorem dg_zero : dg 0 = [] := rfl
theorem dg_pos {n : Int} (h : 0 < n) : dg n = n % 18446744073709551616 :: dg (n / 18446744073709551616) := by
  unfold dg
  obtain ⟨k, hk⟩ : ∃ k, n.toNat = k + 1 := ⟨n.toNat - 1, by omega⟩
  rw [hk]
  conv => lhs; unfold dgF
  rw [if_neg (by omega), dgF_eq k _ _ (by omega) (Nat.le_refl _)]
theorem dg_ind {P : Int → Prop} (h0 : P 0) (hs : ∀ n, 0 < n → P (n / 18446744073709551616) → P n) (n : Int) (hn : 0 ≤ n) : P n := by
  have key : ∀ (k : Nat) (n : Int), 0 ≤ n → n.toNat ≤ k → P n := by
    intro k
    induction k with
    | zero => intro n h1 h2; obtain rfl : n = 0 := by omega
              exact h0
    | succ k ih =>
      intro n h1 h2
      rcases (show n = 0 ∨ 0 < n by omega) with rfl | h
      · exact h0
      · exact hs n h (ih _ (by omega) (by omega))
  exact key _ n hn (Nat.le_refl _)
theorem dg_Ws (n : Int) : Ws (dg n) := by
  rcases Int.lt_or_le n 0 with h | h
  · rw [dg_nil (by omega)]; exact Ws_nil
  · refine dg_ind (P := fun n => Ws (dg n)) Ws_nil (fun n hn ih => ?_) n h
    rw [dg_pos hn]
    exact Ws_cons.2 ⟨by unfold U; omega, ih⟩
theorem nv_dg {n : Int} (h : 0 ≤ n) : nv (dg n) = n := by
  refine dg_ind (P := fun n => nv (dg n) = n) rfl (fun n hn ih => ?_) n h
  rw [dg_pos hn, nv_cons, ih]
  omega
/-- No word 0 at the end. -/
def Cn (l : List Int) : Prop := l = [] ∨ l.getLast? ≠ some 0
theorem dg_Cn {n : Int} (h : 0 ≤ n) : Cn (dg n) := by
  refine dg_ind (P := fun n => Cn (dg n)) (.inl rfl) (fun n hn ih => ?_) n h
  rw [dg_pos hn]
  refine .inr ?_
  rcases ih with ih | ih
  · have h1 := nv_dg (n := n / 18446744073709551616) (by omega)
    rw [ih] at h1 ⊢
    unfold nv at h1
    simp
    omega
  · cases hd : dg (n / 18446744073709551616) with
    | nil =>
      have h1 := nv_dg (n := n / 18446744073709551616) (by omega)
      rw [hd] at h1
      unfold nv at h1
      simp
      omega
    | cons y l =>
      rw [hd] at ih
      rw [List.getLast?_cons_cons]
      exact ih
theorem Cn_tail {x : Int} {l : List Int} (h : Cn (x :: l)) : Cn l := by
  cases l with
  | nil => exact .inl rfl
  | cons y l =>
    rcases h with h | h
    · cases h
    · rw [List.getLast?_cons_cons] at h; exact .inr h
theorem nv_pos_of {l : List Int} (h : Ws l) (hc : Cn l) (hne : l ≠ []) : 0 < nv l := by
  induction l with
  | nil => exact absurd rfl hne
  | cons x l ih =>
    have h1 := Ws_cons.1 h
    unfold U at h1
    rw [nv_cons]
    cases l with
    | nil =>
      rcases hc with hc | hc
      · cases hc
      · simp at hc; show 0 < x + 18446744073709551616 * 0; omega
    | cons y l =>
      have := ih h1.2 (Cn_tail hc) (by simp)
      omega
theorem dg_nv {l : List Int} (h : Ws l) (hc : Cn l) : dg (nv l) = l := by
  induction l with
  | nil => rfl
  | cons x l ih =>
    have h0 := nv_pos_of h hc (by simp)
    have h1 := Ws_cons.1 h
    have h2 := nv_nonneg h1.2
    unfold U at h1
    have e : nv (x :: l) = x + 18446744073709551616 * nv l := rfl
    rw [dg_pos h0, e, show (x + 18446744073709551616 * nv l) % 18446744073709551616 = x by omega, show (x + 18446744073709551616 * nv l) / 18446744073709551616 = nv l by omega, ih h1.2 (Cn_tail hc)]
theorem dg_inj {a b : Int} (ha : 0 ≤ a) (hb : 0 ≤ b) (h : dg a = dg b) : a = b := by rw [← nv_dg ha, h, nv_dg hb]
theorem dg_len_le {n : Int} {m : Nat} (h : n < Wp m) : (dg n).length ≤ m := by
  induction m generalizing n with
  | zero => rw [dg_nil (by rw [Wp_zero] at h; omega)]; simp
  | succ m ih =>
    rcases Int.lt_or_le 0 n with h1 | h1
    · rw [dg_pos h1, List.length_cons]
      rw [Wp_succ] at h
      have := @ih (n / 18446744073709551616) (by omega)
      omega
    · rw [dg_nil h1]; simp
theorem le_dg_len {n : Int} {m : Nat} (h : Wp m ≤ n) : m < (dg n).length := by
  have hp := Wp_pos m
  have h1 := nv_lt (dg_Ws n)
  rw [nv_dg (by omega)] at h1
  rcases Nat.lt_or_ge m (dg n).length with h2 | h2
  · exact h2
  · have := Wp_le h2; omega
theorem dg_len_lt {n : Int} (h : 0 < n) : Wp ((dg n).length - 1) ≤ n := by
  rcases Int.lt_or_le n (Wp ((dg n).length - 1)) with h1 | h1
  · have := dg_len_le h1
    have h2 : (dg n).length ≠ 0 := by rw [dg_pos h]; simp
    omega
  · exact h1
theorem lt_Wp_dg {n : Int} (h : 0 ≤ n) : n < Wp (dg n).length := by
  have h1 := nv_lt (dg_Ws n)
  rwa [nv_dg h] at h1
/-! ### Bits -/
theorem bl_mono {x y : Int} (h : x ≤ y) : bl x ≤ bl y := by
  have h1 := bl_lt y
  have := bl_le_of (x := x) (n := (bl y).toNat) (by omega)
  have := bl_nonneg y
  omega
theorem bl_add {x y : Int} (hx : 0 ≤ x) (hy : 0 ≤ y) {m : Int} (h1 : bl x ≤ m) (h2 : bl y ≤ m) : bl (x + y) ≤ m + 1 := by
  have a1 := bl_lt x
  have a2 := bl_lt y
  have n1 := bl_nonneg x
  have n2 := bl_nonneg y
  obtain ⟨k, rfl⟩ := Int.eq_ofNat_of_zero_le (show 0 ≤ m by omega)
  have b1 := pow_le_pow (a := (bl x).toNat) (b := k) (by omega)
  have b2 := pow_le_pow (a := (bl y).toNat) (b := k) (by omega)
  have := bl_le_of (x := x + y) (n := k + 1) (by rw [Int.pow_succ]; omega)
  omega
theorem bl_mul {x y : Int} (hx : 0 ≤ x) (hy : 0 ≤ y) : bl (x * y) ≤ bl x + bl y := by
  have a1 := bl_lt x
  have a2 := bl_lt y
  have n1 := bl_nonneg x
  have n2 := bl_nonneg y
  have p1 := pow_pos (bl x).toNat
  have h : x * y < 2 ^ ((bl x).toNat + (bl y).toNat) := by
    rw [Int.pow_add]
    rcases (show y = 0 ∨ 0 < y by omega) with rfl | h
    · rw [Int.mul_zero]; exact Int.mul_pos p1 (pow_pos _)
    · exact Int.mul_lt_mul a1 (by omega) h (by omega)
  have := bl_le_of h
  omega
theorem dg_len_bl (n : Int) : ((dg n).length : Int) ≤ (bl n + 63) / 64 := by
  have h1 := bl_lt n
  have n1 := bl_nonneg n
  obtain ⟨k, hk⟩ := Int.eq_ofNat_of_zero_le (show 0 ≤ (bl n + 63) / 64 by omega)
  have h2 : n < Wp k := by
    rw [Wp_two]
    have := pow_le_pow (a := (bl n).toNat) (b := 64 * k) (by omega)
    omega
  have := dg_len_le h2
  omega
theorem Wl_dg {n : Int} (h : bl n ≤ 60000000000) : Wl (dg n) := ⟨dg_Ws n, by have := dg_len_bl n; omega⟩
theorem bl_nv {l : List Int} (h : Ws l) : bl (nv l) ≤ 64 * l.length := by
  have h1 := nv_lt h
  rw [Wp_two] at h1
  have := bl_le_of h1
  omega
end Go.Proofs.Ytldcgclbgbhffaa.M
