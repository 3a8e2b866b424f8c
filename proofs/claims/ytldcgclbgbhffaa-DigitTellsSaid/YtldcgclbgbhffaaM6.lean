/- Numbers written in tens: their digits as bytes, low digit first, and what a text of digits is worth. -/
import Derived.Test.YtldcgclbgbhffaaM2
import Derived.Laws.Strings
import Derived.Laws.BytesArg
namespace Go.Proofs.Ytldcgclbgbhffaa.M
open Go.RowKit Go.Proofs.Ytldcgclbgbhffaa.P Go.Proofs.YtldcgclbgbhffaaW.PrintWords Go.Proofs.YtldcgclbgbhffaaW.PrintLast Go.Proofs.YtldcgclbgbhffaaW.PrintMore
set_option linter.unusedVariables false

/-- Bytes that stand for a digit. -/
def Dd (l : List Int) : Prop := ∀ x ∈ l, 48 ≤ x ∧ x ≤ 57
theorem Dd_nil : Dd [] := fun x h => by simp at h
theorem Dd_cons {x : Int} {l : List Int} : Dd (x :: l) ↔ (48 ≤ x ∧ x ≤ 57) ∧ Dd l := by unfold Dd; simp
theorem Dd_app {a b : List Int} : Dd (a ++ b) ↔ Dd a ∧ Dd b := by
  unfold Dd; simp only [List.mem_append]
  exact ⟨fun h => ⟨fun x hx => h x (.inl hx), fun x hx => h x (.inr hx)⟩, fun h x hx => hx.elim (h.1 x) (h.2 x)⟩
theorem Dd_take {l : List Int} (h : Dd l) (n : Nat) : Dd (l.take n) := fun x hx => h x (List.mem_of_mem_take hx)
theorem Dd_drop {l : List Int} (h : Dd l) (n : Nat) : Dd (l.drop n) := fun x hx => h x (List.mem_of_mem_drop hx)
theorem Dd_rev {l : List Int} (h : Dd l) : Dd l.reverse := fun x hx => h x (List.mem_reverse.1 hx)
/-- The worth of digits, the low one first. -/
def lv : List Int → Int
  | [] => 0
  | c :: t => (c - 48) + 10 * lv t
/-- The worth of digits, the high one first. -/
def dv (l : List Int) : Int := lv l.reverse
theorem lv_app (a b : List Int) : lv (a ++ b) = lv a + 10 ^ a.length * lv b := by
  induction a with
  | nil => show lv b = 0 + 1 * lv b; omega
  | cons x t ih =>
    show (x - 48) + 10 * lv (t ++ b) = (x - 48) + 10 * lv t + 10 ^ (t.length + 1) * lv b
    rw [ih, Int.pow_succ]
    grind
theorem dv_app (a b : List Int) : dv (a ++ b) = dv a * 10 ^ b.length + dv b := by
  unfold dv
  rw [List.reverse_append, lv_app, List.length_reverse, Int.mul_comm, Int.add_comm]
theorem dv_snoc (a : List Int) (c : Int) : dv (a ++ [c]) = 10 * dv a + (c - 48) := by
  rw [dv_app]
  show dv a * 10 ^ 1 + (c - 48 + 10 * 0) = _
  omega
theorem ten_pos (n : Nat) : (0 : Int) < 10 ^ n := by
  induction n with
  | zero => decide
  | succ n ih => rw [Int.pow_succ]; omega
theorem ten_le {a b : Nat} (h : a ≤ b) : (10 : Int) ^ a ≤ 10 ^ b := by
  obtain ⟨c, rfl⟩ := Nat.exists_eq_add_of_le h
  rw [Int.pow_add]
  have h1 := ten_pos a
  have h2 := ten_pos c
  have := Int.mul_le_mul_of_nonneg_left (show (1 : Int) ≤ 10 ^ c by omega) (Int.le_of_lt h1)
  omega
theorem lv_range {l : List Int} (h : Dd l) : 0 ≤ lv l ∧ lv l < 10 ^ l.length := by
  induction l with
  | nil => decide
  | cons x t ih =>
    obtain ⟨hx, ht⟩ := Dd_cons.1 h
    obtain ⟨i1, i2⟩ := ih ht
    show 0 ≤ (x - 48) + 10 * lv t ∧ (x - 48) + 10 * lv t < 10 ^ (t.length + 1)
    rw [Int.pow_succ]
    omega
theorem dv_range {l : List Int} (h : Dd l) : 0 ≤ dv l ∧ dv l < 10 ^ l.length := by
  have := lv_range (Dd_rev h)
  rwa [List.length_reverse] at this
def dsF : Nat → Int → List Int
  | 0, _ => []
  | k + 1, n => if n ≤ 0 then [] else (48 + n % 10) :: dsF k (n / 10)
/-- A number's digits, the low one first; none for nothing. -/
def ds (n : Int) : List Int := dsF n.toNat n
theorem dsF_nil (k : Nat) {n : Int} (h : n ≤ 0) : dsF k n = [] := by
  cases k with
  | zero => rfl
  | succ k => show (if n ≤ 0 then _ else _) = _; rw [if_pos h]
theorem dsF_eq : ∀ (k j : Nat) (n : Int), n.toNat ≤ k → n.toNat ≤ j → dsF k n = dsF j n
  | 0, j, n, h, _ => by rw [dsF_nil 0 (by omega), dsF_nil j (by omega)]
  | k + 1, 0, n, _, h => by rw [dsF_nil (k + 1) (by omega), dsF_nil 0 (by omega)]
  | k + 1, j + 1, n, h1, h2 => by
    show (if n ≤ 0 then _ else _) = (if n ≤ 0 then _ else _)
    by_cases h : n ≤ 0
    · rw [if_pos h, if_pos h]
    · rw [if_neg h, if_neg h, dsF_eq k j (n / 10) (by omega) (by omega)]
theorem ds_nil {n : Int} (h : n ≤ 0) : ds n = [] := dsF_nil _ h
theorem ds_pos {n : Int} (h : 0 < n) : ds n = (48 + n % 10) :: ds (n / 10) := by
  unfold ds
  obtain ⟨k, hk⟩ : ∃ k, n.toNat = k + 1 := ⟨n.toNat - 1, by omega⟩
  rw [hk]
  show (if n ≤ 0 then _ else _) = _
  rw [if_neg (by omega), dsF_eq k (n / 10).toNat (n / 10) (by omega) (by omega)]
theorem ten_ind {P : Int → Prop} (h0 : P 0) (hs : ∀ n, 0 < n → P (n / 10) → P n) (n : Int) (hn : 0 ≤ n) : P n := by
  obtain ⟨k, rfl⟩ := Int.eq_ofNat_of_zero_le hn
  induction k using Nat.strongRecOn with
  | ind k ih =>
    rcases Nat.eq_zero_or_pos k with h | h
    · rw [h]; exact h0
    · refine hs _ (by omega) ?_
      have := ih (k / 10) (by omega) (by omega)
      rwa [show (((k / 10 : Nat)) : Int) = (k : Int) / 10 by omega] at this
theorem ds_Dd (n : Int) : Dd (ds n) := by
  rcases (show n ≤ 0 ∨ 0 ≤ n by omega) with h | h
  · rw [ds_nil h]; exact Dd_nil
  · refine ten_ind (P := fun n => Dd (ds n)) (by rw [ds_nil (by omega)]; exact Dd_nil) (fun n hn ih => ?_) n h
    show Dd (ds n)
    rw [ds_pos hn, Dd_cons]
    exact ⟨by omega, ih⟩
theorem lv_ds {n : Int} (h : 0 ≤ n) : lv (ds n) = n := by
  refine ten_ind (P := fun n => lv (ds n) = n) (by rw [ds_nil (by omega)]; rfl) (fun n hn ih => ?_) n h
  show lv (ds n) = n
  rw [ds_pos hn]
  show (48 + n % 10 - 48) + 10 * lv (ds (n / 10)) = n
  rw [ih]; omega
/-- Digits with a high one that is no nought are the digits of their worth. -/
theorem ds_lv {l : List Int} (h : Dd l) (hc : l = [] ∨ l.getLast? ≠ some 48) : ds (lv l) = l := by
  induction l with
  | nil => rfl
  | cons x t ih =>
    obtain ⟨hx, ht⟩ := Dd_cons.1 h
    have hr := lv_range ht
    have hct : t = [] ∨ t.getLast? ≠ some 48 := by
      cases t with
      | nil => exact .inl rfl
      | cons y t => right; rcases hc with h1 | h1; · simp at h1
                    · rw [List.getLast?_cons_cons] at h1; exact h1
    have hpos : 0 < lv (x :: t) := by
      show 0 < (x - 48) + 10 * lv t
      cases t with
      | nil =>
        rcases hc with h1 | h1
        · simp at h1
        · have : x ≠ 48 := fun e => h1 (by rw [e]; rfl)
          show 0 < (x - 48) + 10 * 0
          omega
      | cons y t =>
        have e := ih ht hct
        rcases (show 0 < lv (y :: t) ∨ lv (y :: t) ≤ 0 by omega) with h2 | h2
        · omega
        · rw [ds_nil h2] at e; simp at e
    rw [ds_pos hpos]
    have e1 : lv (x :: t) % 10 = x - 48 := by show ((x - 48) + 10 * lv t) % 10 = _; omega
    have e2 : lv (x :: t) / 10 = lv t := by show ((x - 48) + 10 * lv t) / 10 = _; omega
    rw [e1, e2, ih ht hct, show 48 + (x - 48) = x by omega]
/-- A count of digits of a number, the low one first. -/
def fx : Nat → Int → List Int
  | 0, _ => []
  | m + 1, n => (48 + n % 10) :: fx m (n / 10)
theorem ds_fx (m : Nat) : ∀ (q r : Int), 0 < q → 0 ≤ r → r < 10 ^ m → ds (q * 10 ^ m + r) = fx m r ++ ds q := by
  induction m with
  | zero =>
    intro q r hq h0 h1
    have : r = 0 := by rw [Int.pow_zero] at h1; omega
    rw [this, Int.pow_zero, show q * 1 + 0 = q by omega]; rfl
  | succ m ih =>
    intro q r hq h0 h1
    have hp := ten_pos m
    rw [Int.pow_succ] at h1
    have hn : 0 < q * 10 ^ (m + 1) := Int.mul_pos hq (ten_pos _)
    have e : q * 10 ^ (m + 1) + r = 10 * (q * 10 ^ m + r / 10) + r % 10 := by rw [Int.pow_succ]; grind
    rw [ds_pos (by omega), e]
    have e1 : (10 * (q * 10 ^ m + r / 10) + r % 10) % 10 = r % 10 := by omega
    have e2 : (10 * (q * 10 ^ m + r / 10) + r % 10) / 10 = q * 10 ^ m + r / 10 := by omega
    rw [e1, e2, ih q (r / 10) hq (by omega) (by omega)]
    rfl
theorem ds_len_le {n : Int} {m : Nat} (hn : 0 ≤ n) (h : n < 10 ^ m) : (ds n).length ≤ m := by
  induction m generalizing n with
  | zero => rw [ds_nil (by rw [Int.pow_zero] at h; omega)]; simp
  | succ m ih =>
    rcases (show n = 0 ∨ 0 < n by omega) with h0 | h0
    · rw [ds_nil (by omega)]; simp
    · rw [ds_pos h0, List.length_cons]
      rw [Int.pow_succ] at h
      have := ih (n := n / 10) (by omega) (by omega)
      omega
/-- The bytes of a number's text. -/
def sh (n : Int) : List Int := if n ≤ 0 then [48] else (ds n).reverse
theorem sh_Dd (n : Int) : Dd (sh n) := by
  unfold sh; split
  · exact Dd_cons.2 ⟨by omega, Dd_nil⟩
  · exact Dd_rev (ds_Dd n)
theorem dv_sh {n : Int} (h : 0 ≤ n) : dv (sh n) = n := by
  unfold sh; split
  · show (48 - 48 : Int) + 10 * 0 = n; omega
  · unfold dv; rw [List.reverse_reverse, lv_ds h]
/-- Right texts: digits, no nought ahead of another digit. -/
def Tx (l : List Int) : Prop := Dd l ∧ l ≠ [] ∧ (1 < l.length → rd l 0 ≠ 48)
theorem ds_last {n : Int} (h : 0 < n) : (ds n).getLast? ≠ some 48 := by
  revert h
  rcases (show n ≤ 0 ∨ 0 ≤ n by omega) with h0 | h0
  · intro h; omega
  · refine ten_ind (P := fun n => 0 < n → (ds n).getLast? ≠ some 48) (fun h => by omega) (fun n hn ih _ => ?_) n h0
    rw [ds_pos hn]
    rcases (show n / 10 = 0 ∨ 0 < n / 10 by omega) with h1 | h1
    · rw [h1, ds_nil (by omega)]
      simp; omega
    · have h2 := ih h1
      rw [ds_pos h1] at h2 ⊢
      rwa [List.getLast?_cons_cons]
theorem rd_rev_zero (l : List Int) (h : l ≠ []) : l.getLast? = some (rd l.reverse 0) := by
  obtain ⟨y, t, e⟩ : ∃ y t, l.reverse = y :: t := by
    cases hl : l.reverse with
    | nil => exact absurd (List.reverse_eq_nil_iff.1 hl) h
    | cons y t => exact ⟨y, t, rfl⟩
  have : l = t.reverse ++ [y] := by rw [← List.reverse_reverse l, e, List.reverse_cons]
  rw [e, this, List.getLast?_append]
  rfl
theorem sh_Tx {n : Int} (h : 0 ≤ n) : Tx (sh n) := by
  refine ⟨sh_Dd n, ?_, ?_⟩
  · unfold sh; split
    · simp
    · rw [ne_eq, List.reverse_eq_nil_iff, ds_pos (by omega)]; simp
  · unfold sh; split
    · intro h2; simp at h2
    · intro _ h2
      have h3 := ds_last (n := n) (by omega)
      have h4 : ds n ≠ [] := by rw [ds_pos (by omega)]; simp
      rw [rd_rev_zero _ h4, h2] at h3
      exact h3 rfl
theorem sh_dv {l : List Int} (h : Tx l) : sh (dv l) = l := by
  obtain ⟨h1, h2, h3⟩ := h
  by_cases hz : dv l ≤ 0
  · have hl : l.length = 1 := by
      rcases Nat.lt_or_ge 1 l.length with h4 | h4
      · exfalso
        have h5 := h3 h4
        have hr : l.reverse ≠ [] := fun e => h2 (List.reverse_eq_nil_iff.1 e)
        have e := ds_lv (Dd_rev h1) (.inr (by rw [rd_rev_zero _ hr, List.reverse_reverse]; simpa using h5))
        have hz2 : lv l.reverse ≤ 0 := hz
        rw [ds_nil hz2] at e
        exact hr e.symm
      · have : l.length ≠ 0 := fun e => h2 (List.length_eq_zero_iff.1 e)
        omega
    obtain ⟨x, rfl⟩ := List.length_eq_one_iff.1 hl
    have hx := (Dd_cons.1 h1).1
    have : dv [x] = x - 48 := by show (x - 48) + 10 * 0 = _; omega
    unfold sh
    rw [if_pos hz, show x = 48 by omega]
  · have hr : l.reverse ≠ [] := fun e => h2 (List.reverse_eq_nil_iff.1 e)
    unfold sh
    rw [if_neg hz]
    have hlast : l.reverse = [] ∨ l.reverse.getLast? ≠ some 48 := by
      right
      rw [rd_rev_zero _ hr, List.reverse_reverse]
      intro e
      injection e with e
      rcases Nat.lt_or_ge 1 l.length with h4 | h4
      · exact h3 h4 e
      · have : l.length ≠ 0 := fun e => h2 (List.length_eq_zero_iff.1 e)
        obtain ⟨x, rfl⟩ := List.length_eq_one_iff.1 (show l.length = 1 by omega)
        have e2 : x = 48 := e
        have : dv [x] = x - 48 := by show (x - 48) + 10 * 0 = _; omega
        omega
    have e := ds_lv (Dd_rev h1) hlast
    show (ds (lv l.reverse)).reverse = l
    rw [e, List.reverse_reverse]
/-! ### Texts as bytes -/
def byt (s : ByteArray) : List Int := s.data.toList.map fun b => (b.toNat : Int)
theorem byt_len (s : ByteArray) : (byt s).length = s.size := by unfold byt; rw [List.length_map]; rfl
theorem byt_range (s : ByteArray) : ∀ x ∈ byt s, 0 ≤ x ∧ x ≤ 255 := fun x hx => by
  unfold byt at hx
  obtain ⟨b, _, rfl⟩ := List.mem_map.1 hx
  have := b.toNat_lt
  omega
theorem bt_byt (s : ByteArray) (i : Nat) : bt s (i : Int) = rd (byt s) (i : Int) := by
  unfold bt rd byt
  rw [Int.toNat_natCast, List.getD_eq_getElem?_getD, List.getElem?_map]
  by_cases h : i < s.size
  · rw [dif_pos h, List.getElem?_eq_getElem (by exact h)]; rfl
  · rw [dif_neg h, List.getElem?_eq_none (by have : s.data.toList.length = s.size := rfl; omega)]; rfl
theorem byt_extract (s : ByteArray) (i j : Nat) : byt (s.extract i j) = ((byt s).drop i).take (j - i) := by
  unfold byt
  rw [ByteArray.data_extract, Array.toList_extract, List.extract_eq_take_drop, List.map_take, List.map_drop]
theorem strOfNums_byt (s : ByteArray) : strOfNums (byt s) = s := by
  apply ByteArray.ext
  unfold strOfNums byt
  rw [List.map_map]
  have : ((fun n : Int => UInt8.ofNat n.toNat) ∘ fun b : UInt8 => (b.toNat : Int)) = id := by
    funext b; simp
  rw [this, List.map_id]
theorem byt_strOfNums {l : List Int} (h : ∀ x ∈ l, 0 ≤ x ∧ x ≤ 255) : byt (strOfNums l) = l := by
  unfold byt
  rw [strOfNums_data, List.map_map]
  have : ∀ x ∈ l, ((fun b : UInt8 => (b.toNat : Int)) ∘ fun n : Int => UInt8.ofNat n.toNat) x = x := by
    intro x hx
    have := h x hx
    show ((UInt8.ofNat x.toNat).toNat : Int) = x
    rw [UInt8.toNat_ofNat']
    omega
  rw [List.map_congr_left this, List.map_id']
theorem Dd_bytes {l : List Int} (h : Dd l) : ∀ x ∈ l, 0 ≤ x ∧ x ≤ 255 := fun x hx => by have := h x hx; omega
end Go.Proofs.Ytldcgclbgbhffaa.M
