/- What the functions of digit answer: the text of a number, and the number of a text. -/
import Derived.Test.YtldcgclbgbhffaaM6
import Derived.Test.YtldcgclbgbhffaaC03w
import Derived.Test.YtldcgclbgbhffaaC04w
import Derived.Test.YtldcgclbgbhffaaBdigit
namespace Go.Proofs.Ytldcgclbgbhffaa.M
open Go.RowKit Go.Proofs.Ytldcgclbgbhffaa.P Go.Proofs.YtldcgclbgbhffaaW.PrintWords Go.Proofs.YtldcgclbgbhffaaW.PrintLast Go.Proofs.YtldcgclbgbhffaaW.PrintMore
set_option linter.unusedVariables false

theorem two_ten (m : Nat) : (2 : Int) ^ m ≤ 10 ^ m := by
  induction m with
  | zero => decide
  | succ m ih =>
    have := pow_pos m
    rw [Int.pow_succ, Int.pow_succ]; omega
theorem put_one {n : Int} (h0 : 0 ≤ n) (h1 : n < 18446744073709551616) : IntKind.u64.wrap (48 + Int.tmod n 10) % 256 = 48 + n % 10 ∧ IntKind.u64.wrap (Int.tdiv n 10) = n / 10 := by
  rw [Int.tmod_eq_emod_of_nonneg h0, Int.tdiv_eq_ediv_of_nonneg h0, wu_id (by omega) (by omega), wu_id (by omega) (by omega)]
  omega
theorem digit_put_fx (m : Nat) : ∀ (x : List Int) (n : Int), 0 ≤ n → n < 10 ^ m → n < 18446744073709551616 → x.length + m ≤ 1000000000 → Ev (fun k => digit_put.l0 k x n (m : Int)) (x ++ fx m n) := by
  induction m with
  | zero =>
    intro x n h0 h1 h2 hx
    rw [Int.pow_zero] at h1
    refine Ev.step (fun k => digit_put.l0.eq_2 ..) ?_
    refine Ev.ifn (by omega) (Ev.ifn (by omega) (Ev.same ?_))
    show some x = some (x ++ [])
    rw [List.append_nil]
  | succ m ih =>
    intro x n h0 h1 h2 hx
    rw [Int.pow_succ] at h1
    obtain ⟨e1, e2⟩ := put_one h0 h2
    have e : wrap64 (((m + 1 : Nat) : Int) - 1) = (m : Int) := by rw [w64_id (by omega) (by omega)]; omega
    have h := ih (x ++ [48 + n % 10]) (n / 10) (by omega) (by omega) (by omega) (by rw [List.length_append]; show x.length + 1 + m ≤ _; omega)
    rw [List.append_assoc] at h
    refine Ev.step (fun k => digit_put.l0.eq_2 ..) ?_
    rw [e1, e2, e]
    by_cases hn : n > 0
    · exact Ev.ifp hn (Ev.ifp (by omega) h)
    · exact Ev.ifn hn (Ev.ifp (by omega) (Ev.ifp (by omega) h))
theorem digit_put_ds (d : Nat) : ∀ (x : List Int) (n z : Int), 0 ≤ n → n < 10 ^ d → n < 18446744073709551616 → x.length + d ≤ 1000000000 → z ≤ 0 → -1000000 + d ≤ z → Ev (fun k => digit_put.l0 k x n z) (x ++ ds n) := by
  induction d with
  | zero =>
    intro x n z h0 h1 h2 hx hz hz2
    rw [Int.pow_zero] at h1
    refine Ev.step (fun k => digit_put.l0.eq_2 ..) ?_
    refine Ev.ifn (by omega) (Ev.ifn (by omega) (Ev.same ?_))
    rw [ds_nil (by omega), List.append_nil]
  | succ d ih =>
    intro x n z h0 h1 h2 hx hz hz2
    rw [Int.pow_succ] at h1
    refine Ev.step (fun k => digit_put.l0.eq_2 ..) ?_
    by_cases hn : n > 0
    · obtain ⟨e1, e2⟩ := put_one h0 h2
      have h := ih (x ++ [48 + n % 10]) (n / 10) (z - 1) (by omega) (by omega) (by omega) (by rw [List.length_append]; show x.length + 1 + d ≤ _; omega) (by omega) (by omega)
      rw [List.append_assoc] at h
      rw [e1, e2, w64_id (by omega) (by omega), ds_pos hn]
      exact Ev.ifp hn (Ev.ifp (by omega) h)
    · refine Ev.ifn hn (Ev.ifn (by omega) (Ev.same ?_))
      rw [ds_nil (by omega), List.append_nil]
/-! ### Show -/
theorem digit_Show_rev (m : Nat) : ∀ (X M Y : List Int), M.length ≤ m → X.length + M.length + Y.length ≤ 1000000000 → ∀ j : Int, j = (X.length : Int) + M.length - 1 →
    Ev (fun k => digit_Show.l1 k (X ++ M ++ Y) (X.length : Int) j) (strOfNums (X ++ M.reverse ++ Y)) := by
  have stop : ∀ (X M Y : List Int) (j : Int), M.length ≤ 1 → j = (X.length : Int) + M.length - 1 → Ev (fun k => digit_Show.l1 k (X ++ M ++ Y) (X.length : Int) j) (strOfNums (X ++ M.reverse ++ Y)) := by
    intro X M Y j hm hj
    refine Ev.step (fun k => digit_Show.l1.eq_2 ..) (Ev.ifn (by omega) (Ev.same ?_))
    match M, hm with
    | [], _ => rfl
    | [x], _ => rfl
  induction m using Nat.strongRecOn with
  | ind m ih =>
    intro X M Y hM hl j hj
    rcases Nat.lt_or_ge 1 M.length with h1 | h1
    · obtain ⟨a, T, rfl⟩ : ∃ a T, M = a :: T := by cases M with
        | nil => simp at h1
        | cons a T => exact ⟨a, T, rfl⟩
      have hT : T ≠ [] := fun e => by rw [e] at h1; simp at h1
      obtain ⟨R, b, rfl⟩ : ∃ R b, T = R ++ [b] := ⟨T.dropLast, T.getLast hT, (List.dropLast_concat_getLast hT).symm⟩
      simp only [List.length_cons, List.length_append, List.length_nil] at hM hl hj h1
      have hj2 : j = ((X.length + 1 + R.length : Nat) : Int) := by omega
      subst hj2
      have e0 : X ++ a :: (R ++ [b]) ++ Y = X ++ a :: (R ++ b :: Y) := by simp
      have e0' : X ++ a :: (R ++ b :: Y) = (X ++ a :: R) ++ b :: Y := by simp
      have e1 : rd (X ++ a :: (R ++ b :: Y)) (X.length : Int) = a := rd_mid X a _
      have hXa : (X ++ a :: R).length = X.length + 1 + R.length := by simp; omega
      have e2 : rd (X ++ a :: (R ++ b :: Y)) ((X.length + 1 + R.length : Nat) : Int) = b := by
        rw [e0', ← hXa]; exact rd_mid _ b Y
      have e3 : (X ++ a :: (R ++ b :: Y)).set X.length b = X ++ b :: (R ++ b :: Y) := set_mid X a b _
      have hXb : (X ++ b :: R).length = X.length + 1 + R.length := by simp; omega
      have e4 : (X ++ b :: (R ++ b :: Y)).set (X.length + 1 + R.length) a = (X ++ [b]) ++ R ++ (a :: Y) := by
        have : X ++ b :: (R ++ b :: Y) = (X ++ b :: R) ++ b :: Y := by simp
        rw [this, ← hXb, set_mid]; simp
      have e5 : wrap64 ((X.length : Int) + 1) = ((X ++ [b]).length : Int) := by rw [w64_id (by omega) (by omega), List.length_append]; rfl
      have e6 : wrap64 (((X.length + 1 + R.length : Nat) : Int) - 1) = (((X ++ [b]).length : Int)) + R.length - 1 := by rw [w64_id (by omega) (by omega), List.length_append]; simp
      have hlen : (X ++ a :: (R ++ b :: Y)).length = X.length + R.length + Y.length + 2 := by simp; omega
      have h := ih R.length (by omega) (X ++ [b]) R (a :: Y) (Nat.le_refl _) (by simp; omega) _ rfl
      rw [e0]
      refine Ev.step (fun k => digit_Show.l1.eq_2 ..) ?_
      rw [e1, e2, Int.toNat_natCast, Int.toNat_natCast, e3, e4, e5, e6]
      refine Ev.ifp (by omega) (Ev.ifp (by omega) (Ev.ifp (by omega) (Ev.ifp (by omega) (Ev.ifp (by omega) ?_))))
      refine Ev.eqr h ?_
      congr 1
      simp
    · exact stop X M Y j h1 hj
theorem digit_Show_l0 (c : Nat) : ∀ (n : Int) (x : List Int), 0 ≤ n → n.toNat ≤ c → bl n ≤ 57000000 → x.length + (ds n).length ≤ 100000000 →
    Ev (fun k => digit_Show.l0 k (dg n) x) (strOfNums (if x ++ ds n = [] then [48] else (x ++ ds n).reverse)) := by
  induction c using Nat.strongRecOn with
  | ind c ih =>
    intro n x hn hc hb hx
    have ew := Wl_dg (n := n) (by omega)
    refine Ev.step (fun k => digit_Show.l0.eq_2 ..) ?_
    by_cases h : 0 < n
    · have hl : ((dg n).length : Int) > 0 := by rw [dg_pos h, List.length_cons]; omega
      have hq := quot_Word_c ew (d := 10000000000000000000) (by omega) (by omega)
      rw [nv_dg hn] at hq
      refine Ev.ifp hl (Ev.bind hq ?_)
      dsimp only
      have b0 := bl_pos h
      by_cases hz : n / 10000000000000000000 = 0
      · refine Ev.ifn (by rw [hz, dg_zero]; simp) ?_
        have hp := digit_put_ds 20 x (n % 10000000000000000000) 0 (by omega) (by rw [show (10 : Int) ^ 20 = 100000000000000000000 by decide]; omega) (by omega) (by omega) (by omega) (by omega)
        refine Ev.bind hp ?_
        have e : n % 10000000000000000000 = n := by omega
        have h2 := ih 0 (by omega) 0 (x ++ ds n) (by omega) (by omega) (by rw [bl_zero]; decide) (by
          rw [List.length_append, ds_nil (n := 0) (by omega), List.length_nil]; omega)
        rw [ds_nil (n := 0) (by omega), List.append_nil] at h2
        rw [hz, e]
        exact h2
      · have hqp : 0 < n / 10000000000000000000 := by omega
        refine Ev.ifp (by rw [dg_pos hqp, List.length_cons]; omega) ?_
        have hp := digit_put_fx 19 x (n % 10000000000000000000) (by omega) (by rw [show (10 : Int) ^ 19 = 10000000000000000000 by decide]; omega) (by omega) (by omega)
        refine Ev.bind hp ?_
        have hfl : ∀ (m : Nat) (r : Int), (fx m r).length = m := fun m => by
          induction m with
          | zero => intro r; rfl
          | succ m ihm => intro r; show (fx m (r / 10)).length + 1 = _; rw [ihm]
        have hds := ds_fx 19 (n / 10000000000000000000) (n % 10000000000000000000) hqp (by omega) (by rw [show (10 : Int) ^ 19 = 10000000000000000000 by decide]; omega)
        rw [show (10 : Int) ^ 19 = 10000000000000000000 by decide, show n / 10000000000000000000 * 10000000000000000000 + n % 10000000000000000000 = n by omega] at hds
        have hbq := bl_mono (show n / 10000000000000000000 ≤ n by omega)
        have hln : (ds n).length = 19 + (ds (n / 10000000000000000000)).length := by rw [hds, List.length_append, hfl]
        have h2 := ih (n / 10000000000000000000).toNat (by omega) (n / 10000000000000000000) (x ++ fx 19 (n % 10000000000000000000)) (by omega) (Nat.le_refl _) (by omega) (by rw [List.length_append, hfl]; omega)
        rw [List.append_assoc, ← hds] at h2
        exact h2
    · have hz : n = 0 := by omega
      subst hz
      have hxl : x.length ≤ 100000000 := by omega
      clear hb hx
      refine Ev.ifn (by rw [dg_zero]; simp) ?_
      rw [ds_nil (n := 0) (by omega), List.append_nil]
      by_cases he : x = []
      · subst he
        exact Ev.ifp (by simp) (Ev.same rfl)
      · have hl : x.length ≠ 0 := fun e => he (List.length_eq_zero_iff.1 e)
        refine Ev.ifn (by omega) ?_
        rw [if_neg he, w64_id (by omega) (by omega)]
        have h := digit_Show_rev x.length [] x [] (Nat.le_refl _) (by simp; omega) ((x.length : Int) - 1) (by simp)
        rw [List.nil_append, List.append_nil, List.nil_append, List.append_nil] at h
        exact h
theorem digit_Show_c {a : List Int} (ha : Wl a) (hla : a.length ≤ 100000) : Ev (fun k => digit_Show.f k a) (strOfNums (sh (nv a))) := by
  have na := nv_nonneg ha.1
  have ba := bl_nv ha.1
  have hd := ds_len_le (m := (bl (nv a)).toNat) na (Int.lt_of_lt_of_le (bl_lt (nv a)) (two_ten _))
  have h := digit_Show_l0 _ (nv a) [] na (Nat.le_refl _) (by omega) (by rw [List.length_nil]; omega)
  refine Ev.bind (nat_Trim_c ha) (Ev.eqr h ?_)
  congr 1
  rw [List.nil_append]
  unfold sh
  by_cases hz : nv a ≤ 0
  · rw [if_pos (ds_nil hz), if_pos hz]
  · rw [if_neg (by rw [ds_pos (by omega)]; simp), if_neg hz]
end Go.Proofs.Ytldcgclbgbhffaa.M
