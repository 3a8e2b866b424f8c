/- What reading a text of digits answers. -/
import Derived.Test.YtldcgclbgbhffaaC06
namespace Go.Proofs.Ytldcgclbgbhffaa.M
open Go.RowKit Go.Proofs.Ytldcgclbgbhffaa.P Go.Proofs.YtldcgclbgbhffaaW.PrintWords Go.Proofs.YtldcgclbgbhffaaW.PrintLast Go.Proofs.YtldcgclbgbhffaaW.PrintMore
set_option linter.unusedVariables false

theorem digit_value_l {s : ByteArray} {l : List Int} (hs : byt s = l) (h : Dd l) (hl : l.length ≤ 19) (d : Nat) : ∀ i : Nat, i + d = l.length → Ev (fun k => digit_value.l0 k s (dv (l.take i)) (10 ^ i) (l.length : Int) i) (dv l, 10 ^ l.length) := by
  have hsz : s.size = l.length := by rw [← hs, byt_len]
  induction d with
  | zero =>
    intro i hi
    refine Ev.step (fun k => digit_value.l0.eq_2 ..) (Ev.ifn (by omega) (Ev.same ?_))
    rw [List.take_of_length_le (by omega), show i = l.length by omega]
  | succ d ih =>
    intro i hi
    have hb : bt s (i : Int) = rd l (i : Int) := by rw [bt_byt, hs]
    have hx : 48 ≤ rd l (i : Int) ∧ rd l (i : Int) ≤ 57 := by
      unfold rd
      rw [List.getD_eq_getElem?_getD, Int.toNat_natCast, List.getElem?_eq_getElem (by omega)]
      exact h _ (List.getElem_mem _)
    obtain ⟨r0, r1⟩ := dv_range (Dd_take h i)
    rw [List.length_take, show min i l.length = i by omega] at r1
    have p0 := ten_pos i
    have p1 : (10 : Int) ^ (i + 1) ≤ 10 ^ 19 := ten_le (by omega)
    rw [show (10 : Int) ^ 19 = 10000000000000000000 by decide] at p1
    have p2 : (10 : Int) ^ (i + 1) = 10 ^ i * 10 := Int.pow_succ ..
    have e : wrap64 ((i : Int) + 1) = ((i + 1 : Nat) : Int) := by rw [w64_id (by omega) (by omega)]; omega
    refine Ev.step (fun k => digit_value.l0.eq_2 ..) ?_
    rw [hb, e]
    refine Ev.ifp (by omega) (Ev.ifp (by omega) (Ev.ifp (by omega) ?_))
    have h2 := ih (i + 1) (by omega)
    rw [take_rd (by omega), dv_snoc, p2] at h2
    rw [wu_id (n := 10 * dv (l.take i)) (by omega) (by omega), show (rd l (i : Int) - 48) % 256 = rd l (i : Int) - 48 by omega, wu_id (by omega) (by omega), wu_id (by omega) (by omega)]
    exact h2
theorem digit_value_c {s : ByteArray} (h : Dd (byt s)) (hl : (byt s).length ≤ 19) : Ev (fun k => digit_value.f k s) (dv (byt s), 10 ^ (byt s).length) := by
  have h2 := digit_value_l (s := s) rfl h hl (byt s).length 0 (by omega)
  unfold digit_value.f
  rw [byt_len] at h2 ⊢
  exact h2
theorem bl_ten (m : Nat) : bl ((10 : Int) ^ m) ≤ 4 * m + 1 := by
  have h : (10 : Int) ^ m < 2 ^ (4 * m + 1) := by
    induction m with
    | zero => decide
    | succ m ih =>
      rw [Int.pow_succ, show 4 * (m + 1) + 1 = 4 * m + 1 + 4 by omega, Int.pow_add]
      have : (2 : Int) ^ 4 = 16 := by decide
      have := pow_pos (4 * m + 1)
      omega
  have := bl_le_of h
  omega
theorem digit_Read_l1 {s : ByteArray} {l : List Int} (hs : byt s = l) (h : Dd l) (hl : l.length ≤ 400) (d : Nat) : ∀ i : Nat, i ≤ l.length + 19 → l.length ≤ i + d → Ev (fun k => digit_Read.l1 k s (dg (dv (l.take i))) i) (dg (dv l), 0) := by
  have hsz : s.size = l.length := by rw [← hs, byt_len]
  have hbl : ∀ i : Nat, bl (dv (l.take i)) ≤ 1601 := fun i => by
    obtain ⟨r0, r1⟩ := dv_range (Dd_take h i)
    have h1 := bl_mono (Int.le_of_lt r1)
    have h2 := bl_ten (l.take i).length
    have : (l.take i).length ≤ 400 := by rw [List.length_take]; omega
    omega
  induction d using Nat.strongRecOn with
  | ind d ih =>
    intro i hi hd
    have r0 := (dv_range (Dd_take h i)).1
    have b1 := hbl i
    have w1 := Wl_dg (n := dv (l.take i)) (by omega)
    have k1 := dg_len_bl (dv (l.take i))
    refine Ev.step (fun k => digit_Read.l1.eq_2 ..) ?_
    by_cases hlt : (i : Int) < (s.size : Int)
    · have em : mn (wrap64 ((i : Int) + 19)) (s.size : Int) = ((min (i + 19) l.length : Nat) : Int) := by
        rw [w64_id (by omega) (by omega)]; unfold mn; split <;> omega
      have e : wrap64 ((i : Int) + 19) = ((i + 19 : Nat) : Int) := by rw [w64_id (by omega) (by omega)]; omega
      rw [em, e, Int.toNat_natCast, Int.toNat_natCast]
      clear em e
      have eb : byt (s.extract i (min (i + 19) l.length)) = (l.drop i).take 19 := by
        rw [byt_extract, hs]
        rcases Nat.le_total (i + 19) l.length with h3 | h3
        · rw [Nat.min_eq_left h3, Nat.add_sub_cancel_left]
        · rw [Nat.min_eq_right h3, List.take_of_length_le (by rw [List.length_drop]; omega), List.take_of_length_le (by rw [List.length_drop]; omega)]
      have hv := digit_value_c (s := s.extract i (min (i + 19) l.length)) (by rw [eb]; exact Dd_take (Dd_drop h i) 19) (by rw [eb, List.length_take]; omega)
      rw [eb] at hv
      obtain ⟨v0, v1⟩ := dv_range (Dd_take (Dd_drop h i) 19)
      have hl19 : ((l.drop i).take 19).length ≤ 19 := by rw [List.length_take]; omega
      have p1 := ten_le hl19
      have p0 := ten_pos ((l.drop i).take 19).length
      rw [show (10 : Int) ^ 19 = 10000000000000000000 by decide] at p1
      have u1 : U (10 ^ ((l.drop i).take 19).length) := ⟨Int.le_of_lt p0, Int.lt_of_le_of_lt p1 (by decide)⟩
      have u2 : U (dv ((l.drop i).take 19)) := ⟨v0, Int.lt_trans v1 (Int.lt_of_le_of_lt p1 (by decide))⟩
      clear p0 p1 v0 v1
      have hw := prod_Word_c w1 (by omega) u1 u2
      rw [nv_dg r0, ← dv_app, ← List.take_add] at hw
      refine Ev.ifp hlt (Ev.ifp (by omega) (Ev.ifp (by omega) (Ev.ifp (by omega) (Ev.bind hv (Ev.bind hw ?_)))))
      rcases Nat.lt_or_ge 19 d with h4 | h4
      · exact ih (d - 19) (by omega) (i + 19) (by omega) (by omega)
      · rcases Nat.eq_zero_or_pos d with h5 | h5
        · omega
        · exact ih 0 h5 (i + 19) (by omega) (by omega)
    · refine Ev.ifn hlt ?_
      rw [List.take_of_length_le (by omega)] at *
      have ht := nat_Trim_c w1
      rw [nv_dg r0] at ht
      exact Ev.bind ht (Ev.same rfl)
theorem digit_Read_l0 {s : ByteArray} {l : List Int} (hs : byt s = l) (h : Dd l) (hl : l.length ≤ 400) (d : Nat) : ∀ i : Nat, i + d = l.length → Ev (fun k => digit_Read.l0 k s (l.length : Int) i) (dg (dv l), 0) := by
  have hsz : s.size = l.length := by rw [← hs, byt_len]
  induction d with
  | zero =>
    intro i hi
    have h2 := digit_Read_l1 hs h hl l.length 0 (by omega) (by omega)
    exact Ev.step (fun k => digit_Read.l0.eq_2 ..) (Ev.ifn (by omega) h2)
  | succ d ih =>
    intro i hi
    have hb : bt s (i : Int) = rd l (i : Int) := by rw [bt_byt, hs]
    have hx : 48 ≤ rd l (i : Int) ∧ rd l (i : Int) ≤ 57 := by
      unfold rd
      rw [List.getD_eq_getElem?_getD, Int.toNat_natCast, List.getElem?_eq_getElem (by omega)]
      exact h _ (List.getElem_mem _)
    have e : wrap64 ((i : Int) + 1) = ((i + 1 : Nat) : Int) := by rw [w64_id (by omega) (by omega)]; omega
    refine Ev.step (fun k => digit_Read.l0.eq_2 ..) ?_
    rw [hb, e]
    exact Ev.ifp (by omega) (Ev.ifp (by omega) (Ev.ifp (by omega) (Ev.ifn (by omega) (Ev.ifn (by omega) (ih (i + 1) (by omega))))))
theorem digit_Read_bad {s : ByteArray} {l : List Int} (hs : byt s = l) (hl : l.length ≤ 400) (d : Nat) : ∀ i : Nat, i + d = l.length → ¬ Dd (l.drop i) → Ev (fun k => digit_Read.l0 k s (l.length : Int) i) ([], 2) := by
  have hsz : s.size = l.length := by rw [← hs, byt_len]
  induction d with
  | zero =>
    intro i hi hn
    rw [List.drop_eq_nil_of_le (by omega)] at hn
    exact absurd Dd_nil hn
  | succ d ih =>
    intro i hi hn
    have hb : bt s (i : Int) = rd l (i : Int) := by rw [bt_byt, hs]
    rw [drop_rd (by omega), Dd_cons] at hn
    have e : wrap64 ((i : Int) + 1) = ((i + 1 : Nat) : Int) := by rw [w64_id (by omega) (by omega)]; omega
    refine Ev.step (fun k => digit_Read.l0.eq_2 ..) ?_
    rw [hb, e]
    refine Ev.ifp (by omega) (Ev.ifp (by omega) (Ev.ifp (by omega) ?_))
    by_cases c1 : rd l (i : Int) < 48
    · exact Ev.ifp c1 (Ev.same rfl)
    · by_cases c2 : rd l (i : Int) > 57
      · exact Ev.ifn c1 (Ev.ifp c2 (Ev.same rfl))
      · exact Ev.ifn c1 (Ev.ifn c2 (ih (i + 1) (by omega) (fun hd => hn ⟨by omega, hd⟩)))
theorem toList_nil (s : ByteArray) : s.toList = [] ↔ byt s = [] := by
  rw [ByteArray.toList_eq]; unfold byt; rw [List.map_eq_nil_iff]
theorem digit_Read_long {s : ByteArray} (h : (s.size : Int) > 400) : Ev (fun k => digit_Read.f k s) ([], 3) := Ev.ifp h (Ev.same rfl)
/-- The way to the digits: what the two tests ahead of them tell. -/
theorem digit_Read_f {s : ByteArray} {l : List Int} (hs : byt s = l) (hl : l.length ≤ 400) {r : List Int × Int} (go : (l ≠ [] ∧ (1 < l.length → rd l 0 ≠ 48)) → Ev (fun k => digit_Read.l0 k s (l.length : Int) 0) r) (no : ¬ (l ≠ [] ∧ (1 < l.length → rd l 0 ≠ 48)) → r = ([], 2)) :
    Ev (fun k => digit_Read.f k s) r := by
  have hsz : s.size = l.length := by rw [← hs, byt_len]
  have hb : bt s 0 = rd l 0 := by have := bt_byt s 0; rw [hs] at this; exact this
  have jt : ¬ (l ≠ [] ∧ (1 < l.length → rd l 0 ≠ 48)) → Ev (fun k => digit_Read.j0 k s true) r := fun h => by
    rw [no h]
    exact Ev.step (fun k => digit_Read.j0.eq_2 ..) (Ev.ifp rfl (Ev.same rfl))
  have jf : (l ≠ [] ∧ (1 < l.length → rd l 0 ≠ 48)) → Ev (fun k => digit_Read.j0 k s false) r := fun h => by
    refine Ev.step (fun k => digit_Read.j0.eq_2 ..) (Ev.ifn (by decide) ?_)
    rw [hsz]
    exact go h
  refine Ev.ifn (by omega) ?_
  by_cases h1 : l = []
  · exact Ev.ifp ((toList_nil s).2 (hs.trans h1)) (jt (fun h => h.1 h1))
  · refine Ev.ifn (fun h => h1 (hs.symm.trans ((toList_nil s).1 h))) ?_
    by_cases h2 : (s.size : Int) > 1
    · refine Ev.ifp h2 (Ev.ifp (by omega) ?_)
      rw [hb]
      by_cases h3 : rd l 0 = 48
      · rw [show (rd l 0 == 48) = true by rw [beq_iff_eq]; exact h3]
        exact jt (fun h => h.2 (by omega) h3)
      · rw [show (rd l 0 == 48) = false by rw [beq_eq_false_iff_ne]; exact h3]
        exact jf ⟨h1, fun _ => h3⟩
    · exact Ev.ifn h2 (jf ⟨h1, fun h => by omega⟩)
theorem digit_Read_yes {s : ByteArray} (h : Tx (byt s)) (hl : (byt s).length ≤ 400) : Ev (fun k => digit_Read.f k s) (dg (dv (byt s)), 0) :=
  digit_Read_f rfl hl (fun _ => digit_Read_l0 rfl h.1 hl (byt s).length 0 (by omega)) (fun h2 => absurd ⟨h.2.1, h.2.2⟩ h2)
theorem digit_Read_no {s : ByteArray} (h : ¬ Tx (byt s)) (hl : (byt s).length ≤ 400) : Ev (fun k => digit_Read.f k s) ([], 2) :=
  digit_Read_f rfl hl (fun h2 => digit_Read_bad rfl hl (byt s).length 0 (by omega) (fun hd => h ⟨by rwa [List.drop_zero] at hd, h2.1, h2.2⟩)) (fun _ => rfl)
end Go.Proofs.Ytldcgclbgbhffaa.M
