/- What the functions of nat answer: on lists of words, by the numbers that these are. -/
import Derived.Test.YtldcgclbgbhffaaC01
import Derived.Test.YtldcgclbgbhffaaBnat
import Derived.Test.YtldcgclbgbhffaaBgradineplain
namespace Go.Proofs.Ytldcgclbgbhffaa.M
open Go.RowKit Go.Proofs.Ytldcgclbgbhffaa.P Go.Proofs.YtldcgclbgbhffaaW.PrintWords Go.Proofs.YtldcgclbgbhffaaW.PrintLast Go.Proofs.YtldcgclbgbhffaaW.PrintMore
set_option linter.unusedVariables false

theorem Cn_take {l : List Int} {n : Nat} (h : n < l.length) (hr : rd l (n : Int) ≠ 0) : Cn (l.take (n + 1)) := by
  rw [take_rd h]
  exact .inr (by rw [List.getLast?_append]; simpa using hr)
theorem dg_take {l : List Int} (h : Ws l) {n : Nat} (hn : n < l.length) (hr : rd l (n : Int) ≠ 0) (he : nv (l.take (n + 1)) = nv l) : dg (nv l) = l.take (n + 1) := by
  rw [← he, dg_nv (Ws_take h _) (Cn_take hn hr)]
theorem nat_size_l {l : List Int} (h : Wl l) (n : Nat) : n ≤ l.length → nv (l.take n) = nv l → Ev (fun k => nat_size.l0 k l n) ((dg (nv l)).length : Int) := by
  obtain ⟨hw, hl⟩ := h
  induction n with
  | zero =>
    intro hn he
    refine Ev.step (fun k => nat_size.l0.eq_2 ..) ?_
    refine Ev.ifn (by omega) (Ev.same ?_)
    rw [← he]
    rfl
  | succ n ih =>
    intro hn he
    have e : wrap64 (((n + 1 : Nat) : Int) - 1) = (n : Int) := by rw [w64_id (by omega) (by omega)]; omega
    refine Ev.step (fun k => nat_size.l0.eq_2 ..) ?_
    refine Ev.ifp (by omega) ?_
    rw [e]
    refine Ev.ifp (by omega) (Ev.ifp (by omega) ?_)
    by_cases hr : rd l (n : Int) = 0
    · refine Ev.ifp hr (ih (by omega) ?_)
      rw [← he, nv_take_succ (by omega), hr, Int.mul_zero, Int.add_zero]
    · refine Ev.ifn hr (Ev.same ?_)
      rw [dg_take hw (by omega) hr he, List.length_take, Nat.min_eq_left (by omega)]
theorem nat_size_c {l : List Int} (h : Wl l) : Ev (fun k => nat_size.f k l) ((dg (nv l)).length : Int) :=
  nat_size_l h l.length (Nat.le_refl _) (by rw [List.take_length])
/-- A list's first words are its number's. -/
theorem dg_prefix {l : List Int} (h : Ws l) : ∃ r, l = dg (nv l) ++ r ∧ nv r = 0 := by
  have key : ∀ n, n ≤ l.length → nv (l.take n) = nv l → l.take (dg (nv l)).length = dg (nv l) := by
    intro n
    induction n with
    | zero => intro _ he; rw [← he]; rfl
    | succ n ih =>
      intro hn he
      by_cases hr : rd l (n : Int) = 0
      · refine ih (by omega) ?_
        rw [← he, nv_take_succ (by omega), hr, Int.mul_zero, Int.add_zero]
      · rw [dg_take h (by omega) hr he, List.length_take, Nat.min_eq_left (by omega)]
  have h1 := key l.length (Nat.le_refl _) (by rw [List.take_length])
  refine ⟨l.drop (dg (nv l)).length, ?_, ?_⟩
  · conv => rhs; lhs; rw [← h1]
    rw [List.take_append_drop]
  · have h2 := nv_split l (dg (nv l)).length
    rw [h1, nv_dg (nv_nonneg h)] at h2
    have h3 := Wp_pos (min (dg (nv l)).length l.length)
    have h4 : Wp (min (dg (nv l)).length l.length) * nv (l.drop (dg (nv l)).length) = 0 := by omega
    rcases Int.mul_eq_zero.1 h4 with h5 | h5
    · omega
    · exact h5
theorem dg_len_list {l : List Int} (h : Ws l) : (dg (nv l)).length ≤ l.length := dg_len_le (nv_lt h)
theorem take_dg {l : List Int} (h : Ws l) : l.take (dg (nv l)).length = dg (nv l) := by
  obtain ⟨r, hr, _⟩ := dg_prefix h
  conv => lhs; rhs; rw [hr]
  simp
theorem rd_dg {l : List Int} (h : Ws l) (i : Int) : rd l i = rd (dg (nv l)) i := by
  obtain ⟨r, hr, hz⟩ := dg_prefix h
  have hrz : ∀ (r : List Int), Ws r → nv r = 0 → ∀ j, r.getD j 0 = 0 := by
    intro r
    induction r with
    | nil => intro _ _ j; simp
    | cons x r ih =>
      intro hw h0 j
      have h1 := Ws_cons.1 hw
      have h2 := nv_nonneg h1.2
      unfold U at h1
      rw [nv_cons] at h0
      cases j with
      | zero => simp; omega
      | succ j => simpa using ih h1.2 (by omega) j
  have hwr : Ws r := (Ws_app.1 (hr ▸ h)).2
  unfold rd
  conv => lhs; rw [hr]
  rw [List.getD_eq_getElem?_getD, List.getD_eq_getElem?_getD]
  rcases Nat.lt_or_ge i.toNat (dg (nv l)).length with hi | hi
  · rw [List.getElem?_append_left hi]
  · rw [List.getElem?_append_right hi, List.getElem?_eq_none hi, ← List.getD_eq_getElem?_getD, hrz r hwr hz]
    rfl
theorem nat_Trim_c {l : List Int} (h : Wl l) : Ev (fun k => nat_Trim.f k l) (dg (nv l)) := by
  obtain ⟨hw, hl⟩ := h
  have hd := dg_len_list hw
  refine Ev.bindc rfl ?_
  refine Ev.bind (nat_size_c ⟨hw, hl⟩) ?_
  rw [Int.toNat_natCast, take_dg hw]
  refine Ev.ifp (by omega) (Ev.ifp (by omega) (Ev.ifp (by rw [List.length_nil]; omega) ?_))
  exact Ev.same (by rw [List.nil_append])
theorem nat_Of_c {x : Int} (h : U x) : Ev (fun k => nat_Of.f k x) (dg x) := by
  have := nat_Trim_c (l := [x]) ⟨Ws_one h, by simp⟩
  rw [nv_one] at this
  exact Ev.bind this (Ev.same rfl)
theorem nat_Right_c {l : List Int} (h : Wl l) : nat_Right.f l = some (decide (dg (nv l) = l)) := by
  obtain ⟨hw, hl⟩ := h
  unfold nat_Right.f
  by_cases h0 : (l.length : Int) = 0
  · rw [if_pos h0]
    have : l = [] := List.eq_nil_of_length_eq_zero (by omega)
    subst this
    rfl
  · have e : wrap64 ((l.length : Int) - 1) = ((l.length - 1 : Nat) : Int) := by rw [w64_id (by omega) (by omega)]; omega
    have hln : l.length - 1 + 1 = l.length := by omega
    rw [if_neg h0, e, if_pos (by omega), if_pos (by omega)]
    congr 1
    by_cases hr : rd l ((l.length - 1 : Nat) : Int) = 0
    · rw [hr]
      have hne : dg (nv l) ≠ l := by
        intro hd
        have hc := dg_Cn (nv_nonneg hw)
        rw [hd] at hc
        have h1 := take_rd (l := l) (i := l.length - 1) (by omega)
        rw [hln, List.take_length, hr] at h1
        rcases hc with hc | hc
        · rw [hc] at h0; exact h0 rfl
        · rw [h1] at hc; simp at hc
      simp [hne]
    · have := dg_take hw (n := l.length - 1) (by omega) hr (by rw [hln, List.take_length])
      rw [hln, List.take_length] at this
      simp [this, hr]
theorem dg_word {n : Int} (h : U n) : dg n = if n = 0 then [] else [n] := by
  unfold U at h
  split
  · rename_i h0; rw [h0]; rfl
  · rw [dg_pos (by omega), show n / 18446744073709551616 = 0 by omega, dg_zero, show n % 18446744073709551616 = n by omega]
theorem dg_len_zero {n : Int} (h : 0 ≤ n) : (dg n).length = 0 ↔ n = 0 := by
  constructor
  · intro h1
    have := nv_dg h
    rw [List.eq_nil_of_length_eq_zero h1] at this
    exact this.symm
  · intro h1; rw [h1]; rfl
theorem nat_Word_c {l : List Int} (h : Wl l) : Ev (fun k => nat_Word.f k l) (if nv l < 18446744073709551616 then (nv l, true) else (0, false)) := by
  obtain ⟨hw, hl⟩ := h
  have hn := nv_nonneg hw
  refine Ev.bind (nat_size_c ⟨hw, hl⟩) ?_
  by_cases h0 : nv l = 0
  · have h1 : (dg (nv l)).length = 0 := (dg_len_zero hn).2 h0
    refine Ev.ifp (by omega) (Ev.same ?_)
    rw [h0, if_pos (by omega)]
  · have h1 : (dg (nv l)).length ≠ 0 := fun h => h0 ((dg_len_zero hn).1 h)
    refine Ev.ifn (by omega) ?_
    by_cases h2 : nv l < 18446744073709551616
    · have hd := dg_word (n := nv l) ⟨hn, h2⟩
      rw [if_neg h0] at hd
      rw [if_pos h2]
      refine Ev.ifp (by rw [hd]; rfl) (Ev.ifp ?_ (Ev.same ?_))
      · have := dg_len_list hw; rw [hd] at this; simp at this; omega
      · rw [rd_dg hw, hd]; rfl
    · rw [if_neg h2]
      refine Ev.ifn ?_ (Ev.same rfl)
      have := le_dg_len (n := nv l) (m := 1) (by show (18446744073709551616 : Int) ^ 1 ≤ _; omega)
      omega

def cmpI (x y : Int) : Int := if x < y then -1 else if y < x then 1 else 0
theorem cmpI_lt {x y : Int} (h : x < y) : cmpI x y = -1 := by unfold cmpI; rw [if_pos h]
theorem cmpI_gt {x y : Int} (h : y < x) : cmpI x y = 1 := by unfold cmpI; rw [if_neg (by omega), if_pos h]
theorem cmpI_eq (x : Int) : cmpI x x = 0 := by unfold cmpI; rw [if_neg (by omega), if_neg (by omega)]
theorem cmpI_eq0 {x y : Int} : cmpI x y = 0 ↔ x = y := by unfold cmpI; split <;> (try split) <;> omega
theorem cmpI_neg {x y : Int} : cmpI x y < 0 ↔ x < y := by unfold cmpI; split <;> (try split) <;> omega
theorem cmpI_pos {x y : Int} : 0 < cmpI x y ↔ y < x := by unfold cmpI; split <;> (try split) <;> omega
/-- The higher words decide. -/
theorem take_lt {a b : List Int} (ha : Ws a) (hb : Ws b) {i : Nat} (h1 : i < a.length) (h2 : i < b.length) (hlt : rd a (i : Int) < rd b (i : Int)) : nv (a.take (i + 1)) < nv (b.take (i + 1)) := by
  rw [nv_take_succ h1, nv_take_succ h2]
  have c1 := nv_lt (Ws_take ha i)
  have c2 := nv_nonneg (Ws_take hb i)
  rw [List.length_take, Nat.min_eq_left (by omega)] at c1
  have c3 := Wp_pos i
  have c4 := Int.mul_le_mul_of_nonneg_left (show rd a (i : Int) + 1 ≤ rd b (i : Int) by omega) (Int.le_of_lt c3)
  rw [Int.mul_add, Int.mul_one] at c4
  omega
theorem nat_Cmp_l {a b : List Int} (ha : Wl a) (hb : Wl b) (n : Nat) : n ≤ a.length → n ≤ b.length → Ev (fun k => nat_Cmp.l0 k a b ((n : Int) - 1)) (cmpI (nv (a.take n)) (nv (b.take n))) := by
  obtain ⟨haw, hal⟩ := ha
  obtain ⟨hbw, hbl⟩ := hb
  induction n with
  | zero =>
    intro _ _
    refine Ev.step (fun k => nat_Cmp.l0.eq_2 ..) ?_
    exact Ev.ifn (by omega) (Ev.same rfl)
  | succ n ih =>
    intro h1 h2
    have e : ((n + 1 : Nat) : Int) - 1 = (n : Int) := by omega
    rw [e]
    refine Ev.step (fun k => nat_Cmp.l0.eq_2 ..) ?_
    refine Ev.ifp (by omega) (Ev.ifp (by omega) (Ev.ifp (by omega) (Ev.ifp (by omega) ?_)))
    by_cases c1 : rd a (n : Int) < rd b (n : Int)
    · exact Ev.ifp c1 (Ev.same (by rw [cmpI_lt (take_lt haw hbw (by omega) (by omega) c1)]))
    · refine Ev.ifn c1 ?_
      by_cases c2 : rd a (n : Int) > rd b (n : Int)
      · exact Ev.ifp c2 (Ev.same (by rw [cmpI_gt (take_lt hbw haw (by omega) (by omega) c2)]))
      · refine Ev.ifn c2 ?_
        rw [w64_id (by omega) (by omega)]
        have e2 : rd a (n : Int) = rd b (n : Int) := by omega
        refine (ih (by omega) (by omega)).eqr ?_
        rw [nv_take_succ (by omega), nv_take_succ (by omega), e2]
        unfold cmpI
        split <;> split <;> first | omega | (split <;> first | omega | (split <;> omega))
theorem nv_take_dg {l : List Int} (h : Ws l) : nv (l.take (dg (nv l)).length) = nv l := by rw [take_dg h, nv_dg (nv_nonneg h)]
theorem len_lt_nv {x y : Int} (hx : 0 ≤ x) (hy : 0 ≤ y) (h : (dg x).length < (dg y).length) : x < y := by
  have h1 := lt_Wp_dg hx
  have h2 := dg_len_lt (n := y) (by
    rcases (show y = 0 ∨ 0 < y by omega) with h0 | h0
    · rw [h0, dg_zero] at h; simp at h
    · exact h0)
  have := Wp_le (show (dg x).length ≤ (dg y).length - 1 by omega)
  omega
theorem nat_Cmp_c {a b : List Int} (ha : Wl a) (hb : Wl b) : Ev (fun k => nat_Cmp.f k a b) (cmpI (nv a) (nv b)) := by
  have hla := dg_len_list ha.1
  have hlb := dg_len_list hb.1
  refine Ev.bind (nat_size_c ha) (Ev.bind (nat_size_c hb) ?_)
  by_cases h : (dg (nv a)).length = (dg (nv b)).length
  · refine Ev.ifp (by omega) ?_
    have hl := ha.2
    rw [w64_id (by omega) (by omega)]
    refine (nat_Cmp_l ha hb (dg (nv a)).length hla (by omega)).eqr ?_
    rw [nv_take_dg ha.1]
    conv => lhs; rhs; rw [h]
    rw [nv_take_dg hb.1]
  · refine Ev.ifn (by omega) ?_
    rcases Nat.lt_or_ge (dg (nv a)).length (dg (nv b)).length with h1 | h1
    · exact Ev.ifp (by omega) (Ev.same (by rw [cmpI_lt (len_lt_nv (nv_nonneg ha.1) (nv_nonneg hb.1) h1)]))
    · exact Ev.ifn (by omega) (Ev.same (by rw [cmpI_gt (len_lt_nv (nv_nonneg hb.1) (nv_nonneg ha.1) (by omega))]))

/-! ### Sums and differences -/
theorem take_zero_of_ge {b : List Int} {i : Nat} (h : b.length ≤ i) : b.take (i + 1) = b.take i := by rw [List.take_of_length_le (by omega), List.take_of_length_le (by omega)]
theorem Wl_snoc {a : List Int} {x : Int} (ha : Ws a) (hx : U x) : Ws (a ++ [x]) := Ws_app.2 ⟨ha, Ws_one hx⟩
/-- One loop of a sum; both of the program's say the same. -/
theorem nat_Add_end {out : List Int} {over : Int} (h : Wl (out ++ [over])) (hl : out.length ≤ 999999999) : Ev (fun k => if out.length < 17592186044416 then ((nat_Trim.f k (out ++ [over])).bind fun t183 => (some t183)) else (none)) (dg (nv out + Wp out.length * over)) := by
  refine Ev.ifp (by omega) ?_
  rw [← nv_snoc]
  exact Ev.bind (nat_Trim_c h) (Ev.same rfl)
theorem nat_Add_l0 {a b : List Int} (ha : Wl a) (hb : Wl b) (hlb : b.length ≤ a.length) (hla : a.length ≤ 999999999) (d : Nat) : ∀ (i : Nat) (out : List Int) (over : Int), i + d = a.length → out.length = i → Ws out → 0 ≤ over → over ≤ 1 → nv out + Wp i * over = nv (a.take i) + nv (b.take i) →
    Ev (fun k => nat_Add.l0 k b out over a (a.length : Int) i) (dg (nv a + nv b)) := by
  induction d with
  | zero =>
    intro i out over hi hlo hwo h0 h1 he
    refine Ev.step (fun k => nat_Add.l0.eq_2 ..) ?_
    refine Ev.ifn (by omega) ?_
    rw [List.take_of_length_le (by omega), List.take_of_length_le (by omega)] at he
    rw [← he, ← hlo]
    exact nat_Add_end ⟨Wl_snoc hwo (by unfold U; omega), by simp; omega⟩ (by omega)
  | succ d ih =>
    intro i out over hi hlo hwo h0 h1 he
    have hx := U_rd ha.1 (i : Int)
    refine Ev.step (fun k => nat_Add.l0.eq_2 ..) ?_
    refine Ev.ifp (by omega) (Ev.ifp (by omega) (Ev.ifp (by omega) ?_))
    have fin : ∀ y : Int, U y → nv (b.take (i + 1)) = nv (b.take i) + Wp i * y → Ev (fun k => (limb_Add.f (rd a (i : Int)) y over).bind fun bt170 => (if out.length < 17592186044416 then (nat_Add.l0 k b (out ++ [bt170.1]) bt170.2 a (a.length : Int) (wrap64 ((i : Int) + 1))) else (none))) (dg (nv a + nv b)) := by
      intro y hy hby
      refine Ev.bindc (limb_Add_c hx hy (by unfold U; omega)) ?_
      dsimp only
      refine Ev.ifp (by omega) ?_
      have e : wrap64 ((i : Int) + 1) = ((i + 1 : Nat) : Int) := by rw [w64_id (by omega) (by omega)]; omega
      rw [e]
      unfold U at hx hy
      refine ih (i + 1) _ _ (by omega) (by simp; omega) (Wl_snoc hwo (by unfold U; omega)) (by omega) (by omega) ?_
      rw [nv_snoc, hlo, nv_take_succ (l := a) (by omega), hby, Wp_succ]
      have hs : (rd a (i : Int) + y + over) = 18446744073709551616 * ((rd a (i : Int) + y + over) / 18446744073709551616) + (rd a (i : Int) + y + over) % 18446744073709551616 := by omega
      generalize (rd a (i : Int) + y + over) / 18446744073709551616 = q at *
      generalize (rd a (i : Int) + y + over) % 18446744073709551616 = r at *
      generalize rd a (i : Int) = x at *
      have : over = 18446744073709551616 * q + r - x - y := by omega
      rw [this] at he
      grind
    by_cases hib : (i : Int) < (b.length : Int)
    · exact Ev.ifp hib (fin _ (U_rd hb.1 _) (nv_take_succ (by omega)))
    · refine Ev.ifn hib (fin 0 (by unfold U; omega) ?_)
      rw [take_zero_of_ge (by omega), Int.mul_zero, Int.add_zero]
theorem nat_Add_l01 (a b out : List Int) : ∀ (k : Nat) (over len i : Int), nat_Add.l1 k b out over a len i = nat_Add.l0 k b out over a len i := by
  intro k
  induction k generalizing out with
  | zero => intros; rfl
  | succ k ih => intros; simp only [nat_Add.l0, nat_Add.l1, ih]
theorem nat_Add_c {a b : List Int} (ha : Wl a) (hb : Wl b) (hla : a.length ≤ 999999999) (hlb : b.length ≤ 999999999) : Ev (fun k => nat_Add.f k a b) (dg (nv a + nv b)) := by
  by_cases h : (a.length : Int) < (b.length : Int)
  · refine Ev.ifp h ?_
    rw [w64_id (by omega) (by omega)]
    refine Ev.ifp (by omega) (Ev.ifp (by omega) ?_)
    rw [Int.add_comm]
    exact nat_Add_l0 hb ha (by omega) hlb b.length 0 [] 0 (by omega) rfl Ws_nil (by omega) (by omega) rfl
  · refine Ev.ifn h ?_
    rw [w64_id (by omega) (by omega)]
    refine Ev.ifp (by omega) (Ev.ifp (by omega) ?_)
    exact Ev.congr (fun k => nat_Add_l01 ..) (nat_Add_l0 ha hb (by omega) hla a.length 0 [] 0 (by omega) rfl Ws_nil (by omega) (by omega) rfl)
theorem nat_Sub_l0 {a b : List Int} (ha : Wl a) (hb : Wl b) (hge : nv b ≤ nv a) (d : Nat) : ∀ (i : Nat) (out : List Int) (under : Int), i + d = a.length → out.length = i → Ws out → 0 ≤ under → under ≤ 1 → nv out - Wp i * under = nv (a.take i) - nv (b.take i) →
    Ev (fun k => nat_Sub.l0 k b out under a (a.length : Int) i) (dg (nv a - nv b), true) := by
  have hal := ha.2
  induction d with
  | zero =>
    intro i out under hi hlo hwo h0 h1 he
    refine Ev.step (fun k => nat_Sub.l0.eq_2 ..) ?_
    refine Ev.ifn (by omega) ?_
    have hi2 : i = a.length := by omega
    subst hi2
    rw [List.take_length] at he
    have hb2 := nv_split b a.length
    have hn1 := nv_nonneg hwo
    have hn2 := nv_lt hwo
    rw [hlo] at hn2
    have hn3 := nv_nonneg (Ws_take hb.1 a.length)
    have hn4 := nv_nonneg (Ws_drop hb.1 a.length)
    have hn5 := nv_lt ha.1
    have hp := Wp_pos a.length
    -- what is above a's words is 0
    have hz : Wp (min a.length b.length) * nv (b.drop a.length) = 0 := by
      rcases Nat.lt_or_ge a.length b.length with hlt | hgt
      · rw [Nat.min_eq_left (by omega)] at hb2 ⊢
        rcases (show nv (b.drop a.length) = 0 ∨ 1 ≤ nv (b.drop a.length) by omega) with h | h
        · rw [h, Int.mul_zero]
        · have := Int.mul_le_mul_of_nonneg_left h (Int.le_of_lt hp)
          omega
      · rw [List.drop_eq_nil_of_le hgt]; simp [nv]
    have hu : under = 0 := by
      rcases (show under = 0 ∨ under = 1 by omega) with h | h
      · exact h
      · subst h; omega
    subst hu
    have e : nv a - nv b = nv out := by omega
    rw [e]
    exact Ev.bind (nat_Trim_c ⟨hwo, by omega⟩) (Ev.same rfl)
  | succ d ih =>
    intro i out under hi hlo hwo h0 h1 he
    have hx := U_rd ha.1 (i : Int)
    refine Ev.step (fun k => nat_Sub.l0.eq_2 ..) ?_
    refine Ev.ifp (by omega) (Ev.ifp (by omega) (Ev.ifp (by omega) ?_))
    have fin : ∀ y : Int, U y → nv (b.take (i + 1)) = nv (b.take i) + Wp i * y → Ev (fun k => (limb_Sub.f (rd a (i : Int)) y under).bind fun bt170 => (if out.length < 17592186044416 then (nat_Sub.l0 k b (out ++ [bt170.1]) bt170.2 a (a.length : Int) (wrap64 ((i : Int) + 1))) else (none))) (dg (nv a - nv b), true) := by
      intro y hy hby
      refine Ev.bindc (limb_Sub_c hx hy (by unfold U; omega)) ?_
      dsimp only
      refine Ev.ifp (by omega) ?_
      have e : wrap64 ((i : Int) + 1) = ((i + 1 : Nat) : Int) := by rw [w64_id (by omega) (by omega)]; omega
      rw [e]
      have hna := nv_take_succ (l := a) (i := i) (by omega)
      unfold U at hx hy
      have hs : (rd a (i : Int) - y - under) = 18446744073709551616 * ((rd a (i : Int) - y - under) / 18446744073709551616) + (rd a (i : Int) - y - under) % 18446744073709551616 := by omega
      have hr0 : 0 ≤ (rd a (i : Int) - y - under) % 18446744073709551616 := by omega
      have hr1 : (rd a (i : Int) - y - under) % 18446744073709551616 < 18446744073709551616 := by omega
      have hq0 : 0 ≤ -((rd a (i : Int) - y - under) / 18446744073709551616) := by omega
      have hq1 : -((rd a (i : Int) - y - under) / 18446744073709551616) ≤ 1 := by omega
      generalize (rd a (i : Int) - y - under) / 18446744073709551616 = q at *
      generalize (rd a (i : Int) - y - under) % 18446744073709551616 = r at *
      generalize rd a (i : Int) = x at *
      have hl1 : (out ++ [r]).length = i + 1 := by rw [List.length_append, hlo]; rfl
      refine ih (i + 1) (out ++ [r]) (-q) (by omega) hl1 (Wl_snoc hwo ⟨hr0, hr1⟩) hq0 hq1 ?_
      rw [nv_snoc, hlo, hna, hby, Wp_succ]
      have : under = x - y - 18446744073709551616 * q - r := by omega
      rw [this] at he
      grind
    by_cases hib : (i : Int) < (b.length : Int)
    · exact Ev.ifp hib (fin _ (U_rd hb.1 _) (nv_take_succ (by omega)))
    · refine Ev.ifn hib (fin 0 (by unfold U; omega) ?_)
      rw [take_zero_of_ge (by omega), Int.mul_zero, Int.add_zero]
theorem nat_Sub_c {a b : List Int} (ha : Wl a) (hb : Wl b) (hge : nv b ≤ nv a) : Ev (fun k => nat_Sub.f k a b) (dg (nv a - nv b), true) := by
  have hal := ha.2
  refine Ev.bind (nat_Cmp_c ha hb) ?_
  refine Ev.ifn (by rw [cmpI_neg]; omega) (Ev.ifp (by omega) (Ev.ifp (by omega) ?_))
  exact nat_Sub_l0 ha hb hge a.length 0 [] 0 (by omega) rfl Ws_nil (by omega) (by omega) rfl
theorem nat_Sub_no {a b : List Int} (ha : Wl a) (hb : Wl b) (hlt : nv a < nv b) : Ev (fun k => nat_Sub.f k a b) ([], false) := by
  refine Ev.bind (nat_Cmp_c ha hb) ?_
  exact Ev.ifp (by rw [cmpI_neg]; omega) (Ev.same rfl)
end Go.Proofs.Ytldcgclbgbhffaa.M
