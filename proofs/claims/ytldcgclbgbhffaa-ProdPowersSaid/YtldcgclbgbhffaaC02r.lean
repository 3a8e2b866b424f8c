/- What the reference's functions for natural numbers answer: by half words, the same numbers. -/
import Derived.Test.YtldcgclbgbhffaaC02b
import Derived.Test.YtldcgclbgbhffaaBgradineref02
namespace Go.Proofs.Ytldcgclbgbhffaa.M
open Go.RowKit Go.Proofs.Ytldcgclbgbhffaa.P Go.Proofs.YtldcgclbgbhffaaW.PrintWords Go.Proofs.YtldcgclbgbhffaaW.PrintLast Go.Proofs.YtldcgclbgbhffaaW.PrintMore
set_option linter.unusedVariables false

theorem ref02_Size_eq (l : List Int) : ∀ (k : Nat) (i : Int), gradineref02_Size.l0 k l i = nat_size.l0 k l i := by
  intro k
  induction k with
  | zero => intros; rfl
  | succ k ih => intros; simp only [gradineref02_Size.l0, nat_size.l0, ih]
theorem ref02_Size_c {l : List Int} (h : Wl l) : Ev (fun k => gradineref02_Size.f k l) ((dg (nv l)).length : Int) := Ev.congr (fun k => ref02_Size_eq ..) (nat_size_c h)
theorem ref02_Trim_l {l : List Int} (hl : l.length ≤ 1000000000) {n : Nat} (hn : n ≤ l.length) (d : Nat) : ∀ i : Nat, i + d = n → Ev (fun k => gradineref02_Trim.l0 k l (l.take i) (n : Int) i) (l.take n) := by
  induction d with
  | zero =>
    intro i hi
    refine Ev.step (fun k => gradineref02_Trim.l0.eq_2 ..) ?_
    obtain rfl : i = n := by omega
    exact Ev.ifn (by omega) (Ev.same rfl)
  | succ d ih =>
    intro i hi
    have e : wrap64 ((i : Int) + 1) = ((i + 1 : Nat) : Int) := by rw [w64_id (by omega) (by omega)]; omega
    refine Ev.step (fun k => gradineref02_Trim.l0.eq_2 ..) ?_
    refine Ev.ifp (by omega) (Ev.ifp (by omega) (Ev.ifp (by omega) (Ev.ifp (by rw [List.length_take]; omega) ?_)))
    rw [e, ← take_rd (by omega)]
    exact ih (i + 1) (by omega)
theorem ref02_Trim_c {l : List Int} (h : Wl l) : Ev (fun k => gradineref02_Trim.f k l) (dg (nv l)) := by
  have h1 := dg_len_list h.1
  refine Ev.bind (ref02_Size_c h) ?_
  have := ref02_Trim_l h.2 h1 (dg (nv l)).length 0 (by omega)
  rw [take_dg h.1] at this
  exact this
theorem ref02_Right_c {l : List Int} (h : Wl l) : Ev (fun k => gradineref02_Right.f k l) (decide (dg (nv l) = l)) := by
  refine Ev.bind (ref02_Size_c h) (Ev.same ?_)
  have h1 := take_dg h.1
  by_cases he : (dg (nv l)).length = l.length
  · rw [he, List.take_length] at h1
    simp [← h1]
  · have : dg (nv l) ≠ l := fun e => he (by rw [e])
    simp [this]; omega
theorem rd_out {l : List Int} {i : Nat} (h : l.length ≤ i) : rd l (i : Int) = 0 := by
  unfold rd
  rw [List.getD_eq_getElem?_getD, Int.toNat_natCast, List.getElem?_eq_none h]
  rfl
theorem ref02_at_c (l : List Int) (i : Nat) : gradineref02_at.f l (i : Int) = some (rd l (i : Int)) := by
  unfold gradineref02_at.f
  rw [if_neg (by omega)]
  by_cases h : (i : Int) ≥ (l.length : Int)
  · rw [if_pos h, rd_out (by omega)]
  · rw [if_neg h, if_pos (by omega), if_pos (by omega)]
theorem nv_take_next (l : List Int) (i : Nat) : nv (l.take (i + 1)) = nv (l.take i) + Wp i * rd l (i : Int) := by
  rcases Nat.lt_or_ge i l.length with h | h
  · exact nv_take_succ h
  · rw [rd_out h, take_zero_of_ge h, Int.mul_zero, Int.add_zero]
theorem nv_take_lt {l : List Int} (h : Ws l) (i : Nat) : nv (l.take i) < Wp i := by
  have h1 := nv_lt (Ws_take h i)
  have h2 := Wp_le (List.length_take_le i l)
  omega
theorem take_lt' {a b : List Int} (ha : Ws a) (hb : Ws b) {i : Nat} (hlt : rd a (i : Int) < rd b (i : Int)) : nv (a.take (i + 1)) < nv (b.take (i + 1)) := by
  rw [nv_take_next, nv_take_next]
  have c1 := nv_take_lt ha i
  have c2 := nv_nonneg (Ws_take hb i)
  have c3 := Wp_pos i
  have c4 := Int.mul_le_mul_of_nonneg_left (show rd a (i : Int) + 1 ≤ rd b (i : Int) by omega) (Int.le_of_lt c3)
  rw [Int.mul_add, Int.mul_one] at c4
  omega
theorem cmpI_add (x y z : Int) : cmpI x y = cmpI (x + z) (y + z) := by unfold cmpI; split <;> split <;> first | omega | (split <;> first | omega | (split <;> omega))
theorem ref02_Cmp_l {a b : List Int} (ha : Ws a) (hb : Ws b) (n : Nat) (hn : n ≤ 2000000000) : Ev (fun k => gradineref02_Cmp.l0 k a b ((n : Int) - 1)) (cmpI (nv (a.take n)) (nv (b.take n))) := by
  induction n with
  | zero =>
    refine Ev.step (fun k => gradineref02_Cmp.l0.eq_2 ..) ?_
    exact Ev.ifn (by omega) (Ev.same rfl)
  | succ n ih =>
    have e : ((n + 1 : Nat) : Int) - 1 = (n : Int) := by omega
    rw [e]
    refine Ev.step (fun k => gradineref02_Cmp.l0.eq_2 ..) ?_
    refine Ev.ifp (by omega) (Ev.bindc (ref02_at_c a n) (Ev.bindc (ref02_at_c b n) ?_))
    by_cases c1 : rd a (n : Int) < rd b (n : Int)
    · exact Ev.ifp c1 (Ev.same (by rw [cmpI_lt (take_lt' ha hb c1)]))
    · refine Ev.ifn c1 ?_
      by_cases c2 : rd a (n : Int) > rd b (n : Int)
      · exact Ev.ifp c2 (Ev.same (by rw [cmpI_gt (take_lt' hb ha c2)]))
      · refine Ev.ifn c2 ?_
        rw [w64_id (by omega) (by omega)]
        have e2 : rd a (n : Int) = rd b (n : Int) := by omega
        refine (ih (by omega)).eqr ?_
        rw [nv_take_next, nv_take_next, e2]
        exact cmpI_add ..
theorem ref02_Cmp_c {a b : List Int} (ha : Wl a) (hb : Wl b) : Ev (fun k => gradineref02_Cmp.f k a b) (cmpI (nv a) (nv b)) := by
  have hal := ha.2
  have hbl := hb.2
  have hm : mx (a.length : Int) (b.length : Int) = ((max a.length b.length : Nat) : Int) := by unfold mx; split <;> omega
  unfold gradineref02_Cmp.f
  rw [hm, w64_id (by omega) (by omega)]
  refine (ref02_Cmp_l ha.1 hb.1 (max a.length b.length) (by omega)).eqr ?_
  rw [List.take_of_length_le (by omega), List.take_of_length_le (by omega)]
theorem ref02_Bits_c {l : List Int} (h : Wl l) : Ev (fun k => gradineref02_Bits.f k l) (bl (nv l)) := by
  have hl := h.2
  have hle := dg_len_list h.1
  have h0 := nv_nonneg h.1
  refine Ev.bind (ref02_Size_c h) ?_
  by_cases hz : (dg (nv l)).length = 0
  · refine Ev.ifp (by omega) (Ev.same ?_)
    rw [(dg_len_zero h0).1 hz, bl_zero]
  · obtain ⟨n, hn⟩ : ∃ n, (dg (nv l)).length = n + 1 := ⟨(dg (nv l)).length - 1, by omega⟩
    obtain ⟨hb, hr⟩ := bl_top_word h.1 hn
    have e : wrap64 (((dg (nv l)).length : Int) - 1) = (n : Int) := by rw [w64_id (by omega) (by omega)]; omega
    have hu := U_rd h.1 (n : Int)
    have hb2 := bl_64 hu.2
    have hb3 := bl_nonneg (rd l (n : Int))
    refine Ev.ifn (by omega) ?_
    rw [e]
    refine Ev.ifp (by omega) (Ev.ifp (by omega) (Ev.bind (ref01_Len_c hu) (Ev.same ?_)))
    rw [hb, w64_id (n := 64 * ((dg (nv l)).length : Int)) (by omega) (by omega), w64_id (n := 64 * ((dg (nv l)).length : Int) - 64) (by omega) (by omega), w64_id (by omega) (by omega)]
    congr 1; omega
theorem ref02_Bit_eq (l : List Int) {i : Int} (hi : i ≤ 9223372036854775807) : gradineref02_Bit.f l i = nat_Bit.f l i := by
  unfold gradineref02_Bit.f nat_Bit.f
  by_cases h : i ≥ 0
  · rw [if_pos h, if_pos h, Int.tmod_eq_emod_of_nonneg h, wu_id (n := i % 64) (by omega) (by omega)]
  · rw [if_neg h, if_neg h]
theorem ref02_Bit_c {l : List Int} (h : Wl l) {i : Int} (hi : i ≤ 9223372036854775807) : gradineref02_Bit.f l i = some (bitI (nv l) i) := (ref02_Bit_eq l hi).trans (nat_Bit_c h hi)
theorem ref02_Even_l {l : List Int} (h : Wl l) {n : Nat} (h1 : nv l / 2 ^ n % 2 = 1) (h2 : ∀ j, j < n → nv l / 2 ^ j % 2 = 0) (hn : n ≤ 100000000000) (d : Nat) : ∀ i : Nat, i + d = n → Ev (fun k => gradineref02_Even.l0 k l i) (n : Int) := by
  induction d with
  | zero =>
    intro i hi
    obtain rfl : i = n := by omega
    refine Ev.step (fun k => gradineref02_Even.l0.eq_2 ..) ?_
    refine Ev.bindc (ref02_Bit_c h (by omega)) ?_
    refine Ev.ifp ?_ (Ev.same rfl)
    unfold bitI
    rw [Int.toNat_natCast, h1]
    simp
  | succ d ih =>
    intro i hi
    refine Ev.step (fun k => gradineref02_Even.l0.eq_2 ..) ?_
    refine Ev.bindc (ref02_Bit_c h (by omega)) ?_
    refine Ev.ifn ?_ ?_
    · unfold bitI
      rw [Int.toNat_natCast, h2 i (by omega)]
      simp
    · have e : wrap64 ((i : Int) + 1) = ((i + 1 : Nat) : Int) := by rw [w64_id (by omega) (by omega)]; omega
      rw [e]
      exact ih (i + 1) (by omega)
theorem ref02_Even_c {l : List Int} (h : Wl l) : Ev (fun k => gradineref02_Even.f k l) (tz (nv l)) := by
  have hl := h.2
  have hb := bl_nv h.1
  have h0 := nv_nonneg h.1
  refine Ev.bind (ref02_Size_c h) ?_
  rcases (show nv l = 0 ∨ 0 < nv l by omega) with hz | hp
  · rw [hz]
    exact Ev.ifp rfl (Ev.same rfl)
  · obtain ⟨n, e, h1, h2⟩ := tz_spec hp
    have := tz_lt hp
    refine Ev.ifn (fun h => ?_) ?_
    · have := (dg_len_zero h0).1 (by omega); omega
    · rw [e]
      exact ref02_Even_l h h1 h2 (by omega) n 0 (by omega)

/-! ### Half words -/
def hv : List Int → Int
  | [] => 0
  | x :: l => x + 4294967296 * hv l
theorem hv_cons (x : Int) (l : List Int) : hv (x :: l) = x + 4294967296 * hv l := rfl
def Hs (l : List Int) : Prop := ∀ x ∈ l, 0 ≤ x ∧ x < 4294967296
def Hp (n : Nat) : Int := 4294967296 ^ n
theorem Hp_zero : Hp 0 = 1 := rfl
theorem Hp_succ (n : Nat) : Hp (n + 1) = 4294967296 * Hp n := by unfold Hp; rw [Int.pow_succ, Int.mul_comm]
theorem Hp_pos (n : Nat) : 0 < Hp n := by
  induction n with
  | zero => decide
  | succ n ih => rw [Hp_succ]; omega
theorem Hp_le {a b : Nat} (h : a ≤ b) : Hp a ≤ Hp b := by
  induction b with
  | zero => obtain rfl : a = 0 := by omega
            exact Int.le_refl _
  | succ b ih =>
    rcases (show a = b + 1 ∨ a ≤ b by omega) with h1 | h1
    · rw [h1]; exact Int.le_refl _
    · have := ih h1; have := Hp_pos b; rw [Hp_succ]; omega
theorem Hp_Wp (n : Nat) : Hp (2 * n) = Wp n := by
  induction n with
  | zero => rfl
  | succ n ih => rw [show 2 * (n + 1) = 2 * n + 1 + 1 by omega, Hp_succ, Hp_succ, ih, Wp_succ]; omega
theorem Hs_cons {x : Int} {l : List Int} : Hs (x :: l) ↔ (0 ≤ x ∧ x < 4294967296) ∧ Hs l := by unfold Hs; simp
theorem Hs_app {a b : List Int} : Hs (a ++ b) ↔ Hs a ∧ Hs b := by
  unfold Hs
  simp only [List.mem_append]
  exact ⟨fun h => ⟨fun x hx => h x (.inl hx), fun x hx => h x (.inr hx)⟩, fun h x hx => hx.elim (h.1 x) (h.2 x)⟩
theorem Hs_snoc {a : List Int} {x : Int} (ha : Hs a) (h0 : 0 ≤ x) (h1 : x < 4294967296) : Hs (a ++ [x]) := Hs_app.2 ⟨ha, fun y hy => by simp at hy; rw [hy]; exact ⟨h0, h1⟩⟩
theorem Hs_nil : Hs [] := fun x h => by simp at h
theorem Hs_take {l : List Int} (h : Hs l) (n : Nat) : Hs (l.take n) := fun x hx => h x (List.mem_of_mem_take hx)
theorem Hs_drop {l : List Int} (h : Hs l) (n : Nat) : Hs (l.drop n) := fun x hx => h x (List.mem_of_mem_drop hx)
theorem Hs_Ws {l : List Int} (h : Hs l) : Ws l := fun x hx => ⟨(h x hx).1, by have := (h x hx).2; omega⟩
theorem Hs_rd {l : List Int} (h : Hs l) (i : Int) : 0 ≤ rd l i ∧ rd l i < 4294967296 := by
  unfold rd
  rw [List.getD_eq_getElem?_getD]
  rcases Nat.lt_or_ge i.toNat l.length with hi | hi
  · rw [List.getElem?_eq_getElem hi]; exact h _ (List.getElem_mem hi)
  · rw [List.getElem?_eq_none hi]; simp
theorem hv_app (a b : List Int) : hv (a ++ b) = hv a + Hp a.length * hv b := by
  induction a with
  | nil => simp [hv, Hp_zero]
  | cons x a ih => rw [List.cons_append, List.length_cons, Hp_succ, hv_cons, hv_cons, ih]; grind
theorem hv_one (x : Int) : hv [x] = x := by rw [hv_cons]; show x + 4294967296 * 0 = x; omega
theorem hv_snoc (a : List Int) (x : Int) : hv (a ++ [x]) = hv a + Hp a.length * x := by rw [hv_app, hv_one]
theorem hv_nonneg {l : List Int} (h : Hs l) : 0 ≤ hv l := by
  induction l with
  | nil => exact Int.le_refl 0
  | cons x l ih =>
    have h1 := Hs_cons.1 h
    have h2 := ih h1.2
    rw [hv_cons]; omega
theorem hv_lt {l : List Int} (h : Hs l) : hv l < Hp l.length := by
  induction l with
  | nil => decide
  | cons x l ih =>
    have h1 := Hs_cons.1 h
    have h2 := ih h1.2
    rw [List.length_cons, Hp_succ, hv_cons]; omega
theorem hv_take_next (l : List Int) (i : Nat) : hv (l.take (i + 1)) = hv (l.take i) + Hp i * rd l (i : Int) := by
  rcases Nat.lt_or_ge i l.length with h | h
  · rw [take_rd h, hv_snoc, List.length_take, Nat.min_eq_left (by omega)]
  · rw [rd_out h, take_zero_of_ge h, Int.mul_zero, Int.add_zero]
theorem hv_take_lt {l : List Int} (h : Hs l) (i : Nat) : hv (l.take i) < Hp i := by
  have h1 := hv_lt (Hs_take h i)
  have h2 := Hp_le (List.length_take_le i l)
  omega
theorem hv_split (l : List Int) (i : Nat) : hv l = hv (l.take i) + Hp (min i l.length) * hv (l.drop i) := by
  have := hv_app (l.take i) (l.drop i)
  rw [List.take_append_drop, List.length_take] at this
  exact this
theorem hv_zero_of {r : List Int} (h : Ws r) (h0 : nv r = 0) : hv r = 0 := by
  induction r with
  | nil => rfl
  | cons x r ih =>
    have h1 := Ws_cons.1 h
    have h2 := nv_nonneg h1.2
    unfold U at h1
    rw [nv_cons] at h0
    have := ih h1.2 (by omega)
    rw [hv_cons, this]; omega
/-- A list's half words. -/
def hl : List Int → List Int
  | [] => []
  | x :: l => x % 4294967296 :: x / 4294967296 :: hl l
theorem hl_Hs {l : List Int} (h : Ws l) : Hs (hl l) := by
  induction l with
  | nil => exact Hs_nil
  | cons x l ih =>
    have h1 := Ws_cons.1 h
    unfold U at h1
    exact Hs_cons.2 ⟨by omega, Hs_cons.2 ⟨by omega, ih h1.2⟩⟩
theorem hl_hv (l : List Int) : hv (hl l) = nv l := by
  induction l with
  | nil => rfl
  | cons x l ih => show hv (x % 4294967296 :: x / 4294967296 :: hl l) = _; rw [hv_cons, hv_cons, ih, nv_cons]; omega
theorem hl_len (l : List Int) : (hl l).length = 2 * l.length := by
  induction l with
  | nil => rfl
  | cons x l ih => show (x % 4294967296 :: x / 4294967296 :: hl l).length = _; simp [ih]; omega
theorem hl_app (a b : List Int) : hl (a ++ b) = hl a ++ hl b := by
  induction a with
  | nil => rfl
  | cons x a ih => show x % 4294967296 :: x / 4294967296 :: hl (a ++ b) = _; rw [ih]; rfl
def hh (l : List Int) : List Int := dg (nv (hl l))
theorem hh_spec {l : List Int} (h : Ws l) : Hs (hh l) ∧ hv (hh l) = nv l ∧ (hh l).length ≤ 2 * l.length := by
  have h1 := hl_Hs h
  obtain ⟨r, hr, hz⟩ := dg_prefix (Hs_Ws h1)
  have h2 : Hs (dg (nv (hl l)) ++ r) := hr ▸ h1
  have h3 := Hs_app.1 h2
  refine ⟨h3.1, ?_, ?_⟩
  · have h4 := hv_app (dg (nv (hl l))) r
    rw [← hr, hl_hv, hv_zero_of (Hs_Ws h3.2) hz, Int.mul_zero, Int.add_zero] at h4
    exact h4.symm
  · have := dg_len_list (Hs_Ws h1)
    rw [hl_len] at this
    exact this
theorem ref02_Halves_l {a : List Int} (ha : Wl a) (hla : a.length ≤ 400000000) (d : Nat) : ∀ i : Nat, i + d = a.length → Ev (fun k => gradineref02_Halves.l0 k a (hl (a.take i)) (a.length : Int) i) (hh a) := by
  induction d with
  | zero =>
    intro i hi
    refine Ev.step (fun k => gradineref02_Halves.l0.eq_2 ..) ?_
    refine Ev.ifn (by omega) ?_
    rw [List.take_of_length_le (by omega)]
    exact Ev.bind (ref02_Trim_c ⟨Hs_Ws (hl_Hs ha.1), by rw [hl_len]; omega⟩) (Ev.same rfl)
  | succ d ih =>
    intro i hi
    have hx := U_rd ha.1 (i : Int)
    have e : wrap64 ((i : Int) + 1) = ((i + 1 : Nat) : Int) := by rw [w64_id (by omega) (by omega)]; omega
    have hlen : (hl (a.take i)).length = 2 * i := by rw [hl_len, List.length_take]; omega
    refine Ev.step (fun k => gradineref02_Halves.l0.eq_2 ..) ?_
    refine Ev.ifp (by omega) (Ev.ifp (by omega) (Ev.ifp (by omega) (Ev.ifp (by omega) ?_)))
    refine Ev.bindc rfl (Ev.ifp (by rw [List.length_append, hlen]; simp; omega) ?_)
    unfold U at hx
    rw [e, and32 _ hx.1 hx.2]
    have e2 : hl (a.take i) ++ [rd a (i : Int) % 4294967296] ++ [rd a (i : Int) / 4294967296] = hl (a.take (i + 1)) := by
      rw [take_rd (by omega), hl_app, List.append_assoc]; rfl
    rw [e2]
    exact ih (i + 1) (by omega)
theorem ref02_Halves_c {a : List Int} (ha : Wl a) (hla : a.length ≤ 400000000) : Ev (fun k => gradineref02_Halves.f k a) (hh a) := ref02_Halves_l ha hla a.length 0 (by omega)
theorem ref02_Whole_l {h : List Int} (hh : Hs h) (hl : h.length ≤ 1000000000) (d : Nat) : ∀ (j : Nat) (out : List Int), 2 * j + d ≥ h.length → out.length = j → Ws out → j ≤ 600000000 → nv out = hv (h.take (2 * j)) → Ev (fun k => gradineref02_Whole.l0 k h out ((2 * j : Nat) : Int)) (dg (hv h)) := by
  induction d with
  | zero =>
    intro j out hj hlo hwo hj2 he
    refine Ev.step (fun k => gradineref02_Whole.l0.eq_2 ..) ?_
    refine Ev.ifn (by omega) ?_
    rw [List.take_of_length_le (by omega)] at he
    rw [← he]
    exact Ev.bind (ref02_Trim_c ⟨hwo, by omega⟩) (Ev.same rfl)
  | succ d ih =>
    intro j out hj hlo hwo hj2 he
    refine Ev.step (fun k => gradineref02_Whole.l0.eq_2 ..) ?_
    by_cases hend : ((2 * j : Nat) : Int) < (h.length : Int)
    · have x0 := Hs_rd hh ((2 * j : Nat) : Int)
      have y0 := Hs_rd hh ((2 * j + 1 : Nat) : Int)
      have e1 : wrap64 (((2 * j : Nat) : Int) + 1) = ((2 * j + 1 : Nat) : Int) := by rw [w64_id (by omega) (by omega)]; omega
      have e2 : wrap64 (((2 * j : Nat) : Int) + 2) = ((2 * (j + 1) : Nat) : Int) := by rw [w64_id (by omega) (by omega)]; omega
      have step : ∀ w : Int, w = rd h ((2 * j : Nat) : Int) + 4294967296 * rd h ((2 * j + 1 : Nat) : Int) → Ev (fun k => gradineref02_Whole.l0 k h (out ++ [w]) ((2 * (j + 1) : Nat) : Int)) (dg (hv h)) := by
        intro w hw
        refine ih (j + 1) _ (by omega) (by rw [List.length_append, hlo]; rfl) (Wl_snoc hwo (by unfold U; omega)) (by omega) ?_
        rw [nv_snoc, hlo, he, show 2 * (j + 1) = 2 * j + 1 + 1 by omega, hv_take_next, hv_take_next, Hp_succ, Hp_Wp, hw]
        grind
      refine Ev.ifp hend (Ev.ifp (by omega) ?_)
      rw [e1, e2]
      by_cases hn : ((2 * j + 1 : Nat) : Int) < (h.length : Int)
      · refine Ev.ifp hn (Ev.ifp (by omega) (Ev.ifp (by omega) (step _ ?_)))
        rw [wu_id (by omega) (by omega), or_comm _ _ (by omega) (by omega) (by omega) (by omega), or_join 32 _ _ (by omega) (by omega) (by omega) (by omega) (by omega) (by omega)]
        omega
      · refine Ev.ifn hn (Ev.ifp (by omega) (step _ ?_))
        rw [rd_out (i := 2 * j + 1) (by omega)]
        omega
    · refine Ev.ifn hend ?_
      rw [List.take_of_length_le (by omega)] at he
      rw [← he]
      exact Ev.bind (ref02_Trim_c ⟨hwo, by omega⟩) (Ev.same rfl)
theorem ref02_Whole_c {h : List Int} (hh : Hs h) (hl : h.length ≤ 1000000000) : Ev (fun k => gradineref02_Whole.f k h) (dg (hv h)) := ref02_Whole_l hh hl h.length 0 [] (by omega) rfl Ws_nil (by omega) rfl
theorem ref02_Add_l {x y : List Int} (hx : Hs x) (hy : Hs y) {n : Nat} (hn : n ≤ 900000000) (hxn : x.length < n) (hyn : y.length < n) (d : Nat) : ∀ (i : Nat) (out : List Int) (c : Int), i + d = n → out.length = i → Hs out → 0 ≤ c → c ≤ 1 → hv out + Hp i * c = hv (x.take i) + hv (y.take i) → Ev (fun k => gradineref02_Add.l0 k x y out c (n : Int) i) (dg (hv x + hv y)) := by
  induction d with
  | zero =>
    intro i out c hi hlo hwo h0 h1 he
    refine Ev.step (fun k => gradineref02_Add.l0.eq_2 ..) ?_
    refine Ev.ifn (by omega) ?_
    obtain ⟨m, rfl⟩ : ∃ m, i = m + 1 := ⟨i - 1, by omega⟩
    have b1 := hv_take_lt hx m
    have b2 := hv_take_lt hy m
    have b3 := hv_nonneg hwo
    have hp := Hp_pos m
    rw [List.take_of_length_le (by omega)] at b1 b2
    rw [List.take_of_length_le (by omega), List.take_of_length_le (by omega), Hp_succ] at he
    have hc : c = 0 := by
      rcases (show c = 0 ∨ c = 1 by omega) with h | h
      · exact h
      · subst h; omega
    subst hc
    rw [← he, Int.mul_zero, Int.add_zero]
    exact Ev.bind (ref02_Whole_c hwo (by omega)) (Ev.same rfl)
  | succ d ih =>
    intro i out c hi hlo hwo h0 h1 he
    have HE := Hd.mk he
    clear he
    have x0 := Hs_rd hx (i : Int)
    have y0 := Hs_rd hy (i : Int)
    have e : wrap64 ((i : Int) + 1) = ((i + 1 : Nat) : Int) := by rw [w64_id (by omega) (by omega)]; omega
    refine Ev.step (fun k => gradineref02_Add.l0.eq_2 ..) ?_
    refine Ev.ifp (by omega) (Ev.bindc (ref02_at_c x i) (Ev.bindc (ref02_at_c y i) (Ev.ifp (by omega) ?_)))
    rw [e, wu_id (n := c + rd x (i : Int)) (by omega) (by omega), wu_id (by omega) (by omega), and32 _ (by omega) (by omega)]
    refine ih (i + 1) _ _ (by omega) (by rw [List.length_append, hlo]; rfl) (Hs_snoc hwo (by omega) (by omega)) (by omega) (by omega) ?_
    have he := HE.out
    rw [hv_snoc, hlo, hv_take_next, hv_take_next, Hp_succ]
    have hs : c + rd x (i : Int) + rd y (i : Int) = 4294967296 * ((c + rd x (i : Int) + rd y (i : Int)) / 4294967296) + (c + rd x (i : Int) + rd y (i : Int)) % 4294967296 := by omega
    generalize (c + rd x (i : Int) + rd y (i : Int)) / 4294967296 = q at *
    generalize (c + rd x (i : Int) + rd y (i : Int)) % 4294967296 = r at *
    have hc : c = 4294967296 * q + r - rd x (i : Int) - rd y (i : Int) := by omega
    rw [hc] at he
    grind
theorem ref02_Add_c {a b : List Int} (ha : Wl a) (hb : Wl b) (hla : a.length ≤ 400000000) (hlb : b.length ≤ 400000000) : Ev (fun k => gradineref02_Add.f k a b) (dg (nv a + nv b)) := by
  obtain ⟨a1, a2, a3⟩ := hh_spec ha.1
  obtain ⟨b1, b2, b3⟩ := hh_spec hb.1
  refine Ev.bind (ref02_Halves_c ha hla) (Ev.bind (ref02_Halves_c hb hlb) ?_)
  have hm : wrap64 (mx ((hh a).length : Int) ((hh b).length : Int) + 1) = ((max (hh a).length (hh b).length + 1 : Nat) : Int) := by
    unfold mx
    rw [w64_id (by split <;> omega) (by split <;> omega)]
    split <;> omega
  rw [hm, ← a2, ← b2]
  exact ref02_Add_l a1 b1 (n := max (hh a).length (hh b).length + 1) (by omega) (by omega) (by omega) (max (hh a).length (hh b).length + 1) 0 [] 0 (by omega) rfl Hs_nil (by omega) (by omega) rfl
theorem ref02_Sub_l {x y : List Int} (hx : Hs x) (hy : Hs y) (hge : hv y ≤ hv x) (hn : x.length ≤ 900000000) (d : Nat) : ∀ (i : Nat) (out : List Int) (c : Int), i + d = x.length → out.length = i → Hs out → 0 ≤ c → c ≤ 1 → hv out - Hp i * c = hv (x.take i) - hv (y.take i) → Ev (fun k => gradineref02_Sub.l0 k x y out c (x.length : Int) i) (dg (hv x - hv y)) := by
  induction d with
  | zero =>
    intro i out c hi hlo hwo h0 h1 he
    refine Ev.step (fun k => gradineref02_Sub.l0.eq_2 ..) ?_
    refine Ev.ifn (by omega) ?_
    have hi2 : i = x.length := by omega
    subst hi2
    rw [List.take_length] at he
    have hb2 := hv_split y x.length
    have hn1 := hv_nonneg hwo
    have hn2 := hv_lt hwo
    rw [hlo] at hn2
    have hn3 := hv_nonneg (Hs_take hy x.length)
    have hn4 := hv_nonneg (Hs_drop hy x.length)
    have hn5 := hv_lt hx
    have hp := Hp_pos x.length
    have hz : Hp (min x.length y.length) * hv (y.drop x.length) = 0 := by
      rcases Nat.lt_or_ge x.length y.length with hlt | hgt
      · rw [Nat.min_eq_left (by omega)] at hb2 ⊢
        rcases (show hv (y.drop x.length) = 0 ∨ 1 ≤ hv (y.drop x.length) by omega) with h | h
        · rw [h, Int.mul_zero]
        · have := Int.mul_le_mul_of_nonneg_left h (Int.le_of_lt hp)
          omega
      · rw [List.drop_eq_nil_of_le hgt]; simp [hv]
    have hu : c = 0 := by
      rcases (show c = 0 ∨ c = 1 by omega) with h | h
      · exact h
      · subst h; omega
    subst hu
    have e : hv x - hv y = hv out := by omega
    rw [e]
    exact Ev.bind (ref02_Whole_c hwo (by omega)) (Ev.same rfl)
  | succ d ih =>
    intro i out c hi hlo hwo h0 h1 he
    have HE := Hd.mk he
    clear he
    have x0 := Hs_rd hx (i : Int)
    have y0 := Hs_rd hy (i : Int)
    have e : wrap64 ((i : Int) + 1) = ((i + 1 : Nat) : Int) := by rw [w64_id (by omega) (by omega)]; omega
    refine Ev.step (fun k => gradineref02_Sub.l0.eq_2 ..) ?_
    refine Ev.ifp (by omega) (Ev.ifp (by omega) (Ev.ifp (by omega) (Ev.bindc (ref02_at_c y i) (Ev.ifp (by omega) ?_))))
    have hw : IntKind.u64.wrap (IntKind.u64.wrap (IntKind.u64.wrap (4294967296 + rd x (i : Int)) - rd y (i : Int)) - c) = 4294967296 + rd x (i : Int) - rd y (i : Int) - c := by
      rw [wu, wu, wu]; omega
    rw [e, hw, and32 _ (by omega) (by omega), wu_id (n := 1 - (4294967296 + rd x (i : Int) - rd y (i : Int) - c) / 4294967296) (by omega) (by omega)]
    refine ih (i + 1) _ _ (by omega) (by rw [List.length_append, hlo]; rfl) (Hs_snoc hwo (by omega) (by omega)) (by omega) (by omega) ?_
    have he := HE.out
    rw [hv_snoc, hlo, hv_take_next, hv_take_next, Hp_succ]
    have hs : 4294967296 + rd x (i : Int) - rd y (i : Int) - c = 4294967296 * ((4294967296 + rd x (i : Int) - rd y (i : Int) - c) / 4294967296) + (4294967296 + rd x (i : Int) - rd y (i : Int) - c) % 4294967296 := by omega
    generalize (4294967296 + rd x (i : Int) - rd y (i : Int) - c) / 4294967296 = q at *
    generalize (4294967296 + rd x (i : Int) - rd y (i : Int) - c) % 4294967296 = r at *
    have hc : c = 4294967296 + rd x (i : Int) - rd y (i : Int) - 4294967296 * q - r := by omega
    rw [hc] at he
    grind
theorem ref02_Sub_c {a b : List Int} (ha : Wl a) (hb : Wl b) (hla : a.length ≤ 400000000) (hlb : b.length ≤ 400000000) (hge : nv b ≤ nv a) : Ev (fun k => gradineref02_Sub.f k a b) (dg (nv a - nv b)) := by
  obtain ⟨a1, a2, a3⟩ := hh_spec ha.1
  obtain ⟨b1, b2, b3⟩ := hh_spec hb.1
  refine Ev.bind (ref02_Halves_c ha hla) (Ev.bind (ref02_Halves_c hb hlb) ?_)
  rw [← a2, ← b2]
  exact ref02_Sub_l a1 b1 (by omega) (by omega) (hh a).length 0 [] 0 (by omega) rfl Hs_nil (by omega) (by omega) rfl
end Go.Proofs.Ytldcgclbgbhffaa.M
