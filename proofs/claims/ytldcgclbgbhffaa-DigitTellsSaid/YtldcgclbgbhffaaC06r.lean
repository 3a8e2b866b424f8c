/- What the reference's numbers in tens answer. -/
import Derived.Test.YtldcgclbgbhffaaC06b
import Derived.Test.YtldcgclbgbhffaaC03q
import Derived.Test.YtldcgclbgbhffaaBgradineref06
namespace Go.Proofs.Ytldcgclbgbhffaa.M
open Go.RowKit Go.Proofs.Ytldcgclbgbhffaa.P Go.Proofs.YtldcgclbgbhffaaW.PrintWords Go.Proofs.YtldcgclbgbhffaaW.PrintLast Go.Proofs.YtldcgclbgbhffaaW.PrintMore
set_option linter.unusedVariables false

theorem hv_drop {l : List Int} {i : Nat} (h : i < l.length) : hv (l.drop i) = rd l (i : Int) + 4294967296 * hv (l.drop (i + 1)) := by rw [drop_rd h, hv_cons]
theorem ref06_ten_l {h : List Int} (hh : Hs h) (hl : h.length ≤ 1000000) (n : Nat) : ∀ (Q : List Int) (R : Int), n + Q.length = h.length → Hs Q → 0 ≤ R → R < 10 → hv (h.drop n) = hv Q * 10 + R → ∀ i : Int, i = (n : Int) - 1 →
    Ev (fun k => gradineref06_ten.l0 k (h.take n ++ Q) R i) (dg (hv h / 10), hv h % 10) := by
  induction n with
  | zero =>
    intro Q R hn hQ h0 h1 he i hi
    refine Ev.step (fun k => gradineref06_ten.l0.eq_2 ..) ?_
    refine Ev.ifn (by omega) ?_
    rw [List.drop_zero] at he
    rw [List.take_zero, List.nil_append, show hv h / 10 = hv Q by omega, show hv h % 10 = R by omega, w64_id (by omega) (by omega)]
    exact Ev.bind (ref02_Whole_c hQ (by omega)) (Ev.same rfl)
  | succ n ih =>
    intro Q R hn hQ h0 h1 he i hi
    have ei : i = (n : Int) := by omega
    subst ei
    have hx := Hs_rd hh (n : Int)
    have e : wrap64 ((n : Int) - 1) = (n : Int) - 1 := w64_id (by omega) (by omega)
    have ll : (h.take n).length = n := by rw [List.length_take]; omega
    have er : h.take (n + 1) ++ Q = h.take n ++ rd h (n : Int) :: Q := by rw [take_rd (by omega), List.append_assoc]; rfl
    have e2 : rd (h.take n ++ rd h (n : Int) :: Q) (n : Int) = rd h (n : Int) := by
      have := rd_mid (h.take n) (rd h (n : Int)) Q
      rwa [ll] at this
    have es : ∀ v, (h.take n ++ rd h (n : Int) :: Q).set (n : Int).toNat v = h.take n ++ v :: Q := fun v => by
      have := set_mid (h.take n) (rd h (n : Int)) v Q
      rw [ll] at this
      rw [Int.toNat_natCast]; exact this
    have e3 : (h.take n ++ rd h (n : Int) :: Q).length = h.length := by rw [List.length_append, List.length_cons, ll]; omega
    refine Ev.step (fun k => gradineref06_ten.l0.eq_2 ..) ?_
    rw [er, e, e2, es]
    have hd := hv_drop (l := h) (i := n) (by omega)
    generalize rd h (n : Int) = x at *
    have eo : Go.bits .or .u64 (IntKind.u64.wrap (R * 4294967296)) x = R * 4294967296 + x := by
      rw [wu_id (by omega) (by omega)]
      exact or_join 32 _ _ (by omega) (by omega) (by omega) hx.1 (by omega) (by omega)
    rw [eo, Int.tdiv_eq_ediv_of_nonneg (by omega), Int.tmod_eq_emod_of_nonneg (by omega), wu_id (by omega) (by omega)]
    refine Ev.ifp (by omega) (Ev.ifp (by omega) (Ev.ifp (by omega) ?_))
    refine ih _ _ (by rw [List.length_cons]; omega) (Hs_cons.2 ⟨by omega, hQ⟩) (by omega) (by omega) ?_ _ rfl
    rw [hv_cons]
    omega
theorem ref06_ten_c {a : List Int} (ha : Wl a) (hla : a.length ≤ 100000) : Ev (fun k => gradineref06_ten.f k a) (dg (nv a / 10), nv a % 10) := by
  obtain ⟨a1, a2, a3⟩ := hh_spec ha.1
  refine Ev.bind (ref02_Halves_c ha (by omega)) ?_
  rw [w64_id (by omega) (by omega), ← a2]
  have := ref06_ten_l a1 (by omega) (hh a).length [] 0 (by simp) Hs_nil (by omega) (by omega) (by rw [List.drop_eq_nil_of_le (Nat.le_refl _)]; simp [hv]) _ rfl
  rw [List.append_nil, List.take_length] at this
  exact this
theorem ten_digit : ∀ d : Fin 10, (⟨#[48, 49, 50, 51, 52, 53, 54, 55, 56, 57]⟩ : ByteArray).extract d.val (d.val + 1) = strOfNums [48 + (d.val : Int)] := by
  intro d
  apply ByteArray.ext
  revert d
  decide
theorem strOfNums_app (a b : List Int) : strOfNums a ++ strOfNums b = strOfNums (a ++ b) := by
  apply ByteArray.ext
  rw [ByteArray.data_append]
  unfold strOfNums
  simp
theorem ref06_Show_l (c : Nat) : ∀ (n : Int) (Y : List Int), 0 ≤ n → n.toNat ≤ c → bl n ≤ 60000 → Y.length + (ds n).length ≤ 100000000 →
    Ev (fun k => gradineref06_Show.l0 k (dg n) ⟨#[48, 49, 50, 51, 52, 53, 54, 55, 56, 57]⟩ (strOfNums Y)) (strOfNums (if (ds n).reverse ++ Y = [] then [48] else (ds n).reverse ++ Y)) := by
  induction c using Nat.strongRecOn with
  | ind c ih =>
    intro n Y hn hc hb hY
    refine Ev.step (fun k => gradineref06_Show.l0.eq_2 ..) ?_
    by_cases h : 0 < n
    · have hk := dg_len_bl n
      have ht := ref06_ten_c (Wl_dg (n := n) (by omega)) (by omega)
      rw [nv_dg hn] at ht
      have hbq := bl_mono (show n / 10 ≤ n by omega)
      have hl : ((dg n).length : Int) > 0 := by rw [dg_pos h, List.length_cons]; omega
      have hds := ds_pos h
      have hx := ten_digit ⟨(n % 10).toNat, by omega⟩
      have e1 : wrap64 (n % 10 + 1) = n % 10 + 1 := w64_id (by omega) (by omega)
      have e2 : (n % 10 + 1).toNat = (n % 10).toNat + 1 := by omega
      have e3 : (((n % 10).toNat : Nat) : Int) = n % 10 := by omega
      have hx2 : (⟨#[48, 49, 50, 51, 52, 53, 54, 55, 56, 57]⟩ : ByteArray).extract (n % 10).toNat ((n % 10).toNat + 1) = strOfNums [48 + n % 10] := by
        refine hx.trans ?_
        show strOfNums [48 + (((n % 10).toNat : Nat) : Int)] = _
        rw [e3]
      have hsz : (strOfNums [48 + n % 10]).size + (strOfNums Y).size ≤ 9223372036854775807 := by
        rw [strOfNums_size, strOfNums_size]; show 1 + Y.length ≤ _; omega
      have hY2 : ((48 + n % 10) :: Y).length + (ds (n / 10)).length ≤ 100000000 := by
        rw [hds, List.length_cons] at hY; rw [List.length_cons]; omega
      have h2 := ih (n / 10).toNat (by omega) (n / 10) ((48 + n % 10) :: Y) (by omega) (Nat.le_refl _) (by omega) hY2
      have e5 : (ds n).reverse ++ Y = (ds (n / 10)).reverse ++ (48 + n % 10) :: Y := by rw [hds, List.reverse_cons, List.append_assoc]; rfl
      rw [e5]
      refine Ev.ifp hl (Ev.bind ht ?_)
      dsimp only
      rw [e1, e2, hx2, strOfNums_app]
      have s10 : ((⟨#[48, 49, 50, 51, 52, 53, 54, 55, 56, 57]⟩ : ByteArray).size : Int) = 10 := rfl
      clear hbq hb hk hds hY hY2
      exact Ev.ifp (by omega) (Ev.ifp (by omega) (Ev.ifp (by rw [s10]; omega) (Ev.ifp hsz h2)))
    · have hz : n = 0 := by omega
      subst hz
      refine Ev.ifn (by rw [dg_zero]; simp) ?_
      rw [ds_nil (n := 0) (by omega), List.reverse_nil, List.nil_append]
      by_cases he : Y = []
      · subst he
        exact Ev.ifp (by rw [ByteArray.toList_eq, strOfNums_data]; rfl) (Ev.same rfl)
      · refine Ev.ifn (by rw [ByteArray.toList_eq, strOfNums_data, List.map_eq_nil_iff]; exact he) (Ev.same ?_)
        rw [if_neg he]
theorem ref06_Show_c {a : List Int} (ha : Wl a) (hla : a.length ≤ 100) : Ev (fun k => gradineref06_Show.f k a) (strOfNums (sh (nv a))) := by
  have na := nv_nonneg ha.1
  have ba := bl_nv ha.1
  have hd := ds_len_le (m := (bl (nv a)).toNat) na (Int.lt_of_lt_of_le (bl_lt (nv a)) (two_ten _))
  have h := ref06_Show_l _ (nv a) [] na (Nat.le_refl _) (by omega) (by rw [List.length_nil]; omega)
  refine Ev.bind (ref02_Trim_c ha) (Ev.eqr h ?_)
  congr 1
  rw [List.append_nil]
  unfold sh
  by_cases hz : nv a ≤ 0
  · rw [if_pos (by rw [ds_nil hz]; rfl), if_pos hz]
  · rw [if_neg (by rw [ds_pos (by omega)]; simp), if_neg hz]
/-! ### Texts -/
theorem ref06_Text_l {s : ByteArray} {l : List Int} (hs : byt s = l) (hl : l.length ≤ 400) (d : Nat) : ∀ i : Nat, i + d = l.length →
    (Dd (l.drop i) → Ev (fun k => gradineref06_Text.l0 k s (l.length : Int) i) true) ∧ (¬ Dd (l.drop i) → Ev (fun k => gradineref06_Text.l0 k s (l.length : Int) i) false) := by
  have hsz : s.size = l.length := by rw [← hs, byt_len]
  induction d with
  | zero =>
    intro i hi
    rw [List.drop_eq_nil_of_le (by omega)]
    exact ⟨fun _ => Ev.step (fun k => gradineref06_Text.l0.eq_2 ..) (Ev.ifn (by omega) (Ev.same rfl)), fun h => absurd Dd_nil h⟩
  | succ d ih =>
    intro i hi
    have hb : bt s (i : Int) = rd l (i : Int) := by rw [bt_byt, hs]
    have e : wrap64 ((i : Int) + 1) = ((i + 1 : Nat) : Int) := by rw [w64_id (by omega) (by omega)]; omega
    obtain ⟨i1, i2⟩ := ih (i + 1) (by omega)
    rw [drop_rd (by omega), Dd_cons]
    have st : ∀ r : Bool, (¬ (48 ≤ rd l (i : Int) ∧ rd l (i : Int) ≤ 57) → r = false) → ((48 ≤ rd l (i : Int) ∧ rd l (i : Int) ≤ 57) → Ev (fun k => gradineref06_Text.l0 k s (l.length : Int) ((i + 1 : Nat) : Int)) r) → Ev (fun k => gradineref06_Text.l0 k s (l.length : Int) i) r := by
      intro r no go
      refine Ev.step (fun k => gradineref06_Text.l0.eq_2 ..) ?_
      rw [hb, e]
      refine Ev.ifp (by omega) (Ev.ifp (by omega) (Ev.ifp (by omega) ?_))
      by_cases c1 : rd l (i : Int) < 48
      · exact Ev.ifp c1 (Ev.same (by rw [no (by omega)]))
      · by_cases c2 : rd l (i : Int) > 57
        · exact Ev.ifn c1 (Ev.ifp c2 (Ev.same (by rw [no (by omega)])))
        · exact Ev.ifn c1 (Ev.ifn c2 (go (by omega)))
    exact ⟨fun h => st true (fun h2 => absurd h.1 h2) (fun _ => i1 h.2), fun h => st false (fun _ => rfl) (fun h2 => i2 (fun h3 => h ⟨h2, h3⟩))⟩
theorem ref06_Text_f {s : ByteArray} {l : List Int} (hs : byt s = l) (hl : l.length ≤ 400) {r : Bool} (go : (l ≠ [] ∧ (1 < l.length → rd l 0 ≠ 48)) → Ev (fun k => gradineref06_Text.l0 k s (l.length : Int) 0) r) (no : ¬ (l ≠ [] ∧ (1 < l.length → rd l 0 ≠ 48)) → r = false) :
    Ev (fun k => gradineref06_Text.f k s) r := by
  have hsz : s.size = l.length := by rw [← hs, byt_len]
  have hb : bt s 0 = rd l 0 := by have := bt_byt s 0; rw [hs] at this; exact this
  have jt : ¬ (l ≠ [] ∧ (1 < l.length → rd l 0 ≠ 48)) → Ev (fun k => gradineref06_Text.j0 k s true) r := fun h => by
    rw [no h]
    exact Ev.step (fun k => gradineref06_Text.j0.eq_2 ..) (Ev.ifp rfl (Ev.same rfl))
  have jf : (l ≠ [] ∧ (1 < l.length → rd l 0 ≠ 48)) → Ev (fun k => gradineref06_Text.j0 k s false) r := fun h => by
    refine Ev.step (fun k => gradineref06_Text.j0.eq_2 ..) (Ev.ifn (by decide) ?_)
    rw [hsz]
    exact go h
  have hnil : l = [] ↔ l.length = 0 := List.length_eq_zero_iff.symm
  by_cases h1 : (s.size : Int) = 0
  · exact Ev.ifp h1 (jt (fun h => h.1 (hnil.2 (by omega))))
  · refine Ev.ifn h1 ?_
    have h1' : l ≠ [] := fun e => h1 (by have := hnil.1 e; omega)
    by_cases h2 : (s.size : Int) > 1
    · refine Ev.ifp h2 (Ev.ifp (by omega) ?_)
      rw [hb]
      by_cases h3 : rd l 0 = 48
      · rw [show (rd l 0 == 48) = true by rw [beq_iff_eq]; exact h3]
        exact jt (fun h => h.2 (by omega) h3)
      · rw [show (rd l 0 == 48) = false by rw [beq_eq_false_iff_ne]; exact h3]
        exact jf ⟨h1', fun _ => h3⟩
    · exact Ev.ifn h2 (jf ⟨h1', fun h => by omega⟩)
theorem ref06_Text_yes {s : ByteArray} (h : Tx (byt s)) (hl : (byt s).length ≤ 400) : Ev (fun k => gradineref06_Text.f k s) true :=
  ref06_Text_f rfl hl (fun _ => (ref06_Text_l rfl hl (byt s).length 0 (by omega)).1 (by rw [List.drop_zero]; exact h.1)) (fun h2 => absurd ⟨h.2.1, h.2.2⟩ h2)
theorem ref06_Text_no {s : ByteArray} (h : ¬ Tx (byt s)) (hl : (byt s).length ≤ 400) : Ev (fun k => gradineref06_Text.f k s) false :=
  ref06_Text_f rfl hl (fun h2 => (ref06_Text_l rfl hl (byt s).length 0 (by omega)).2 (fun hd => h ⟨by rwa [List.drop_zero] at hd, h2.1, h2.2⟩)) (fun _ => rfl)
theorem ref06_Read_l {s : ByteArray} {l : List Int} (hs : byt s = l) (h : Dd l) (hl : l.length ≤ 400) (d : Nat) : ∀ i : Nat, i + d = l.length → Ev (fun k => gradineref06_Read.l0 k s (dg (dv (l.take i))) (l.length : Int) i) (dg (dv l), 0) := by
  have hsz : s.size = l.length := by rw [← hs, byt_len]
  have hbl : ∀ i : Nat, bl (dv (l.take i)) ≤ 1601 := fun i => by
    obtain ⟨r0, r1⟩ := dv_range (Dd_take h i)
    have h1 := bl_mono (Int.le_of_lt r1)
    have h2 := bl_ten (l.take i).length
    have : (l.take i).length ≤ 400 := by rw [List.length_take]; omega
    omega
  induction d with
  | zero =>
    intro i hi
    refine Ev.step (fun k => gradineref06_Read.l0.eq_2 ..) (Ev.ifn (by omega) (Ev.same ?_))
    rw [List.take_of_length_le (by omega)]
  | succ d ih =>
    intro i hi
    have hb : bt s (i : Int) = rd l (i : Int) := by rw [bt_byt, hs]
    have e : wrap64 ((i : Int) + 1) = ((i + 1 : Nat) : Int) := by rw [w64_id (by omega) (by omega)]; omega
    have hx : 48 ≤ rd l (i : Int) ∧ rd l (i : Int) ≤ 57 := by
      unfold rd
      rw [List.getD_eq_getElem?_getD, Int.toNat_natCast, List.getElem?_eq_getElem (by omega)]
      exact h _ (List.getElem_mem _)
    have em : (rd l (i : Int) - 48) % 256 = rd l (i : Int) - 48 := by omega
    have r0 := (dv_range (Dd_take h i)).1
    have hu : U (rd l (i : Int) - 48) := ⟨by omega, by omega⟩
    have h3 := ih (i + 1) (by omega)
    rw [take_rd (by omega), dv_snoc] at h3
    refine Ev.step (fun k => gradineref06_Read.l0.eq_2 ..) ?_
    rw [hb, e, em]
    refine Ev.ifp (by omega) (Ev.ifp (by omega) (Ev.ifp (by omega) ?_))
    clear em e hb hx
    have b1 := hbl i
    have k1 := dg_len_bl (dv (l.take i))
    have hw := ref03_Word_c (Wl_dg (n := dv (l.take i)) (by omega)) (by omega) (x := 10) (by unfold U; omega) hu
    rw [nv_dg r0, Int.mul_comm] at hw
    exact Ev.bind hw h3
theorem ref06_Read_yes {s : ByteArray} (h : Tx (byt s)) (hl : (byt s).length ≤ 400) : Ev (fun k => gradineref06_Read.f k s) (dg (dv (byt s)), 0) := by
  have h2 := ref06_Read_l rfl h.1 hl (byt s).length 0 (by omega)
  have hsz := byt_len s
  refine Ev.ifn (by omega) (Ev.bind (ref06_Text_yes h hl) (Ev.ifp rfl ?_))
  rw [hsz] at h2
  exact h2
theorem ref06_Read_no {s : ByteArray} (h : ¬ Tx (byt s)) (hl : (byt s).length ≤ 400) : Ev (fun k => gradineref06_Read.f k s) ([], 2) := by
  have hsz := byt_len s
  exact Ev.ifn (by omega) (Ev.bind (ref06_Text_no h hl) (Ev.ifn (by decide) (Ev.same rfl)))
theorem ref06_Read_long {s : ByteArray} (h : (s.size : Int) > 400) : Ev (fun k => gradineref06_Read.f k s) ([], 3) := Ev.ifp h (Ev.same rfl)
end Go.Proofs.Ytldcgclbgbhffaa.M
