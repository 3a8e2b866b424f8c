/- The shorter text is the smaller number; of two texts of one length the one that comes first: for all numbers of up to 20 words. -/
import Derived.Test.YtldcgclbgbhffaaS06
import Derived.Test.YtldcgclbgbhffaaC02r
import Derived.Test.YtldcgclbgbhffaaFgradinelaw06DigitOrder
namespace Go.Proofs.Ytldcgclbgbhffaa.Pure
open Go.RowKit Go.Proofs.Ytldcgclbgbhffaa.P Go.Proofs.Ytldcgclbgbhffaa.M Go.Proofs.YtldcgclbgbhffaaW.PrintWords Go.Proofs.YtldcgclbgbhffaaW.PrintLast Go.Proofs.YtldcgclbgbhffaaW.PrintMore
theorem dv_cons (x : Int) (t : List Int) : dv (x :: t) = (x - 48) * 10 ^ t.length + dv t := by
  have := dv_app [x] t
  rw [show dv [x] = x - 48 by show (x - 48) + 10 * 0 = _; omega] at this
  exact this
theorem Tx_low {l : List Int} (h : Tx l) (h1 : 1 < l.length) : 10 ^ (l.length - 1) ≤ dv l := by
  obtain ⟨h2, h3, h4⟩ := h
  cases l with
  | nil => simp at h1
  | cons x t =>
    have h5 := h4 h1
    obtain ⟨hx, ht⟩ := Dd_cons.1 h2
    have hr := (dv_range ht).1
    have hne : x ≠ 48 := h5
    rw [dv_cons, List.length_cons, Nat.add_sub_cancel]
    have hp := ten_pos t.length
    have := Int.mul_le_mul_of_nonneg_right (show 1 ≤ x - 48 by omega) (Int.le_of_lt hp)
    omega
theorem Tx_short {a b : List Int} (ha : Tx a) (hb : Tx b) (h : a.length < b.length) : dv a < dv b := by
  have h0 : a.length ≠ 0 := fun e => ha.2.1 (List.length_eq_zero_iff.1 e)
  have h1 := Tx_low hb (by omega)
  have h2 := (dv_range ha.1).2
  have h3 := ten_le (show a.length ≤ b.length - 1 by omega)
  omega
def nb (n : Int) : UInt8 := UInt8.ofNat n.toNat
theorem nb_lt {x y : Int} (hx : 48 ≤ x ∧ x ≤ 57) (hy : 48 ≤ y ∧ y ≤ 57) : (nb x < nb y) ↔ x < y := by
  unfold nb
  rw [UInt8.lt_iff_toNat_lt, UInt8.toNat_ofNat', UInt8.toNat_ofNat']
  omega
theorem nb_eq {x y : Int} (hx : 48 ≤ x ∧ x ≤ 57) (hy : 48 ≤ y ∧ y ≤ 57) : (nb x = nb y) ↔ x = y := by
  unfold nb
  rw [← UInt8.toNat_inj, UInt8.toNat_ofNat', UInt8.toNat_ofNat']
  omega
theorem less_dv : ∀ (a b : List Int), Dd a → Dd b → a.length = b.length → Op.bytesLess (a.map nb) (b.map nb) = decide (dv a < dv b)
  | [], [], _, _, _ => rfl
  | x :: s, y :: t, ha, hb, hl => by
    obtain ⟨hx, hs⟩ := Dd_cons.1 ha
    obtain ⟨hy, ht⟩ := Dd_cons.1 hb
    have hl2 : s.length = t.length := by simpa using hl
    have ih := less_dv s t hs ht hl2
    have r1 := dv_range hs
    have r2 := dv_range ht
    have hp := ten_pos t.length
    show (decide (nb x < nb y) || (nb x == nb y && Op.bytesLess (s.map nb) (t.map nb))) = _
    rw [ih, dv_cons, dv_cons, hl2]
    rw [hl2] at r1
    rcases Int.lt_trichotomy x y with h | h | h
    · rw [decide_eq_true ((nb_lt hx hy).2 h), Bool.true_or]
      have := Int.mul_le_mul_of_nonneg_right (show x - 48 + 1 ≤ y - 48 by omega) (Int.le_of_lt hp)
      rw [Int.add_mul, Int.one_mul] at this
      exact (decide_eq_true (by omega)).symm
    · subst h
      rw [decide_eq_false (fun h => by have := (nb_lt hx hy).1 h; omega), Bool.false_or, beq_self_eq_true, Bool.true_and]
      by_cases h2 : dv s < dv t
      · rw [decide_eq_true h2]; exact (decide_eq_true (by omega)).symm
      · rw [decide_eq_false h2]; exact (decide_eq_false (by omega)).symm
    · rw [decide_eq_false (fun h2 => by have := (nb_lt hx hy).1 h2; omega), Bool.false_or]
      have e : (nb x == nb y) = false := by
        rw [beq_eq_false_iff_ne]; intro h2; have := (nb_eq hx hy).1 h2; omega
      rw [e, Bool.false_and]
      have := Int.mul_le_mul_of_nonneg_right (show y - 48 + 1 ≤ x - 48 by omega) (Int.le_of_lt hp)
      rw [Int.add_mul, Int.one_mul] at this
      exact (decide_eq_false (by omega)).symm
  | [], y :: t, _, _, h => by simp at h
  | x :: s, [], _, _, h => by simp at h
theorem dorder_in {a b : List Int} (ha : Wl a) (hb : Wl b) (la : a.length ≤ 20) (lb : b.length ≤ 20) : Ev (fun k => gradinelaw06_DigitOrder.j0 k a b false) true := by
  have na := nv_nonneg ha.1
  have nb := nv_nonneg hb.1
  have done : Ev (fun k => (gradinelaw06_same.f k).bind fun t => some t) true := Ev.bind law06_same_c (Ev.same rfl)
  have ta := sh_Tx na
  have tb := sh_Tx nb
  have va := dv_sh na
  have vb := dv_sh nb
  have hc : decide (cmpI (nv a) (nv b) < 0) = decide (nv a < nv b) := by
    by_cases h : nv a < nv b
    · rw [cmpI_lt h, decide_eq_true h]; rfl
    · rw [decide_eq_false h]
      unfold cmpI; rw [if_neg h]; split <;> rfl
  have less : (sh (nv a)).length = (sh (nv b)).length → Op.bytesLess (strOfNums (sh (nv a))).toList (strOfNums (sh (nv b))).toList = decide (nv a < nv b) := by
    intro h
    rw [ByteArray.toList_eq, ByteArray.toList_eq, strOfNums_data, strOfNums_data]
    have := less_dv (sh (nv a)) (sh (nv b)) ta.1 tb.1 h
    rw [va, vb] at this
    exact this
  have s1 : (sh (nv a)).length < (sh (nv b)).length → nv a < nv b := fun h => by have := Tx_short ta tb h; rwa [va, vb] at this
  have s2 : (sh (nv b)).length < (sh (nv a)).length → nv b < nv a := fun h => by have := Tx_short tb ta h; rwa [va, vb] at this
  refine Ev.step (fun k => gradinelaw06_DigitOrder.j0.eq_2 ..) ?_
  refine Ev.ifn (by decide) (Ev.bind (digit_Show_c ha (by omega)) (Ev.bind (digit_Show_c hb (by omega)) ?_))
  have C := ref02_Cmp_c ha hb
  rw [strOfNums_size, strOfNums_size]
  by_cases h1 : ((sh (nv a)).length : Int) < ((sh (nv b)).length : Int)
  · refine Ev.ifp h1 (Ev.bind C (Ev.ifp ?_ done))
    rw [hc, decide_eq_true (s1 (by omega))]; rfl
  · refine Ev.ifn h1 ?_
    by_cases h2 : ((sh (nv a)).length : Int) = ((sh (nv b)).length : Int)
    · refine Ev.ifp h2 (Ev.bind C (Ev.ifp ?_ done))
      rw [hc, less (by omega)]; simp
    · refine Ev.ifn h2 (Ev.bind C (Ev.ifp ?_ done))
      have := s2 (by omega)
      rw [hc, decide_eq_false (by omega)]; rfl
theorem dorder_out (a b : List Int) : Ev (fun k => gradinelaw06_DigitOrder.j0 k a b true) true := by
  refine Ev.step (fun k => gradinelaw06_DigitOrder.j0.eq_2 ..) ?_
  exact Ev.ifp rfl (Ev.bind law06_same_c (Ev.same rfl))
theorem DigitOrder : gradinelaw06_DigitOrder.Pure := by
  intro a b _ _ ha _ _ hb
  refine Ev.rounds ?_
  by_cases la : (a.length : Int) > 20
  · exact Ev.ifp la (dorder_out a b)
  · refine Ev.ifn la ?_
    by_cases lb : (b.length : Int) > 20
    · rw [decide_eq_true lb]; exact dorder_out a b
    · rw [decide_eq_false lb]
      exact dorder_in (Wl_of (m := 20) ha (by omega)) (Wl_of (m := 20) hb (by omega)) (by omega) (by omega)
end Go.Proofs.Ytldcgclbgbhffaa.Pure
