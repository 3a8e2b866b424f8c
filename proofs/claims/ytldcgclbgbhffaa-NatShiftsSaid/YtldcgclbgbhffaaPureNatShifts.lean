/- A number moved up twice is moved by both together; moved up and down again it is the same; it has as many bits more: for all numbers of up to 60 words, by up to 2000 bits each time. -/
import Derived.Test.YtldcgclbgbhffaaS02
import Derived.Test.YtldcgclbgbhffaaFgradinelaw02NatShifts
namespace Go.Proofs.Ytldcgclbgbhffaa.Pure
open Go.RowKit Go.Proofs.Ytldcgclbgbhffaa.P Go.Proofs.Ytldcgclbgbhffaa.M Go.Proofs.YtldcgclbgbhffaaW.PrintWords Go.Proofs.YtldcgclbgbhffaaW.PrintLast Go.Proofs.YtldcgclbgbhffaaW.PrintMore
theorem bl_shl {x : Int} (h : 0 < x) (m : Nat) : bl (x * 2 ^ m) = bl x + m := by
  have hp := pow_pos m
  have h1 : 2 ^ m ≤ x * 2 ^ m := by
    have := Int.mul_le_mul_of_nonneg_right (show 1 ≤ x by omega) (Int.le_of_lt hp)
    omega
  rw [bl_shr h1, Int.mul_ediv_cancel _ (by omega)]
theorem tz_unique {x : Int} (h : 0 < x) {n : Nat} (h1 : x / 2 ^ n % 2 = 1) (h2 : ∀ j, j < n → x / 2 ^ j % 2 = 0) : tz x = n := by
  obtain ⟨m, e, h3, h4⟩ := tz_spec h
  rcases Nat.lt_trichotomy m n with h5 | h5 | h5
  · have := h2 m h5; omega
  · rw [e, h5]
  · have := h4 n h5; omega
theorem tz_shl {x : Int} (h : 0 < x) (m : Nat) : tz (x * 2 ^ m) = tz x + m := by
  obtain ⟨n, e, h1, h2⟩ := tz_spec h
  have hp := pow_pos m
  have hx : 0 < x * 2 ^ m := Int.mul_pos h hp
  rw [e]
  refine (tz_unique hx (n := n + m) ?_ ?_).trans (by omega)
  · rw [Nat.add_comm, Int.pow_add, ← Int.ediv_ediv_of_nonneg (Int.le_of_lt hp), Int.mul_ediv_cancel _ (by omega)]; exact h1
  · intro j hj
    rcases Nat.lt_or_ge j m with h3 | h3
    · have e2 : x * 2 ^ m = x * 2 ^ (m - j - 1) * 2 * 2 ^ j := by
        have : (2 : Int) ^ m = 2 ^ (m - j - 1) * 2 * 2 ^ j := by rw [← Int.pow_succ, ← Int.pow_add, show m - j - 1 + 1 + j = m by omega]
        rw [this]
        grind
      have hj2 := pow_pos j
      rw [e2, Int.mul_ediv_cancel _ (by omega), Int.mul_emod_left]
    · have e2 : j = m + (j - m) := by omega
      rw [e2, Int.pow_add, ← Int.ediv_ediv_of_nonneg (Int.le_of_lt hp), Int.mul_ediv_cancel _ (by omega)]
      exact h2 _ (by omega)
theorem shifts_in {a : List Int} {m n : Int} (ha : Wl a) (la : a.length ≤ 60) (hm0 : 0 ≤ m) (hm1 : m ≤ 2000) (hn0 : 0 ≤ n) (hn1 : n ≤ 2000) : Ev (fun k => gradinelaw02_NatShifts.j0 k a m n false) true := by
  have ba := bl_nv ha.1
  have na := nv_nonneg ha.1
  have sm := shn_of hm0 (by omega)
  have sn := shn_of hn0 (by omega)
  have smn := shn_of (n := m + n) (by omega) (by omega)
  have pm := pow_pos m.toNat
  have pn := pow_pos n.toNat
  have bpm := bl_le_of (x := 2 ^ m.toNat) (n := m.toNat + 1) (by rw [Int.pow_succ]; omega)
  have bpn := bl_le_of (x := 2 ^ n.toNat) (n := n.toNat + 1) (by rw [Int.pow_succ]; omega)
  have x0 : 0 ≤ nv a * 2 ^ m.toNat := Int.mul_nonneg na (by omega)
  have bx := bl_mul na (show (0 : Int) ≤ 2 ^ m.toNat by omega)
  have wx := Wl_dg (n := nv a * 2 ^ m.toNat) (by omega)
  have lx := len_dg (n := nv a * 2 ^ m.toNat) (by omega)
  have ex := nv_dg x0
  have bz := bl_mul x0 (show (0 : Int) ≤ 2 ^ n.toNat by omega)
  have lz := len_dg (n := nv a * 2 ^ m.toNat * 2 ^ n.toNat) (by omega)
  have hla := dg_len_list ha.1
  have h1 := nat_Shl_c ha (by omega) m
  have h2 := nat_Shl_c wx (by omega) n
  have h3 := nat_Shl_c ha (by omega) (m + n)
  have h4 := nat_Shr_c wx (n := m) (by omega)
  rw [sm] at h1
  rw [sn, ex] at h2
  rw [smn, show (m + n).toNat = m.toNat + n.toNat by omega, Int.pow_add, ← Int.mul_assoc] at h3
  rw [ex, Int.mul_ediv_cancel _ (by omega)] at h4
  refine Ev.step (fun k => gradinelaw02_NatShifts.j0.eq_2 ..) ?_
  refine Ev.ifn (by decide) ?_
  rw [w64_id (by omega) (by omega)]
  refine Ev.bind h1 (Ev.bind h2 (Ev.bind h3 (Ev.bind (Words_c (by omega)) (Ev.ifp (by simp) ?_))))
  refine Ev.bind h4 (Ev.bind (nat_Trim_c ha) (Ev.bind (Words_c (by omega)) ?_))
  have hb : (!(decide (dg (nv a) = dg (nv a)))) = false := by simp
  rw [hb]
  refine Ev.step (fun k => gradinelaw02_NatShifts.j1.eq_2 ..) ?_
  refine Ev.ifn (by decide) ?_
  by_cases hz : nv a = 0
  · refine Ev.ifp ?_ (Ev.bind law02_same_c (Ev.same rfl))
    rw [hz, Int.zero_mul]; rfl
  · have hp : 0 < nv a := by omega
    have hxp : 0 < nv a * 2 ^ m.toNat := Int.mul_pos hp pm
    refine Ev.ifn ?_ ?_
    · intro h
      have := (dg_len_zero x0).1 (by omega)
      omega
    · have hb1 := nat_Bits_c wx
      have hb2 := nat_Even_c wx
      rw [ex, bl_shl hp] at hb1
      rw [ex, tz_shl hp] at hb2
      have t1 := tz_lt hp
      have t2 := bl_nonneg (nv a)
      obtain ⟨q, hq, _⟩ := tz_spec hp
      refine Ev.bind hb1 (Ev.bind (nat_Bits_c ha) (Ev.ifp ?_ ?_))
      · rw [w64_id (by omega) (by omega)]; omega
      · refine Ev.bind hb2 (Ev.bind (nat_Even_c ha) (Ev.ifp ?_ (Ev.bind law02_same_c (Ev.same rfl))))
        rw [w64_id (by omega) (by omega)]; omega
theorem shifts_out (a : List Int) (m n : Int) : Ev (fun k => gradinelaw02_NatShifts.j0 k a m n true) true := by
  refine Ev.step (fun k => gradinelaw02_NatShifts.j0.eq_2 ..) ?_
  exact Ev.ifp rfl (Ev.bind law02_same_c (Ev.same rfl))
theorem NatShifts : gradinelaw02_NatShifts.Pure := by
  intro a m n _ _ ha hm hn
  refine Ev.rounds ?_
  by_cases la : (a.length : Int) > 60
  · exact Ev.ifp la (shifts_out a m n)
  · refine Ev.ifn la ?_
    by_cases c1 : m < 0
    · exact Ev.ifp c1 (shifts_out a m n)
    · refine Ev.ifn c1 ?_
      by_cases c2 : m > 2000
      · exact Ev.ifp c2 (shifts_out a m n)
      · refine Ev.ifn c2 ?_
        by_cases c3 : n < 0
        · exact Ev.ifp c3 (shifts_out a m n)
        · refine Ev.ifn c3 ?_
          by_cases c4 : n > 2000
          · rw [decide_eq_true c4]; exact shifts_out a m n
          · rw [decide_eq_false c4]
            exact shifts_in (Wl_of (m := 60) ha (by omega)) (by omega) (by omega) (by omega) (by omega) (by omega)
end Go.Proofs.Ytldcgclbgbhffaa.Pure
