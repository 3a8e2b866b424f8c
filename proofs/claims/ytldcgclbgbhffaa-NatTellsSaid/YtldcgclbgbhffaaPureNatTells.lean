/- What a number tells of itself is what the reference tells: for all numbers of up to 60 words and every place. -/
import Derived.Test.YtldcgclbgbhffaaS02
import Derived.Test.YtldcgclbgbhffaaC02s
import Derived.Test.YtldcgclbgbhffaaFgradinelaw02NatTells
namespace Go.Proofs.Ytldcgclbgbhffaa.Pure
open Go.RowKit Go.Proofs.Ytldcgclbgbhffaa.P Go.Proofs.Ytldcgclbgbhffaa.M Go.Proofs.YtldcgclbgbhffaaW.PrintWords Go.Proofs.YtldcgclbgbhffaaW.PrintLast Go.Proofs.YtldcgclbgbhffaaW.PrintMore
theorem tells_3 {a : List Int} {n : Int} (ha : Wl a) (la : a.length ≤ 60) (hn : n ≤ 9223372036854775807) : Ev (fun k => gradinelaw02_NatTells.j3 k a n false) true := by
  refine Ev.step (fun k => gradinelaw02_NatTells.j3.eq_2 ..) ?_
  refine Ev.ifn (by decide) ?_
  refine Ev.bind (nat_Bits_c ha) (Ev.bind (ref02_Bits_c ha) (Ev.ifp rfl ?_))
  refine Ev.bindc (nat_Bit_c ha hn) (Ev.bindc (ref02_Bit_c ha hn) (Ev.ifp (by simp) ?_))
  refine Ev.bind (nat_Even_c ha) (Ev.bind (ref02_Even_c ha) (Ev.ifp rfl ?_))
  exact Ev.bind law02_same_c (Ev.same rfl)
theorem tells_2 {a b : List Int} {n : Int} (ha : Wl a) (hb : Wl b) (la : a.length ≤ 60) (lb : b.length ≤ 60) (hn : n ≤ 9223372036854775807) : Ev (fun k => gradinelaw02_NatTells.j2 k a b n (dg (nv a)) false) true := by
  have ba := bl_nv ha.1
  have l1 := len_dg (n := nv a) (by omega)
  have h3 := tells_3 ha la hn
  refine Ev.step (fun k => gradinelaw02_NatTells.j2.eq_2 ..) ?_
  refine Ev.ifn (by decide) ?_
  refine Ev.bindc (nat_Right_c ha) (Ev.bind (ref02_Right_c ha) (Ev.ifn (by simp) ?_))
  refine Ev.bind (nat_Trim_c ha) (Ev.bind (Words_c (by omega)) (Ev.ifp (by simp) ?_))
  refine Ev.bind (nat_Cmp_c ha hb) (Ev.bind (ref02_Cmp_c ha hb) ?_)
  have e : (cmpI (nv a) (nv b) != cmpI (nv a) (nv b)) = false := by simp
  rw [e]
  exact h3
theorem tells_in {a b : List Int} {n : Int} (ha : Wl a) (hb : Wl b) (la : a.length ≤ 60) (lb : b.length ≤ 60) (hn : n ≤ 9223372036854775807) : Ev (fun k => gradinelaw02_NatTells.j0 k a b n false) true := by
  have ba := bl_nv ha.1
  have na := nv_nonneg ha.1
  have h2 := tells_2 ha hb la lb hn
  refine Ev.step (fun k => gradinelaw02_NatTells.j0.eq_2 ..) ?_
  refine Ev.ifn (by decide) ?_
  refine Ev.bind (nat_Word_c ha) (Ev.bind (ref02_Trim_c ha) ?_)
  have go : ∀ (x : Int) (t : Bool), U x → (decide (((dg (nv a)).length : Int) < 2)) = t → Ev (fun k => gradinelaw02_NatTells.j1 k a b n x t (dg (nv a)) x) true := by
    intro x t hx hd
    have bx := bl_le_of (x := x) (n := 64) (by have := hx.2; omega)
    have lx := len_dg (n := x) (by omega)
    have ht := ref02_Trim_c (l := [x]) ⟨Ws_one hx, by simp⟩
    rw [nv_one] at ht
    refine Ev.step (fun k => gradinelaw02_NatTells.j1.eq_2 ..) ?_
    rw [hd]
    refine Ev.ifn (by simp) (Ev.ifp rfl ?_)
    refine Ev.bind (nat_Of_c hx) (Ev.bind ht (Ev.bind (Words_c (by omega)) ?_))
    have e : (!(decide (dg x = dg x))) = false := by simp
    rw [e]
    exact h2
  by_cases h : nv a < 18446744073709551616
  · rw [if_pos h]
    by_cases hz : nv a = 0
    · have e : dg (nv a) = [] := by rw [hz]; rfl
      have := go 0 true (by unfold U; omega) (by rw [e]; rfl)
      rw [e] at this ⊢
      refine Ev.ifn (by simp) ?_
      rw [hz]
      exact this
    · have e : dg (nv a) = [nv a] := by
        rw [dg_pos (by omega), show nv a / 18446744073709551616 = 0 by omega, dg_zero, show nv a % 18446744073709551616 = nv a by omega]
      have := go (nv a) true (by unfold U; omega) (by rw [e]; rfl)
      rw [e] at this ⊢
      refine Ev.ifp (by simp) (Ev.ifp (by simp) ?_)
      have er : rd [nv a] 0 = nv a := rfl
      rw [er]
      exact this
  · rw [if_neg h]
    have hl := le_dg_len (n := nv a) (m := 1) (by rw [Wp_succ, Wp_zero]; omega)
    exact Ev.ifn (by omega) (go 0 false (by unfold U; omega) (decide_eq_false (by omega)))
theorem tells_out (a b : List Int) (n : Int) : Ev (fun k => gradinelaw02_NatTells.j0 k a b n true) true := by
  refine Ev.step (fun k => gradinelaw02_NatTells.j0.eq_2 ..) ?_
  exact Ev.ifp rfl (Ev.bind law02_same_c (Ev.same rfl))
theorem NatTells : gradinelaw02_NatTells.Pure := by
  intro a b n _ _ ha _ _ hb hn
  refine Ev.rounds ?_
  by_cases la : (a.length : Int) > 60
  · exact Ev.ifp la (tells_out a b n)
  · refine Ev.ifn la ?_
    by_cases lb : (b.length : Int) > 60
    · rw [decide_eq_true lb]; exact tells_out a b n
    · rw [decide_eq_false lb]
      exact tells_in (Wl_of (m := 60) ha (by omega)) (Wl_of (m := 60) hb (by omega)) (by omega) (by omega) (wf_i64 hn).2
end Go.Proofs.Ytldcgclbgbhffaa.Pure
