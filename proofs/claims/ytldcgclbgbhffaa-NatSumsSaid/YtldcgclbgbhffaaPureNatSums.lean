/- Sums, differences and moves of numbers are the reference's: for all numbers of up to 60 words and every count of bits. -/
import Derived.Test.YtldcgclbgbhffaaS02
import Derived.Test.YtldcgclbgbhffaaC02s
import Derived.Test.YtldcgclbgbhffaaFgradinelaw02NatSums
namespace Go.Proofs.Ytldcgclbgbhffaa.Pure
open Go.RowKit Go.Proofs.Ytldcgclbgbhffaa.P Go.Proofs.Ytldcgclbgbhffaa.M Go.Proofs.YtldcgclbgbhffaaW.PrintWords Go.Proofs.YtldcgclbgbhffaaW.PrintLast Go.Proofs.YtldcgclbgbhffaaW.PrintMore
theorem sums_2 {a b : List Int} {n : Int} (ha : Wl a) (hb : Wl b) (la : a.length ≤ 60) (lb : b.length ≤ 60) (hn : n ≤ 9223372036854775807) : Ev (fun k => gradinelaw02_NatSums.j1 k a b n false) true := by
  have ba := bl_nv ha.1
  have bb := bl_nv hb.1
  have na := nv_nonneg ha.1
  have nb := nv_nonneg hb.1
  have bab := bl_add na nb (m := 3840) (by omega) (by omega)
  have l1 := len_dg (n := nv a + nv b) (by omega)
  have hs := shn_le n
  have ps := pow_pos (shn n)
  have bs := bl_le_of (x := 2 ^ shn n) (n := shn n + 1) (by rw [Int.pow_succ]; omega)
  have bx := bl_mul na (Int.le_of_lt ps)
  have l2 := len_dg (n := nv a * 2 ^ shn n) (by omega)
  have hdiv : nv a / 2 ^ n.toNat ≤ nv a := Int.ediv_le_self _ na
  have bm := bl_mono hdiv
  have l3 := len_dg (n := nv a / 2 ^ n.toNat) (by omega)
  refine Ev.step (fun k => gradinelaw02_NatSums.j1.eq_2 ..) ?_
  refine Ev.ifn (by decide) ?_
  refine Ev.bind (nat_Add_c ha hb (by omega) (by omega)) (Ev.bind (ref02_Add_c ha hb (by omega) (by omega)) (Ev.bind (Words_c (by omega)) (Ev.ifp (by simp) ?_)))
  refine Ev.bind (nat_Shl_c ha (by omega) n) (Ev.bind (ref02_Shl_c ha (by omega) n) (Ev.bind (Words_c (by omega)) (Ev.ifp (by simp) ?_)))
  refine Ev.bind (nat_Shr_c ha hn) (Ev.bind (ref02_Shr_c ha hn) (Ev.bind (Words_c (by omega)) (Ev.ifp (by simp) ?_)))
  exact Ev.bind law02_same_c (Ev.same rfl)
theorem sums_in {a b : List Int} {n : Int} (ha : Wl a) (hb : Wl b) (la : a.length ≤ 60) (lb : b.length ≤ 60) (hn : n ≤ 9223372036854775807) : Ev (fun k => gradinelaw02_NatSums.j0 k a b n false) true := by
  have ba := bl_nv ha.1
  have nb := nv_nonneg hb.1
  have h2 := sums_2 ha hb la lb hn
  refine Ev.step (fun k => gradinelaw02_NatSums.j0.eq_2 ..) ?_
  refine Ev.ifn (by decide) ?_
  by_cases h : nv b ≤ nv a
  · have bm := bl_mono (show nv a - nv b ≤ nv a by omega)
    have l1 := len_dg (n := nv a - nv b) (by omega)
    have hc : decide (cmpI (nv a) (nv b) ≥ 0) = true := by
      unfold cmpI; rw [if_neg (by omega)]; split <;> rfl
    refine Ev.bind (nat_Sub_c ha hb h) (Ev.bind (ref02_Cmp_c ha hb) ?_)
    rw [hc]
    refine Ev.ifn (by simp) (Ev.ifp rfl ?_)
    exact Ev.bind (ref02_Sub_c ha hb (by omega) (by omega) h) (Ev.bind (Words_c (a := dg (nv a - nv b)) (by omega)) (Ev.ifp (by simp) h2))
  · have hc : decide (cmpI (nv a) (nv b) ≥ 0) = false := by rw [cmpI_lt (by omega)]; rfl
    refine Ev.bind (nat_Sub_no ha hb (by omega)) (Ev.bind (ref02_Cmp_c ha hb) ?_)
    rw [hc]
    exact Ev.ifn (by simp) (Ev.ifn (by simp) h2)
theorem sums_out (a b : List Int) (n : Int) : Ev (fun k => gradinelaw02_NatSums.j0 k a b n true) true := by
  refine Ev.step (fun k => gradinelaw02_NatSums.j0.eq_2 ..) ?_
  exact Ev.ifp rfl (Ev.bind law02_same_c (Ev.same rfl))
theorem NatSums : gradinelaw02_NatSums.Pure := by
  intro a b n _ _ ha _ _ hb hn
  refine Ev.rounds ?_
  by_cases la : (a.length : Int) > 60
  · exact Ev.ifp la (sums_out a b n)
  · refine Ev.ifn la ?_
    by_cases lb : (b.length : Int) > 60
    · rw [decide_eq_true lb]; exact sums_out a b n
    · rw [decide_eq_false lb]
      exact sums_in (Wl_of (m := 60) ha (by omega)) (Wl_of (m := 60) hb (by omega)) (by omega) (by omega) (wf_i64 hn).2
end Go.Proofs.Ytldcgclbgbhffaa.Pure
