/- Sums of numbers can be taken in any order, and what is added is taken away again: for all numbers of up to 60 words. -/
import Derived.Test.YtldcgclbgbhffaaS02
import Derived.Test.YtldcgclbgbhffaaFgradinelaw02NatRing
namespace Go.Proofs.Ytldcgclbgbhffaa.Pure
open Go.RowKit Go.Proofs.Ytldcgclbgbhffaa.P Go.Proofs.Ytldcgclbgbhffaa.M Go.Proofs.YtldcgclbgbhffaaW.PrintWords Go.Proofs.YtldcgclbgbhffaaW.PrintLast Go.Proofs.YtldcgclbgbhffaaW.PrintMore
theorem ring_in {a b c : List Int} (ha : Wl a) (hb : Wl b) (hc : Wl c) (la : a.length ≤ 60) (lb : b.length ≤ 60) (lc : c.length ≤ 60) : Ev (fun k => gradinelaw02_NatRing.j0 k a b c false) true := by
  have ba := bl_nv ha.1
  have bb := bl_nv hb.1
  have bc := bl_nv hc.1
  have na := nv_nonneg ha.1
  have nb := nv_nonneg hb.1
  have nc := nv_nonneg hc.1
  have bab := bl_add na nb (m := 3840) (by omega) (by omega)
  have bcb := bl_add nc nb (m := 3840) (by omega) (by omega)
  have w1 := Wl_dg (n := nv a + nv b) (by omega)
  have w2 := Wl_dg (n := nv c + nv b) (by omega)
  have l1 := len_dg (n := nv a + nv b) (by omega)
  have l2 := len_dg (n := nv c + nv b) (by omega)
  have e1 := nv_dg (n := nv a + nv b) (by omega)
  have e2 := nv_dg (n := nv c + nv b) (by omega)
  refine Ev.step (fun k => gradinelaw02_NatRing.j0.eq_2 ..) ?_
  refine Ev.ifn (by decide) ?_
  have s := nat_Add_c ha hb (by omega) (by omega)
  refine Ev.bind s (Ev.bind (nat_Sub_c w1 hb (by rw [e1]; omega)) (Ev.bind s ?_))
  refine Ev.bind (nat_Add_c w1 hc (by omega) (by omega)) (Ev.bind (nat_Add_c hc hb (by omega) (by omega)) ?_)
  refine Ev.bind (nat_Add_c ha w2 (by omega) (by omega)) ?_
  rw [e1, e2, show nv a + (nv c + nv b) = nv a + nv b + nv c by omega, show nv a + nv b - nv b = nv a by omega]
  have b3 := bl_add (x := nv a + nv b) (y := nv c) (by omega) nc (m := 3841) (by omega) (by omega)
  have l3 := len_dg (n := nv a + nv b + nv c) (by omega)
  refine Ev.bind (Words_c (by omega)) ?_
  refine Ev.ifp (by simp) (Ev.ifp rfl ?_)
  have la2 := dg_len_list ha.1
  refine Ev.bind (nat_Trim_c ha) (Ev.bind (Words_c (a := dg (nv a)) (by omega)) (Ev.ifp (by simp) ?_))
  exact Ev.bind law02_same_c (Ev.same rfl)
theorem ring_out (a b c : List Int) : Ev (fun k => gradinelaw02_NatRing.j0 k a b c true) true := by
  refine Ev.step (fun k => gradinelaw02_NatRing.j0.eq_2 ..) ?_
  exact Ev.ifp rfl (Ev.bind law02_same_c (Ev.same rfl))
theorem NatRing : gradinelaw02_NatRing.Pure := by
  intro a b c _ _ ha _ _ hb _ _ hc
  refine Ev.rounds ?_
  by_cases la : (a.length : Int) > 60
  · exact Ev.ifp la (ring_out a b c)
  · refine Ev.ifn la ?_
    by_cases lb : (b.length : Int) > 60
    · exact Ev.ifp lb (ring_out a b c)
    · refine Ev.ifn lb ?_
      by_cases lc : (c.length : Int) > 60
      · rw [decide_eq_true lc]; exact ring_out a b c
      · rw [decide_eq_false lc]
        exact ring_in (Wl_of (m := 60) ha (by omega)) (Wl_of (m := 60) hb (by omega)) (Wl_of (m := 60) hc (by omega)) (by omega) (by omega) (by omega)
end Go.Proofs.Ytldcgclbgbhffaa.Pure
