/- A product and a smaller rest, divided again, give the factor and the rest: for all numbers of up to 24 words. -/
import Derived.Test.YtldcgclbgbhffaaS04
import Derived.Test.YtldcgclbgbhffaaFgradinelaw04QuotBack
namespace Go.Proofs.Ytldcgclbgbhffaa.Pure
open Go.RowKit Go.Proofs.Ytldcgclbgbhffaa.P Go.Proofs.Ytldcgclbgbhffaa.M Go.Proofs.YtldcgclbgbhffaaW.PrintWords Go.Proofs.YtldcgclbgbhffaaW.PrintLast Go.Proofs.YtldcgclbgbhffaaW.PrintMore
theorem qback_in {a b c : List Int} (ha : Wl a) (hb : Wl b) (hc : Wl c) (la : a.length ≤ 24) (lb : b.length ≤ 24) (lc : c.length ≤ 24) (hlt : nv c < nv b) : Ev (fun k => gradinelaw04_QuotBack.j0 k a b c false) true := by
  have na := nv_nonneg ha.1
  have nb := nv_nonneg hb.1
  have nc := nv_nonneg hc.1
  have ba := bl_nv ha.1
  have bb := bl_nv hb.1
  have bc := bl_nv hc.1
  have done : Ev (fun k => (gradinelaw04_same.f k).bind fun t => some t) true := Ev.bind law04_same_c (Ev.same rfl)
  have nab := Int.mul_nonneg na nb
  have bab := bl_mul na nb
  have wab := Wl_dg (n := nv a * nv b) (by omega)
  have kab := dg_len_bl (nv a * nv b)
  have S := nat_Add_c wab hc (by omega) (by omega)
  rw [nv_dg nab] at S
  have bs := bl_add nab nc (m := 3072) (by omega) (by omega)
  have ks := dg_len_bl (nv a * nv b + nv c)
  have D := quot_Div_c (Wl_dg (n := nv a * nv b + nv c) (by omega)) hb (by omega)
  have hq : (nv a * nv b + nv c) / nv b = nv a := by
    rw [Int.add_comm, Int.mul_comm, Int.add_mul_ediv_left _ _ (by omega), Int.ediv_eq_zero_of_lt nc hlt]; omega
  have hm : (nv a * nv b + nv c) % nv b = nv c := by
    rw [Int.add_comm, Int.mul_comm, Int.add_mul_emod_self_left, Int.emod_eq_of_lt nc hlt]
  rw [nv_dg (Int.add_nonneg nab nc), if_neg (by omega), hq, hm] at D
  have ka := dg_len_bl (nv a)
  have kc := dg_len_bl (nv c)
  refine Ev.step (fun k => gradinelaw04_QuotBack.j0.eq_2 ..) ?_
  refine Ev.ifn (by decide) (Ev.bind (prod_Mul_c ha hb (by omega) (by omega)) (Ev.bind S (Ev.bind D (Ev.bind (nat_Trim_c ha) (Ev.bind (Words_c (a := dg (nv a)) (by omega)) (Ev.ifp (by simp) ?_))))))
  exact Ev.bind (nat_Trim_c hc) (Ev.bind (Words_c (a := dg (nv c)) (by omega)) (Ev.ifp (by simp) (Ev.ifp rfl done)))
theorem qback_out (a b c : List Int) : Ev (fun k => gradinelaw04_QuotBack.j0 k a b c true) true := by
  refine Ev.step (fun k => gradinelaw04_QuotBack.j0.eq_2 ..) ?_
  exact Ev.ifp rfl (Ev.bind law04_same_c (Ev.same rfl))
theorem QuotBack : gradinelaw04_QuotBack.Pure := by
  intro a b c _ _ ha _ _ hb _ _ hc
  refine Ev.rounds ?_
  by_cases la : (a.length : Int) > 24
  · exact Ev.ifp la (qback_out a b c)
  · refine Ev.ifn la ?_
    by_cases lb : (b.length : Int) > 24
    · exact Ev.ifp lb (qback_out a b c)
    · refine Ev.ifn lb ?_
      by_cases lc : (c.length : Int) > 24
      · exact Ev.ifp lc (qback_out a b c)
      · refine Ev.ifn lc ?_
        have wa := Wl_of (m := 24) ha (by omega)
        have wb := Wl_of (m := 24) hb (by omega)
        have wc := Wl_of (m := 24) hc (by omega)
        refine Ev.bind (nat_Cmp_c wc wb) ?_
        by_cases h : nv c < nv b
        · rw [cmpI_lt h, show decide ((-1 : Int) ≥ 0) = false by decide]
          exact qback_in wa wb wc (by omega) (by omega) (by omega) h
        · have e : decide (cmpI (nv c) (nv b) ≥ 0) = true := by
            rw [decide_eq_true_iff]; unfold cmpI; rw [if_neg h]; split <;> omega
          rw [e]; exact qback_out a b c
end Go.Proofs.Ytldcgclbgbhffaa.Pure
