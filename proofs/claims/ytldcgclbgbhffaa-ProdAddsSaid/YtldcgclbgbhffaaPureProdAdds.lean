/- A power by one number times a power by another is the power by their sum: for all numbers of up to 3 words and exponents of up to 20. -/
import Derived.Test.YtldcgclbgbhffaaS03
import Derived.Test.YtldcgclbgbhffaaFgradinelaw03ProdAdds
namespace Go.Proofs.Ytldcgclbgbhffaa.Pure
open Go.RowKit Go.Proofs.Ytldcgclbgbhffaa.P Go.Proofs.Ytldcgclbgbhffaa.M Go.Proofs.YtldcgclbgbhffaaW.PrintWords Go.Proofs.YtldcgclbgbhffaaW.PrintLast Go.Proofs.YtldcgclbgbhffaaW.PrintMore
theorem padds_in {a : List Int} {m n : Int} (ha : Wl a) (la : a.length ≤ 3) (hm0 : 0 ≤ m) (hm1 : m ≤ 20) (hn0 : 0 ≤ n) (hn1 : n ≤ 20) : Ev (fun k => gradinelaw03_ProdAdds.j0 k a m n false) true := by
  have na := nv_nonneg ha.1
  have ba := bl_nv ha.1
  have h1 := prod_Pow_c ha (by omega) m
  have h2 := prod_Pow_c ha (by omega) n
  have h3 := prod_Pow_c ha (by omega) (m + n)
  rw [pown_of hm0 (by omega)] at h1
  rw [pown_of hn0 (by omega)] at h2
  rw [pown_of (by omega) (by omega), show (m + n).toNat = m.toNat + n.toNat by omega] at h3
  have b1 := bl_pow_le na ba m.toNat (by omega)
  have b2 := bl_pow_le na ba n.toNat (by omega)
  have b3 := bl_pow_le na ba (m.toNat + n.toNat) (by omega)
  have l3 := len_dg (n := nv a ^ (m.toNat + n.toNat)) (by omega)
  have hm := prod_Mul_dg (pow_nn na m.toNat) (pow_nn na n.toNat) (by omega) (by omega)
  rw [← Int.pow_add] at hm
  refine Ev.step (fun k => gradinelaw03_ProdAdds.j0.eq_2 ..) ?_
  rw [w64_id (by omega) (by omega)]
  refine Ev.ifn (by decide) (Ev.bind h1 (Ev.bind h2 (Ev.bind hm (Ev.bind h3 (Ev.bind (Words_c (by omega)) (Ev.ifp (by simp) ?_))))))
  exact Ev.bind law03_same_c (Ev.same rfl)
theorem padds_out (a : List Int) (m n : Int) : Ev (fun k => gradinelaw03_ProdAdds.j0 k a m n true) true := by
  refine Ev.step (fun k => gradinelaw03_ProdAdds.j0.eq_2 ..) ?_
  exact Ev.ifp rfl (Ev.bind law03_same_c (Ev.same rfl))
theorem ProdAdds : gradinelaw03_ProdAdds.Pure := by
  intro a m n _ _ ha hm hn
  refine Ev.rounds ?_
  by_cases la : (a.length : Int) > 3
  · exact Ev.ifp la (padds_out a m n)
  · refine Ev.ifn la ?_
    by_cases c1 : m < 0
    · exact Ev.ifp c1 (padds_out a m n)
    · refine Ev.ifn c1 ?_
      by_cases c2 : m > 20
      · exact Ev.ifp c2 (padds_out a m n)
      · refine Ev.ifn c2 ?_
        by_cases c3 : n < 0
        · exact Ev.ifp c3 (padds_out a m n)
        · refine Ev.ifn c3 ?_
          by_cases c4 : n > 20
          · rw [decide_eq_true c4]; exact padds_out a m n
          · rw [decide_eq_false c4]
            exact padds_in (Wl_of (m := 3) ha (by omega)) (by omega) (by omega) (by omega) (by omega) (by omega)
end Go.Proofs.Ytldcgclbgbhffaa.Pure
