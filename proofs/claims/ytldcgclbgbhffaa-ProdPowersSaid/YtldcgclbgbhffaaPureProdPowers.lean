/- Powers are the reference's: for all numbers of up to 3 words and every exponent. -/
import Derived.Test.YtldcgclbgbhffaaS03
import Derived.Test.YtldcgclbgbhffaaC03r
import Derived.Test.YtldcgclbgbhffaaFgradinelaw03ProdPowers
namespace Go.Proofs.Ytldcgclbgbhffaa.Pure
open Go.RowKit Go.Proofs.Ytldcgclbgbhffaa.P Go.Proofs.Ytldcgclbgbhffaa.M Go.Proofs.YtldcgclbgbhffaaW.PrintWords Go.Proofs.YtldcgclbgbhffaaW.PrintLast Go.Proofs.YtldcgclbgbhffaaW.PrintMore
theorem ProdPowers : gradinelaw03_ProdPowers.Pure := by
  intro a n _ _ ha hn
  refine Ev.rounds ?_
  by_cases la : (a.length : Int) > 3
  · exact Ev.ifp la (Ev.bind law03_same_c (Ev.same rfl))
  · refine Ev.ifn la ?_
    have hw := Wl_of (m := 3) ha (by omega)
    have ba := bl_nv hw.1
    have b1 := bl_pow_le (nv_nonneg hw.1) ba (pown n) (pown_le n)
    have l1 := len_dg (n := nv a ^ pown n) (by omega)
    refine Ev.bind (prod_Pow_c hw (by omega) n) (Ev.bind (ref03_Pow_c hw (by omega) n) (Ev.bind (Words_c (by omega)) (Ev.ifp (by simp) ?_)))
    exact Ev.bind law03_same_c (Ev.same rfl)
end Go.Proofs.Ytldcgclbgbhffaa.Pure
