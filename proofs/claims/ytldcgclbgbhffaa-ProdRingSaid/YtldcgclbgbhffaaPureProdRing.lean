/- Products can be taken in any order and shared out over sums: for all numbers of up to 24 words. -/
import Derived.Test.YtldcgclbgbhffaaS03
import Derived.Test.YtldcgclbgbhffaaFgradinelaw03ProdRing
namespace Go.Proofs.Ytldcgclbgbhffaa.Pure
open Go.RowKit Go.Proofs.Ytldcgclbgbhffaa.P Go.Proofs.Ytldcgclbgbhffaa.M Go.Proofs.YtldcgclbgbhffaaW.PrintWords Go.Proofs.YtldcgclbgbhffaaW.PrintLast Go.Proofs.YtldcgclbgbhffaaW.PrintMore
theorem mul_dg {a : List Int} (ha : Wl a) (la : a.length ≤ 100) {y : Int} (hy : 0 ≤ y) (bY : bl y ≤ 6000000000) : Ev (fun k => prod_Mul.f k a (dg y)) (dg (nv a * y)) := by
  have ky := dg_len_bl y
  have := prod_Mul_c ha (Wl_dg (n := y) (by omega)) (by omega) (by omega)
  rwa [nv_dg hy] at this
theorem dg_mul {a : List Int} (ha : Wl a) (la : a.length ≤ 100) {y : Int} (hy : 0 ≤ y) (bY : bl y ≤ 6000000000) : Ev (fun k => prod_Mul.f k (dg y) a) (dg (y * nv a)) := by
  have ky := dg_len_bl y
  have := prod_Mul_c (Wl_dg (n := y) (by omega)) ha (by omega) (by omega)
  rwa [nv_dg hy] at this
theorem pring_in {a b c : List Int} (ha : Wl a) (hb : Wl b) (hc : Wl c) (la : a.length ≤ 24) (lb : b.length ≤ 24) (lc : c.length ≤ 24) : Ev (fun k => gradinelaw03_ProdRing.j0 k a b c false) true := by
  have ba := bl_nv ha.1
  have bb := bl_nv hb.1
  have bc := bl_nv hc.1
  have na := nv_nonneg ha.1
  have nb := nv_nonneg hb.1
  have nc := nv_nonneg hc.1
  have bab := bl_mul na nb
  have bac := bl_mul na nc
  have bcb := bl_mul nc nb
  have nab := Int.mul_nonneg na nb
  have nac := Int.mul_nonneg na nc
  have ncb := Int.mul_nonneg nc nb
  have bsum := bl_add nb nc (m := 1536) (by omega) (by omega)
  have b1 := bl_mul nab nc
  have b2 := bl_mul na (Int.add_nonneg nb nc)
  have l1 := len_dg (n := nv a * nv b * nv c) (by omega)
  have l2 := len_dg (n := nv a * (nv b + nv c)) (by omega)
  have mab := prod_Mul_c ha hb (by omega) (by omega)
  have mac := prod_Mul_c ha hc (by omega) (by omega)
  refine Ev.step (fun k => gradinelaw03_ProdRing.j0.eq_2 ..) ?_
  refine Ev.ifn (by decide) ?_
  refine Ev.bind mab (Ev.bind (dg_mul hc (by omega) nab (by omega)) (Ev.bind (prod_Mul_c hc hb (by omega) (by omega)) (Ev.bind (mul_dg ha (by omega) ncb (by omega)) ?_)))
  refine Ev.bind (nat_Add_c hb hc (by omega) (by omega)) (Ev.bind (mul_dg ha (by omega) (Int.add_nonneg nb nc) (by omega)) (Ev.bind (Words_c (by omega)) ?_))
  have e1 : nv a * (nv c * nv b) = nv a * nv b * nv c := by rw [Int.mul_comm (nv c), Int.mul_assoc]
  rw [e1]
  refine Ev.ifp (by simp) (Ev.bind mab (Ev.bind mac (Ev.bind (add_dg nab nac (by omega) (by omega)) (Ev.bind (Words_c (by omega)) ?_))))
  rw [← Int.mul_add]
  exact Ev.ifp (by simp) (Ev.bind law03_same_c (Ev.same rfl))
theorem pring_out (a b c : List Int) : Ev (fun k => gradinelaw03_ProdRing.j0 k a b c true) true := by
  refine Ev.step (fun k => gradinelaw03_ProdRing.j0.eq_2 ..) ?_
  exact Ev.ifp rfl (Ev.bind law03_same_c (Ev.same rfl))
theorem ProdRing : gradinelaw03_ProdRing.Pure := by
  intro a b c _ _ ha _ _ hb _ _ hc
  refine Ev.rounds ?_
  by_cases la : (a.length : Int) > 24
  · exact Ev.ifp la (pring_out a b c)
  · refine Ev.ifn la ?_
    by_cases lb : (b.length : Int) > 24
    · exact Ev.ifp lb (pring_out a b c)
    · refine Ev.ifn lb ?_
      by_cases lc : (c.length : Int) > 24
      · rw [decide_eq_true lc]; exact pring_out a b c
      · rw [decide_eq_false lc]
        exact pring_in (Wl_of (m := 24) ha (by omega)) (Wl_of (m := 24) hb (by omega)) (Wl_of (m := 24) hc (by omega)) (by omega) (by omega) (by omega)
end Go.Proofs.Ytldcgclbgbhffaa.Pure
