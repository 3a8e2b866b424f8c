/- The greatest common divisor times the least common multiple is the product; what is left of both has no more in common. -/
import Derived.Test.YtldcgclbgbhffaaC05l
import Derived.Test.YtldcgclbgbhffaaFgradinelaw05GcdProduct
namespace Go.Proofs.Ytldcgclbgbhffaa.Pure
open Go.RowKit Go.Proofs.Ytldcgclbgbhffaa.P Go.Proofs.Ytldcgclbgbhffaa.M Go.Proofs.YtldcgclbgbhffaaW.PrintWords Go.Proofs.YtldcgclbgbhffaaW.PrintLast Go.Proofs.YtldcgclbgbhffaaW.PrintMore

theorem gprod_in {a b : List Int} (ha : Wl a) (hb : Wl b) (la : a.length ≤ 8) (lb : b.length ≤ 8) : Ev (fun k => gradinelaw05_GcdProduct.j0 k a b false) true := by
  have na := nv_nonneg ha.1
  have nb := nv_nonneg hb.1
  have ba := bl_nv ha.1
  have bb := bl_nv hb.1
  have g0 := gc_nonneg (nv a) (nv b)
  have bg := bl_gc na nb (m := 512) (by omega) (by omega)
  have lg := dg_len_bl (gc (nv a) (nv b))
  have wg : Wl (dg (gc (nv a) (nv b))) := Wl_dg (by omega)
  obtain ⟨q0, q1⟩ := ediv_le_bl na g0 (m := 512) (by omega)
  obtain ⟨r0, r1⟩ := ediv_le_bl nb g0 (m := 512) (by omega)
  have lq := dg_len_bl (nv a / gc (nv a) (nv b))
  have lr := dg_len_bl (nv b / gc (nv a) (nv b))
  have l0 : 0 ≤ nv a * (nv b / gc (nv a) (nv b)) := Int.mul_nonneg na r0
  have bl2 := bl_mul na r0
  have ll := dg_len_bl (nv a * (nv b / gc (nv a) (nv b)))
  have hs := gc_split na nb
  have M1 := ref03_Mul_c wg (b := dg (nv a * (nv b / gc (nv a) (nv b)))) (Wl_dg (by omega)) (by omega) (by omega)
  have M2 := ref03_Mul_c ha hb (by omega) (by omega)
  have e : gc (nv a) (nv b) * (nv a * (nv b / gc (nv a) (nv b))) = nv a * nv b := by
    rw [Int.mul_left_comm, Int.mul_comm (gc _ _), hs.2]
  rw [nv_dg g0, nv_dg l0, e] at M1
  have bp := bl_mul na nb
  have lp := dg_len_bl (nv a * nv b)
  refine Ev.step (fun k => gradinelaw05_GcdProduct.j0.eq_2 ..) (Ev.ifn (by decide) ?_)
  refine Ev.bind (gcd_Reduce_c ha hb (by omega) (by omega)) (Ev.bind (ref02_Size_c ha) (Ev.bind (ref02_Size_c hb) ?_))
  refine Ev.bind (gcd_Gcd_c ha hb (by omega) (by omega)) (Ev.bind (gcd_Lcm_c ha hb (by omega) (by omega)) (Ev.bind M1 (Ev.bind M2 (Ev.bind (Words_c (a := dg (nv a * nv b)) (by omega)) (Ev.ifp (by simp) ?_)))))
  have C := gcd_Coprime_c (a := dg (nv a / gc (nv a) (nv b))) (b := dg (nv b / gc (nv a) (nv b))) (Wl_dg (by omega)) (Wl_dg (by omega)) (by omega) (by omega)
  rw [nv_dg q0, nv_dg r0] at C
  refine Ev.bind C (Ev.ifp ?_ (Ev.bind law05_same_c (Ev.same rfl)))
  have la2 := dg_len_list ha.1
  have lb2 := dg_len_list hb.1
  have za := dg_len_zero na
  have zb := dg_len_zero nb
  rw [beq_iff_eq]
  refine decide_eq_decide.2 ?_
  rw [w64_id (by omega) (by omega)]
  by_cases hz : nv a = 0 ∧ nv b = 0
  · rw [hz.1, hz.2]
    constructor
    · intro k
      rw [Int.zero_ediv, gc_zero (by omega)] at k
      omega
    · intro k
      simp [dg_zero] at k
  · constructor
    · intro _
      omega
    · intro _
      exact gc_reduced na nb (by omega)
theorem GcdProduct : gradinelaw05_GcdProduct.Pure := by
  intro a b _ _ ha _ _ hb
  refine Ev.rounds ?_
  have out : Ev (fun k => gradinelaw05_GcdProduct.j0 k a b true) true := Ev.step (fun k => gradinelaw05_GcdProduct.j0.eq_2 ..) (Ev.ifp rfl (Ev.bind law05_same_c (Ev.same rfl)))
  by_cases la : (a.length : Int) > 8
  · exact Ev.ifp la out
  · refine Ev.ifn la ?_
    by_cases lb : (b.length : Int) > 8
    · rw [decide_eq_true lb]; exact out
    · rw [decide_eq_false lb]
      exact gprod_in (Wl_of (m := 8) ha (by omega)) (Wl_of (m := 8) hb (by omega)) (by omega) (by omega)
end Go.Proofs.Ytldcgclbgbhffaa.Pure
