/- The greatest number that divides both, the least that both divide, and what is left: told for all numbers of up to eight words. -/
import Derived.Test.YtldcgclbgbhffaaFgradinelaw05same
import Derived.Test.YtldcgclbgbhffaaC05l
import Derived.Test.YtldcgclbgbhffaaFgradinelaw05GcdTells
namespace Go.Proofs.Ytldcgclbgbhffaa.Pure
open Go.RowKit Go.Proofs.Ytldcgclbgbhffaa.P Go.Proofs.Ytldcgclbgbhffaa.M Go.Proofs.YtldcgclbgbhffaaW.PrintWords Go.Proofs.YtldcgclbgbhffaaW.PrintLast Go.Proofs.YtldcgclbgbhffaaW.PrintMore

theorem gtells_in {a b : List Int} (ha : Wl a) (hb : Wl b) (la : a.length ≤ 8) (lb : b.length ≤ 8) : Ev (fun k => gradinelaw05_GcdTells.j0 k a b false) true := by
  have na := nv_nonneg ha.1
  have nb := nv_nonneg hb.1
  have ba := bl_nv ha.1
  have bb := bl_nv hb.1
  have g0 := gc_nonneg (nv a) (nv b)
  have bg := bl_gc na nb (m := 512) (by omega) (by omega)
  have lg := dg_len_bl (gc (nv a) (nv b))
  have wg : Wl (dg (gc (nv a) (nv b))) := Wl_dg (by omega)
  obtain ⟨q0, q1⟩ := ediv_le_bl na g0 (m := 512) (by omega)
  obtain ⟨r0, r1⟩ := ediv_le_bl nb g0 (m := 512) (by omega)
  have lq := dg_len_bl (nv a / gc (nv a) (nv b))
  have lr := dg_len_bl (nv b / gc (nv a) (nv b))
  have bl2 := bl_mul na r0
  have ll := dg_len_bl (nv a * (nv b / gc (nv a) (nv b)))
  have P1 := ref05_Part_c ha wg (by omega) (by omega)
  have P2 := ref05_Part_c hb wg (by omega) (by omega)
  rw [nv_dg g0] at P1 P2
  have done : Ev (fun k => (gradinelaw05_same.f k).bind fun t => some t) true := Ev.bind law05_same_c (Ev.same rfl)
  refine Ev.step (fun k => gradinelaw05_GcdTells.j0.eq_2 ..) (Ev.ifn (by decide) ?_)
  refine Ev.bind (ref05_Gcd_c ha hb (by omega) (by omega)) (Ev.bind (gcd_Reduce_c ha hb (by omega) (by omega)) (Ev.bind (gcd_Gcd_c ha hb (by omega) (by omega)) (Ev.bind (Words_c (by omega)) (Ev.ifp (by simp) ?_))))
  refine Ev.bind (gcd_Lcm_c ha hb (by omega) (by omega)) (Ev.bind (ref05_Lcm_c ha hb (by omega) (by omega)) (Ev.bind (Words_c (by omega)) ?_))
  refine Ev.step (fun k => gradinelaw05_GcdTells.j1.eq_2 ..) (Ev.ifn (by simp) ?_)
  refine Ev.bind P1 (Ev.bind (Words_c (a := dg (nv a / gc (nv a) (nv b))) (by omega)) (Ev.ifp (by simp) (Ev.bind P2 (Ev.bind (Words_c (a := dg (nv b / gc (nv a) (nv b))) (by omega)) (Ev.ifp (by simp) ?_)))))
  refine Ev.bind (gcd_Coprime_c ha hb (by omega) (by omega)) ?_
  by_cases h1 : ((dg (gc (nv a) (nv b))).length : Int) = 1
  · obtain ⟨o1, o2, o3, o4⟩ := one_word wg.1 (by rw [nv_dg g0]; omega)
    rw [nv_dg g0] at o2
    refine Ev.ifp h1 (Ev.ifp (by omega) (Ev.ifp ?_ done))
    rw [o2, beq_iff_eq]
    by_cases hg : gc (nv a) (nv b) = 1
    · rw [hg]; rfl
    · rw [decide_eq_false hg, beq_eq_false_iff_ne.2 hg]
  · refine Ev.ifn h1 (Ev.ifp ?_ done)
    have hg : gc (nv a) (nv b) ≠ 1 := fun k => h1 (by rw [k]; rfl)
    rw [decide_eq_false hg]
    rfl
theorem GcdTells : gradinelaw05_GcdTells.Pure := by
  intro a b _ _ ha _ _ hb
  refine Ev.rounds ?_
  have out : Ev (fun k => gradinelaw05_GcdTells.j0 k a b true) true := Ev.step (fun k => gradinelaw05_GcdTells.j0.eq_2 ..) (Ev.ifp rfl (Ev.bind law05_same_c (Ev.same rfl)))
  by_cases la : (a.length : Int) > 8
  · exact Ev.ifp la out
  · refine Ev.ifn la ?_
    by_cases lb : (b.length : Int) > 8
    · rw [decide_eq_true lb]; exact out
    · rw [decide_eq_false lb]
      exact gtells_in (Wl_of (m := 8) ha (by omega)) (Wl_of (m := 8) hb (by omega)) (by omega) (by omega)
end Go.Proofs.Ytldcgclbgbhffaa.Pure
