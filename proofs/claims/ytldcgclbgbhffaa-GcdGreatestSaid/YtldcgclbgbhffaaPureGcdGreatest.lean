/- Whatever divides both divides the greatest one, which divides both; of both times a number it is that times as much. -/
import Derived.Test.YtldcgclbgbhffaaFgradinelaw05divides
import Derived.Test.YtldcgclbgbhffaaC05l
import Derived.Test.YtldcgclbgbhffaaFgradinelaw05GcdGreatest
namespace Go.Proofs.Ytldcgclbgbhffaa.Pure
open Go.RowKit Go.Proofs.Ytldcgclbgbhffaa.P Go.Proofs.Ytldcgclbgbhffaa.M Go.Proofs.YtldcgclbgbhffaaW.PrintWords Go.Proofs.YtldcgclbgbhffaaW.PrintLast Go.Proofs.YtldcgclbgbhffaaW.PrintMore

theorem divides_c {a b : List Int} (ha : Wl a) (hb : Wl b) (la : a.length ≤ 1000) (lb : b.length ≤ 1000) : Ev (fun k => gradinelaw05_divides.f k a b) (decide (nv a ∣ nv b)) := by
  have na := nv_nonneg ha.1
  have nb := nv_nonneg hb.1
  refine Ev.bind (ref02_Size_c ha) ?_
  by_cases hz : nv a = 0
  · refine Ev.ifp (by rw [hz]; rfl) (Ev.bind (ref02_Size_c hb) (Ev.same ?_))
    congr 1
    rw [hz]
    by_cases hb0 : nv b = 0
    · rw [hb0]; rfl
    · rw [decide_eq_false (fun k => hb0 (Int.zero_dvd.1 k)), beq_eq_false_iff_ne]
      exact fun k => hb0 ((dg_len_zero nb).1 (by omega))
  · refine Ev.ifn (fun k => hz ((dg_len_zero na).1 (by omega))) (Ev.bind (ref04_Div_c hb ha lb la (by omega)) (Ev.same ?_))
    congr 1
    have r0 := Int.emod_nonneg (nv b) hz
    have zr := dg_len_zero r0
    by_cases hr : nv b % nv a = 0
    · rw [decide_eq_true (Int.dvd_of_emod_eq_zero hr), beq_iff_eq]
      show ((dg (nv b % nv a)).length : Int) = 0
      rw [zr.2 hr]
      rfl
    · rw [decide_eq_false (fun k => hr (Int.emod_eq_zero_of_dvd k)), beq_eq_false_iff_ne]
      show ((dg (nv b % nv a)).length : Int) ≠ 0
      exact fun k => hr (zr.1 (by exact_mod_cast k))
theorem ggreat_in {a b c : List Int} (ha : Wl a) (hb : Wl b) (hc : Wl c) (la : a.length ≤ 5) (lb : b.length ≤ 5) (lc : c.length ≤ 3) : Ev (fun k => gradinelaw05_GcdGreatest.j0 k a b c false) true := by
  have na := nv_nonneg ha.1
  have nb := nv_nonneg hb.1
  have nc := nv_nonneg hc.1
  have ba := bl_nv ha.1
  have bb := bl_nv hb.1
  have bc := bl_nv hc.1
  have g0 := gc_nonneg (nv a) (nv b)
  have bg := bl_gc na nb (m := 320) (by omega) (by omega)
  have lg := dg_len_bl (gc (nv a) (nv b))
  have wg : Wl (dg (gc (nv a) (nv b))) := Wl_dg (by omega)
  have hs := gc_split na nb
  have d1 : gc (nv a) (nv b) ∣ nv a := ⟨nv a / gc (nv a) (nv b), by rw [Int.mul_comm]; exact hs.1.symm⟩
  have d2 : gc (nv a) (nv b) ∣ nv b := ⟨nv b / gc (nv a) (nv b), by rw [Int.mul_comm]; exact hs.2.symm⟩
  have ac := Int.mul_nonneg na nc
  have bcn := Int.mul_nonneg nb nc
  have b1 := bl_mul na nc
  have b2 := bl_mul nb nc
  have b3 := bl_mul g0 nc
  have l1 := dg_len_bl (nv a * nv c)
  have l2 := dg_len_bl (nv b * nv c)
  have l3 := dg_len_bl (gc (nv a) (nv b) * nv c)
  have G := gcd_Gcd_c (a := dg (nv a * nv c)) (b := dg (nv b * nv c)) (Wl_dg (by omega)) (Wl_dg (by omega)) (by omega) (by omega)
  rw [nv_dg ac, nv_dg bcn, gc_mul na nb nc] at G
  have M3 := ref03_Mul_c wg hc (by omega) (by omega)
  rw [nv_dg g0] at M3
  have j1 : Ev (fun k => gradinelaw05_GcdGreatest.j1 k a b c (dg (gc (nv a) (nv b))) false) true := by
    refine Ev.step (fun k => gradinelaw05_GcdGreatest.j1.eq_2 ..) (Ev.ifn (by decide) ?_)
    refine Ev.bind (ref03_Mul_c ha hc (by omega) (by omega)) (Ev.bind (ref03_Mul_c hb hc (by omega) (by omega)) (Ev.bind G (Ev.bind M3 ?_)))
    exact Ev.bind (Words_c (a := dg (gc (nv a) (nv b) * nv c)) (by omega)) (Ev.ifp (by simp) (Ev.bind law05_same_c (Ev.same rfl)))
  have D1 := divides_c wg ha (by omega) (by omega)
  have D2 := divides_c wg hb (by omega) (by omega)
  have D5 := divides_c hc wg (by omega) (by omega)
  rw [nv_dg g0] at D1 D2 D5
  refine Ev.step (fun k => gradinelaw05_GcdGreatest.j0.eq_2 ..) (Ev.ifn (by decide) (Ev.bind (gcd_Gcd_c ha hb (by omega) (by omega)) ?_))
  refine Ev.bind D1 (Ev.ifp (decide_eq_true d1) (Ev.bind D2 (Ev.ifp (decide_eq_true d2) ?_)))
  refine Ev.bind (divides_c hc ha (by omega) (by omega)) ?_
  by_cases h1 : nv c ∣ nv a
  · refine Ev.ifp (decide_eq_true h1) (Ev.bind (divides_c hc hb (by omega) (by omega)) ?_)
    by_cases h2 : nv c ∣ nv b
    · refine Ev.ifp (decide_eq_true h2) (Ev.bind D5 ?_)
      rw [decide_eq_true (gc_dvd na nb h1 h2)]
      exact j1
    · exact Ev.ifn (by rw [decide_eq_false h2]; decide) j1
  · exact Ev.ifn (by rw [decide_eq_false h1]; decide) j1
theorem GcdGreatest : gradinelaw05_GcdGreatest.Pure := by
  intro a b c _ _ ha _ _ hb _ _ hc
  refine Ev.rounds ?_
  have out : Ev (fun k => gradinelaw05_GcdGreatest.j0 k a b c true) true := Ev.step (fun k => gradinelaw05_GcdGreatest.j0.eq_2 ..) (Ev.ifp rfl (Ev.bind law05_same_c (Ev.same rfl)))
  by_cases la : (a.length : Int) > 5
  · exact Ev.ifp la out
  · refine Ev.ifn la ?_
    by_cases lb : (b.length : Int) > 5
    · exact Ev.ifp lb out
    · refine Ev.ifn lb ?_
      by_cases lc : (c.length : Int) > 3
      · rw [decide_eq_true lc]; exact out
      · rw [decide_eq_false lc]
        exact ggreat_in (Wl_of (m := 5) ha (by omega)) (Wl_of (m := 5) hb (by omega)) (Wl_of (m := 3) hc (by omega)) (by omega) (by omega) (by omega)
end Go.Proofs.Ytldcgclbgbhffaa.Pure
