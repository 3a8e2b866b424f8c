/- Numbers shown and texts read are the reference's: for all numbers of up to 20 words and all texts of up to 1000 bytes. -/
import Derived.Test.YtldcgclbgbhffaaS06
import Derived.Test.YtldcgclbgbhffaaC06r
import Derived.Test.YtldcgclbgbhffaaFgradinelaw06DigitTells
namespace Go.Proofs.Ytldcgclbgbhffaa.Pure
open Go.RowKit Go.Proofs.Ytldcgclbgbhffaa.P Go.Proofs.Ytldcgclbgbhffaa.M Go.Proofs.YtldcgclbgbhffaaW.PrintWords Go.Proofs.YtldcgclbgbhffaaW.PrintLast Go.Proofs.YtldcgclbgbhffaaW.PrintMore
theorem dtells_in {a : List Int} {s : ByteArray} (ha : Wl a) (la : a.length ≤ 20) : Ev (fun k => gradinelaw06_DigitTells.j0 k a s false) true := by
  have done : Ev (fun k => (gradinelaw06_same.f k).bind fun t => some t) true := Ev.bind law06_same_c (Ev.same rfl)
  have main : ∀ (r : List Int) (e : Int), r.length ≤ 900000000 → Ev (fun k => digit_Read.f k s) (r, e) → Ev (fun k => gradineref06_Read.f k s) (r, e) → Ev (fun k => gradinelaw06_DigitTells.j0 k a s false) true := by
    intro r e hr h1 h2
    refine Ev.step (fun k => gradinelaw06_DigitTells.j0.eq_2 ..) ?_
    refine Ev.ifn (by decide) (Ev.bind h1 (Ev.bind h2 (Ev.bind (digit_Show_c ha (by omega)) (Ev.bind (ref06_Show_c ha (by omega)) (Ev.ifp rfl ?_)))))
    exact Ev.bind (Words_c (a := r) (by omega)) (Ev.ifp (by simp) (Ev.ifp rfl done))
  by_cases hl : (s.size : Int) > 400
  · exact main [] 3 (by simp) (digit_Read_long hl) (ref06_Read_long hl)
  · have hls : (byt s).length ≤ 400 := by rw [byt_len]; omega
    by_cases ht : Tx (byt s)
    · have hv := dv_range ht.1
      have h1 := bl_mono (Int.le_of_lt hv.2)
      have h2 := bl_ten (byt s).length
      have hk := dg_len_bl (dv (byt s))
      exact main _ 0 (by omega) (digit_Read_yes ht hls) (ref06_Read_yes ht hls)
    · exact main [] 2 (by simp) (digit_Read_no ht hls) (ref06_Read_no ht hls)
theorem dtells_out (a : List Int) (s : ByteArray) : Ev (fun k => gradinelaw06_DigitTells.j0 k a s true) true := by
  refine Ev.step (fun k => gradinelaw06_DigitTells.j0.eq_2 ..) ?_
  exact Ev.ifp rfl (Ev.bind law06_same_c (Ev.same rfl))
theorem DigitTells : gradinelaw06_DigitTells.Pure := by
  intro a s _ _ ha _
  refine Ev.rounds ?_
  by_cases la : (a.length : Int) > 20
  · exact Ev.ifp la (dtells_out a s)
  · refine Ev.ifn la ?_
    by_cases ls : (s.size : Int) > 1000
    · rw [decide_eq_true ls]; exact dtells_out a s
    · rw [decide_eq_false ls]
      exact dtells_in (Wl_of (m := 20) ha (by omega)) (by omega)
end Go.Proofs.Ytldcgclbgbhffaa.Pure
