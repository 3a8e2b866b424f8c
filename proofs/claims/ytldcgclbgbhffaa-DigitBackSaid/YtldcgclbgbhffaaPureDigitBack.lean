/- A number shown and read again is the same number, and a text read and shown again is the same text: for all numbers of up to 20 words and all texts of up to 400 bytes. -/
import Derived.Test.YtldcgclbgbhffaaS06
import Derived.Test.YtldcgclbgbhffaaC02r
import Derived.Test.YtldcgclbgbhffaaFgradinelaw06DigitBack
namespace Go.Proofs.Ytldcgclbgbhffaa.Pure
open Go.RowKit Go.Proofs.Ytldcgclbgbhffaa.P Go.Proofs.Ytldcgclbgbhffaa.M Go.Proofs.YtldcgclbgbhffaaW.PrintWords Go.Proofs.YtldcgclbgbhffaaW.PrintLast Go.Proofs.YtldcgclbgbhffaaW.PrintMore
theorem dback_in {a : List Int} {s : ByteArray} (ha : Wl a) (la : a.length ≤ 20) (ls : s.size ≤ 400) : Ev (fun k => gradinelaw06_DigitBack.j0 k a s false) true := by
  have na := nv_nonneg ha.1
  have ba := bl_nv ha.1
  have l1 := len_dg (n := nv a) (by omega)
  have hlt : nv a < 10 ^ 386 := by
    have h1 := nv_lt ha.1
    have h2 := Wp_le la
    have h3 : Wp 20 < 10 ^ 386 := by unfold Wp; decide +kernel
    omega
  have hlen : (sh (nv a)).length ≤ 400 := by
    unfold sh; split
    · simp
    · rw [List.length_reverse]; have := ds_len_le na hlt; omega
  have hr := digit_Read_yes (s := strOfNums (sh (nv a))) (by rw [byt_strOfNums (Dd_bytes (sh_Dd _))]; exact sh_Tx na) (by rw [byt_strOfNums (Dd_bytes (sh_Dd _))]; exact hlen)
  rw [byt_strOfNums (Dd_bytes (sh_Dd _)), dv_sh na] at hr
  have done : Ev (fun k => (gradinelaw06_same.f k).bind fun t => some t) true := Ev.bind law06_same_c (Ev.same rfl)
  refine Ev.step (fun k => gradinelaw06_DigitBack.j0.eq_2 ..) ?_
  refine Ev.ifn (by decide) (Ev.bind (digit_Show_c ha (by omega)) (Ev.bind hr ?_))
  have hls : (byt s).length ≤ 400 := by rw [byt_len]; exact ls
  by_cases ht : Tx (byt s)
  · have hv := dv_range ht.1
    have h1 := bl_mono (Int.le_of_lt hv.2)
    have h2 := bl_ten (byt s).length
    have hw := Wl_dg (n := dv (byt s)) (by omega)
    have hk := dg_len_bl (dv (byt s))
    have hs := digit_Show_c hw (by omega)
    rw [nv_dg hv.1, sh_dv ht, strOfNums_byt] at hs
    refine Ev.bind (digit_Read_yes ht hls) (Ev.ifp rfl (Ev.bind (ref02_Trim_c ha) (Ev.bind (Words_c (a := dg (nv a)) (by omega)) (Ev.ifp (by simp) ?_))))
    exact Ev.ifp rfl (Ev.bind hs (Ev.ifp rfl done))
  · refine Ev.bind (digit_Read_no ht hls) (Ev.ifp rfl (Ev.bind (ref02_Trim_c ha) (Ev.bind (Words_c (a := dg (nv a)) (by omega)) (Ev.ifp (by simp) ?_))))
    exact Ev.ifn (by simp) done
theorem dback_out (a : List Int) (s : ByteArray) : Ev (fun k => gradinelaw06_DigitBack.j0 k a s true) true := by
  refine Ev.step (fun k => gradinelaw06_DigitBack.j0.eq_2 ..) ?_
  exact Ev.ifp rfl (Ev.bind law06_same_c (Ev.same rfl))
theorem DigitBack : gradinelaw06_DigitBack.Pure := by
  intro a s _ _ ha _
  refine Ev.rounds ?_
  by_cases la : (a.length : Int) > 20
  · exact Ev.ifp la (dback_out a s)
  · refine Ev.ifn la ?_
    by_cases ls : (s.size : Int) > 400
    · rw [decide_eq_true ls]; exact dback_out a s
    · rw [decide_eq_false ls]
      exact dback_in (Wl_of (m := 20) ha (by omega)) (by omega) (by omega)
end Go.Proofs.Ytldcgclbgbhffaa.Pure
