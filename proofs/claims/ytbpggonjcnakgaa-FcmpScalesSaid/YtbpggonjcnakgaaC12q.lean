/- What the reference's root of a double answers. -/
import Derived.Test.YtbpggonjcnakgaaC10r
import Derived.Test.YtbpggonjcnakgaaC03q
import Derived.Test.YtbpggonjcnakgaaC04r
import Derived.Test.YtbpggonjcnakgaaM13
import Derived.Test.YtbpggonjcnakgaaBgradineref12
namespace Go.Proofs.Ytbpggonjcnakgaa.M
open Go.RowKit Go.Proofs.Ytbpggonjcnakgaa.P Go.Proofs.YtbpggonjcnakgaaW.PrintWords Go.Proofs.YtbpggonjcnakgaaW.PrintLast Go.Proofs.YtbpggonjcnakgaaW.PrintMore
set_option linter.unusedVariables false

theorem tmod_two (x : Int) : Int.tmod x 2 = 0 ↔ x % 2 = 0 := ⟨fun h => Int.emod_eq_zero_of_dvd (Int.dvd_of_tmod_eq_zero h), fun h => Int.tmod_eq_zero_of_dvd (Int.dvd_of_emod_eq_zero h)⟩
theorem ref12_sqrt_j1 {m e w : Int} {up : Nat} (h0 : 0 < m) (hm : m < 9007199254740992) (he0 : -1074 ≤ e) (he1 : e ≤ 971) (hup : 160 ≤ up) (hup2 : up ≤ 161) (hpar : (e - up) % 2 = 0) (hw : IsSq m e w) : Ev (fun k => gradineref12_Sqrt.j1 k m e (up : Int)) w := by
  refine Ev.step (fun k => gradineref12_Sqrt.j1.eq_2 ..) ?_
  have S := ref02_Shl_c (a := [m]) ⟨Ws_one (by unfold U; omega), by simp⟩ (by simp) (up : Int)
  rw [nv_one, shn_nat (by omega), Int.toNat_natCast] at S
  refine Ev.bind S ?_
  have hp := pow_pos up
  have hX0 : 0 ≤ m * 2 ^ up := Int.mul_nonneg (by omega) (by omega)
  have hbig : (1329227995784915872903807060280344576 : Int) ≤ m * 2 ^ up := by
    have a1 := pow_le_pow (a := 120) (b := up) (by omega)
    have := Int.mul_le_mul_of_nonneg_right (show 1 ≤ m by omega) (Int.le_of_lt hp)
    have e1 : (2 : Int) ^ 120 = 1329227995784915872903807060280344576 := by decide
    omega
  have bX : bl (m * 2 ^ up) ≤ 53 + 161 := by
    have b1 : bl m ≤ 53 := bl_le_of (n := 53) (by omega)
    have := bl_shl h0 up
    omega
  obtain ⟨R, hR⟩ := root_ex hX0
  have lX := dg_len_bl (m * 2 ^ up)
  have T := ref04_Root_c (a := dg (m * 2 ^ up)) (Wl_dg (by omega)) (by omega) (R := R) (by rw [nv_dg hX0]; exact hR)
  refine Ev.bind T ?_
  have hR0 := hR.1
  have hRle : R * R ≤ m * 2 ^ up := hR.2.1
  have hRR : R ≤ R * R := by
    rcases (show R = 0 ∨ 1 ≤ R by omega) with h | h
    · rw [h]; decide
    · have := Int.mul_le_mul_of_nonneg_right h hR0
      omega
  have bR := bl_mono (show R ≤ m * 2 ^ up by omega)
  have bRR := bl_mono hRle
  have lR := dg_len_bl R
  have M := ref03_Mul_c (a := dg R) (b := dg R) (Wl_dg (by omega)) (Wl_dg (by omega)) (by omega) (by omega)
  rw [nv_dg hR0] at M
  refine Ev.bind M ?_
  have C := ref02_Cmp_c (a := dg (R * R)) (b := dg (m * 2 ^ up)) (Wl_dg (by omega)) (Wl_dg (by omega))
  rw [nv_dg (by omega), nv_dg hX0] at C
  refine Ev.bind C ?_
  obtain ⟨c, hc⟩ : ∃ c : Int, e - (up : Int) = 2 * c := ⟨(e - (up : Int)) / 2, by omega⟩
  have eE : wrap64 (Int.tdiv (wrap64 (e - (up : Int))) 2) = c := by
    rw [w64_id (n := e - (up : Int)) (by omega) (by omega), hc, Int.mul_tdiv_cancel_left _ (by decide), w64_id (by omega) (by omega)]
  rw [eE]
  have hRge : (18014398509481984 : Int) ≤ R := by
    have : (18014398509481984 : Int) < R + 1 := lt_of_sq (by omega) (by have := hR.2.2; omega)
    omega
  have MO := ref10_More_c false (l := dg R) (Wl_dg (by omega)) (by omega) c (cmpI (R * R) (m * 2 ^ up) != 0)
  rw [nv_dg hR0, ce_id (by omega) (by omega)] at MO
  refine Ev.bind MO (Ev.same ?_)
  have hwR : w = Rd (sv (m * 2 ^ up) R) (c - 1) := IsSq_unique hw ⟨up, c - 1, R, by omega, hR, by omega, rfl⟩
  rw [hwR]
  unfold sv
  by_cases hx : R * R = m * 2 ^ up
  · rw [if_pos hx]
    have : (cmpI (R * R) (m * 2 ^ up) != 0) = false := by rw [bne_eq_false_iff_eq]; exact cmpI_same.2 hx
    rw [this]
    have := Rd_scale (show 0 < R by omega) c 1
    rw [Int.pow_one, Int.mul_comm] at this
    show some (sgn false (Rd R c)) = some (Rd (2 * R) (c - 1))
    rw [← this]
    rfl
  · rw [if_neg hx]
    have : (cmpI (R * R) (m * 2 ^ up) != 0) = true := by rw [bne_iff_ne]; exact fun k => hx (cmpI_same.1 k)
    rw [this]
    rfl
theorem ref12_Sqrt_no {b : Int} (h : U b) (hk : fk b = 4 ∨ (fk b ≠ 0 ∧ fs b = true)) : Ev (fun k => gradineref12_Sqrt.f k b) NAN := by
  refine Ev.bindc (ref09_Kind_c h) (Ev.ifn (by omega) ?_)
  by_cases h4 : fk b = 4
  · exact Ev.ifp h4 (Ev.step (fun k => gradineref12_Sqrt.j0.eq_2 ..) (Ev.ifp rfl (Ev.bindc ref09_Nan_c (Ev.same rfl))))
  · have hs := (hk.resolve_left h4)
    exact Ev.ifn h4 (Ev.bindc (ref09_Neg_c h) (Ev.step (fun k => gradineref12_Sqrt.j0.eq_2 ..) (Ev.ifp hs.2 (Ev.bindc ref09_Nan_c (Ev.same rfl)))))
theorem ref12_Sqrt_same {b : Int} (h : U b) (hk : fk b = 0 ∨ (fk b = 3 ∧ fs b = false)) : Ev (fun k => gradineref12_Sqrt.f k b) b := by
  refine Ev.bindc (ref09_Kind_c h) ?_
  by_cases h0 : fk b = 0
  · exact Ev.ifp h0 (Ev.same rfl)
  · have hs := hk.resolve_left h0
    refine Ev.ifn h0 (Ev.ifn (by omega) (Ev.bindc (ref09_Neg_c h) (Ev.step (fun k => gradineref12_Sqrt.j0.eq_2 ..) ?_)))
    exact Ev.ifn (by rw [hs.2]; decide) (Ev.ifp hs.1 (Ev.same rfl))
theorem ref12_Sqrt_c {b w : Int} (h : U b) (h4 : fk b ≠ 4) (h3 : fk b ≠ 3) (h0 : fk b ≠ 0) (hs : fs b = false) (hw : IsSq (pm b) (pe b) w) : Ev (fun k => gradineref12_Sqrt.f k b) w := by
  refine Ev.bindc (ref09_Kind_c h) (Ev.ifn h0 (Ev.ifn h4 (Ev.bindc (ref09_Neg_c h) ?_)))
  refine Ev.step (fun k => gradineref12_Sqrt.j0.eq_2 ..) (Ev.ifn (by rw [hs]; decide) (Ev.ifn h3 (Ev.bindc (ref09_Parts_c h) ?_)))
  have hf := fk_fin h4 h3
  have a1 := pm_range b
  have a2 := pe_range b
  have hz : pm b ≠ 0 := fun k => h0 ((fk_eq b).2.2.2.1.2 ⟨hf, k⟩)
  have a3 := a2.2.2.1 hf
  dsimp only
  rw [w64_id (n := pe b - 160) (by omega) (by omega)]
  by_cases hp : (pe b - 160) % 2 = 0
  · exact Ev.ifp ((tmod_two _).2 hp) (ref12_sqrt_j1 (up := 160) (by omega) a1.2 a2.1 a3 (by omega) (by omega) hp hw)
  · exact Ev.ifn (fun k => hp ((tmod_two _).1 k)) (ref12_sqrt_j1 (up := 161) (by omega) a1.2 a2.1 a3 (by omega) (by omega) (by omega) hw)
end Go.Proofs.Ytbpggonjcnakgaa.M
