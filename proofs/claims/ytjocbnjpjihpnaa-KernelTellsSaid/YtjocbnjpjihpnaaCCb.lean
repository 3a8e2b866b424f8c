/- What the functions answer, over plain numbers. -/
import Derived.Test.YtjocbnjpjihpnaaCCa
import Derived.Test.YtjocbnjpjihpnaaBgradineref13
import Derived.Test.YtjocbnjpjihpnaaBkernel
import Derived.Test.YtjocbnjpjihpnaaBgradineref14
import Derived.Test.YtjocbnjpjihpnaaFgradinelaw14same
section
namespace Go.Proofs.Ytjocbnjpjihpnaa.M
open Go.RowKit Go.Proofs.Ytjocbnjpjihpnaa.P Go.Proofs.YtjocbnjpjihpnaaW.PrintWords Go.Proofs.YtjocbnjpjihpnaaW.PrintLast Go.Proofs.YtjocbnjpjihpnaaW.PrintMore
set_option linter.unusedVariables false

theorem ref13_Scale_c {b k : Int} (h : U b) : Ev (fun r => gradineref13_Scale.f r b k) (fscale b k) := by
  have a1 := pm_range b
  have a2 := pe_range b
  refine Ev.bindc (ref09_Finite_c h) ?_
  unfold fscale
  by_cases hx : fx b = 2047
  · rw [if_pos hx, decide_eq_false (by omega)]
    exact Ev.ifn (by decide) (Ev.bindc (ref09_Clean_c h) (Ev.same rfl))
  · rw [if_neg hx, decide_eq_true hx]
    refine Ev.ifp rfl (Ev.bindc (ref09_Parts_c h) (Ev.bindc (ref09_Neg_c h) ?_))
    dsimp only
    have a3 : -1074 ≤ pe b ∧ pe b ≤ 972 := ⟨a2.1, a2.2.1⟩
    clear a2
    rw [clamp_eq k 9000 (by omega), w64_id (by omega) (by omega)]
    have := ref10_Of_c (fs b) (l := [pm b]) ⟨Ws_one (by unfold U; omega), by simp⟩ (by simp) (e := pe b + min (max k (-9000)) 9000) (by omega) (by omega)
    rw [nv_one, fscale_far] at this
    exact Ev.bind this (Ev.same rfl)
theorem ref13_Near_j1 {b n : Int} (hb : U b) (t : Bool) (h0 : 0 ≤ n) (h1 : n ≤ 4611686018427387904) : Ev (fun k => gradineref13_Near.j1 k b n t) (if fs b then -(if t then n + 1 else n) else (if t then n + 1 else n), true) := by
  refine Ev.step (fun k => gradineref13_Near.j1.eq_2 ..) ?_
  cases t
  · refine Ev.ifn (by decide) (Ev.bindc (ref09_Neg_c hb) ?_)
    cases fs b
    · exact Ev.ifn (by decide) (Ev.same rfl)
    · refine Ev.ifp rfl (Ev.same ?_)
      rw [w64_id (by omega) (by omega)]
      rfl
  · refine Ev.ifp rfl (Ev.bindc (ref09_Neg_c hb) ?_)
    cases fs b
    · refine Ev.ifn (by decide) (Ev.same ?_)
      rw [w64_id (by omega) (by omega)]
      rfl
    · refine Ev.ifp rfl (Ev.same ?_)
      rw [w64_id (n := n + 1) (by omega) (by omega), w64_id (by omega) (by omega)]
      rfl
theorem ref13_Near_c {b : Int} (h : U b) : Ev (fun k => gradineref13_Near.f k b) (near b) := by
  have a1 := pm_range b
  have a2 := pe_range b
  refine Ev.bindc (ref09_Finite_c h) ?_
  by_cases hx : fx b = 2047
  · rw [decide_eq_false (by omega), near_no (.inl hx)]
    exact Ev.ifn (by decide) (Ev.same rfl)
  · rw [decide_eq_true hx]
    refine Ev.ifp rfl (Ev.bindc (ref09_Parts_c h) ?_)
    dsimp only
    have a3 : -1074 ≤ pe b ∧ pe b ≤ 972 := ⟨a2.1, a2.2.1⟩
    have a4 := a2.2.2.2
    clear a2
    have b1 : bl (pm b) ≤ 53 := bl_le_of (n := 53) (by omega)
    have wm : Wl [pm b] := ⟨Ws_one (by unfold U; omega), by simp⟩
    have S1 := ref02_Shl_c wm (by simp) (pe b)
    rw [nv_one, shn_nat (by omega)] at S1
    refine Ev.bind S1 ?_
    have hp := pow_pos (pe b).toNat
    have hM0 : 0 ≤ pm b * 2 ^ (pe b).toNat := Int.mul_nonneg a1.1 (by omega)
    have bM : bl (pm b * 2 ^ (pe b).toNat) ≤ 53 + 972 := by
      rcases (show pm b = 0 ∨ 0 < pm b by omega) with h0 | h0
      · rw [h0, Int.zero_mul, bl_zero]; omega
      · have := bl_shl h0 (pe b).toNat
        omega
    have R1 := ref02_Shr_c (a := dg (pm b * 2 ^ (pe b).toNat)) (Wl_dg (by omega)) (n := -pe b) (by omega)
    rw [nv_dg hM0] at R1
    rw [w64_id (n := -pe b) (by omega) (by omega)]
    refine Ev.bind R1 ?_
    have hp2 := pow_pos (-pe b).toNat
    have hW0 : 0 ≤ pm b * 2 ^ (pe b).toNat / 2 ^ (-pe b).toNat := Int.ediv_nonneg hM0 (by omega)
    have hWle : pm b * 2 ^ (pe b).toNat / 2 ^ (-pe b).toNat ≤ pm b * 2 ^ (pe b).toNat := Int.ediv_le_self _ hM0
    have bW := bl_mono hWle
    have B := ref02_Bits_c (l := dg (pm b * 2 ^ (pe b).toNat / 2 ^ (-pe b).toNat)) (Wl_dg (by omega))
    rw [nv_dg hW0] at B
    refine Ev.bind B ?_
    have bb : bl (pm b * 2 ^ (pe b).toNat / 2 ^ (-pe b).toNat) > 62 ↔ bl (pm b) + pe b > 62 := by
      rcases Int.lt_or_le (pe b) 0 with he | he
      · have e1 : pm b * 2 ^ (pe b).toNat = pm b := by rw [show (pe b).toNat = 0 by omega, Int.pow_zero, Int.mul_one]
        rw [e1] at bW ⊢
        omega
      · have e1 : (-pe b).toNat = 0 := by omega
        rw [e1, Int.pow_zero, Int.ediv_one, bl_shl (by omega)]
        omega
    by_cases h1 : bl (pm b) + pe b > 62
    · rw [near_no (.inr h1)]
      exact Ev.ifp (bb.2 h1) (Ev.same rfl)
    · rw [near_yes hx (by omega)]
      refine Ev.ifn (fun k => h1 (bb.1 k)) ?_
      have hWlt : pm b * 2 ^ (pe b).toNat / 2 ^ (-pe b).toNat < 4611686018427387904 := by
        have l := bl_lt (pm b * 2 ^ (pe b).toNat / 2 ^ (-pe b).toNat)
        have hn := bl_nonneg (pm b * 2 ^ (pe b).toNat / 2 ^ (-pe b).toNat)
        have := pow_le_pow (a := (bl (pm b * 2 ^ (pe b).toNat / 2 ^ (-pe b).toNat)).toNat) (b := 62) (by
          have : ¬ bl (pm b * 2 ^ (pe b).toNat / 2 ^ (-pe b).toNat) > 62 := fun k => h1 (bb.1 k)
          omega)
        omega
      clear S1 R1 B bb
      have j0 : Ev (fun k => gradineref13_Near.j0 k b (pm b) (pe b) (dg (pm b * 2 ^ (pe b).toNat / 2 ^ (-pe b).toNat)) (pm b * 2 ^ (pe b).toNat / 2 ^ (-pe b).toNat)) (if fs b then -(ru (pm b) (pe b) 0) else ru (pm b) (pe b) 0, true) := by
        refine Ev.step (fun k => gradineref13_Near.j0.eq_2 ..) ?_
        by_cases h2 : pe b < 0
        · refine Ev.ifp h2 ?_
          obtain ⟨d, hd⟩ : ∃ d : Nat, -pe b = d := ⟨(-pe b).toNat, by omega⟩
          have e1 : pm b * 2 ^ (pe b).toNat = pm b := by rw [show (pe b).toNat = 0 by omega, Int.pow_zero, Int.mul_one]
          have er : ru (pm b) (pe b) 0 = rnd (pm b) d := by
            unfold ru
            rw [show (0 - pe b).toNat = d by omega, show (pe b - 0).toNat = 0 by omega, Int.pow_zero, Int.mul_one]
          rw [er, w64_id (n := -pe b) (by omega) (by omega)]
          rw [e1] at hW0 hWle bW bM hWlt ⊢
          rw [hd] at hW0 hWle bW hp2 hWlt ⊢
          rw [Int.toNat_natCast] at hW0 hWle bW hp2 hWlt ⊢
          have hd0 : d ≤ 1074 := by omega
          generalize pm b = m at *
          have hdm := Int.mul_ediv_add_emod m (2 ^ d)
          have hm0 := Int.emod_nonneg m (show (2 : Int) ^ d ≠ 0 by omega)
          have hm1 := Int.emod_lt_of_pos m hp2
          rw [Int.mul_comm] at hdm
          have hp0 : 0 ≤ m / 2 ^ d * 2 ^ d := Int.mul_nonneg hW0 (by omega)
          have wq : Wl (dg (m / 2 ^ d)) := Wl_dg (by omega)
          have lq := dg_len_bl (m / 2 ^ d)
          have S2 := ref02_Shl_c wq (by omega) (d : Int)
          rw [nv_dg hW0, shn_nat (by omega), Int.toNat_natCast] at S2
          refine Ev.bind S2 ?_
          have bp := bl_mono (show m / 2 ^ d * 2 ^ d ≤ m by omega)
          have lp := dg_len_bl (m / 2 ^ d * 2 ^ d)
          have D := ref02_Sub_c wm (b := dg (m / 2 ^ d * 2 ^ d)) (Wl_dg (by omega)) (by simp) (by omega) (by rw [nv_one, nv_dg hp0]; omega)
          rw [nv_one, nv_dg hp0, show m - m / 2 ^ d * 2 ^ d = m % 2 ^ d by omega] at D
          refine Ev.bind D ?_
          have br := bl_mono (show m % 2 ^ d ≤ m by omega)
          have lr := dg_len_bl (m % 2 ^ d)
          have S3 := ref02_Shl_c (a := dg (m % 2 ^ d)) (Wl_dg (by omega)) (by omega) 1
          rw [nv_dg hm0, shn_nat (by omega), show (1 : Int).toNat = 1 from rfl, Int.pow_one] at S3
          refine Ev.bind S3 ?_
          have w1 : Wl [1] := ⟨Ws_one (by unfold U; omega), by decide⟩
          have S4 := ref02_Shl_c w1 (by decide) (d : Int)
          rw [nv_one, shn_nat (by omega), Int.toNat_natCast, Int.one_mul] at S4
          refine Ev.bind S4 ?_
          have bd : bl ((2 : Int) ^ d) ≤ d + 1 := bl_le_of (n := d + 1) (by rw [Int.pow_succ]; omega)
          have br2 : bl (m % 2 ^ d * 2) ≤ 54 := bl_le_of (n := 54) (by omega)
          have C := ref02_Cmp_c (a := dg (m % 2 ^ d * 2)) (b := dg (2 ^ d)) (Wl_dg (by omega)) (Wl_dg (by omega))
          rw [nv_dg (by omega), nv_dg (by omega)] at C
          refine Ev.bind C ?_
          clear S2 D S3 S4 C
          have J := fun t => ref13_Near_j1 (n := m / 2 ^ d) h t hW0 (by omega)
          by_cases h5 : cmpI (m % 2 ^ d * 2) (2 ^ d) > 0
          · refine Ev.ifp h5 ((J true).eqr ?_)
            have e1 : rnd m d = m / 2 ^ d + 1 := by
              unfold rnd
              rw [if_pos (.inl (by have := cmpI_more.1 h5; omega))]
            rw [e1]
            rfl
          · refine Ev.ifn h5 ?_
            by_cases h6 : cmpI (m % 2 ^ d * 2) (2 ^ d) = 0
            · have h7 := cmpI_same.1 h6
              refine Ev.ifp h6 ((J _).eqr ?_)
              have e1 : rnd m d = if (Int.tmod (m / 2 ^ d) 2 == 1) = true then m / 2 ^ d + 1 else m / 2 ^ d := by
                rw [Int.tmod_eq_emod_of_nonneg hW0]
                unfold rnd
                by_cases ho : m / 2 ^ d % 2 = 1
                · rw [if_pos (.inr ⟨by omega, ho⟩), if_pos (by rw [ho]; rfl)]
                · rw [if_neg (by omega), if_neg (by rw [beq_iff_eq]; exact ho)]
              rw [e1]
            · refine Ev.ifn h6 ((J false).eqr ?_)
              have e1 : rnd m d = m / 2 ^ d := by
                unfold rnd
                rw [if_neg ?_]
                intro k
                rcases k with k | k
                · exact h5 (cmpI_more.2 (by omega))
                · exact h6 (cmpI_same.2 (by omega))
              rw [e1]
              rfl
        · refine Ev.ifn h2 (Ev.bindc (ref09_Neg_c h) ?_)
          have er : ru (pm b) (pe b) 0 = pm b * 2 ^ (pe b).toNat / 2 ^ (-pe b).toNat := by
            unfold ru
            rw [show (0 - pe b).toNat = 0 by omega, rnd_zero, show pe b - 0 = pe b by omega, show (-pe b).toNat = 0 by omega, Int.pow_zero, Int.ediv_one]
          rw [er, w64_id (by omega) (by omega)]
          cases fs b
          · exact Ev.ifn (by decide) (Ev.same rfl)
          · exact Ev.ifp rfl (Ev.same rfl)
      generalize pm b * 2 ^ (pe b).toNat / 2 ^ (-pe b).toNat = W at *
      rcases (show W = 0 ∨ 0 < W by omega) with h0 | h0
      · rw [h0] at j0 ⊢
        exact Ev.ifn (by decide) j0
      · rw [rd_dg_zero h0 (by omega)] at j0 ⊢
        refine Ev.ifp (by simp) (Ev.ifp (by simp) ?_)
        rw [show rd [W] 0 = W from rfl, w64_id (by omega) (by omega)]
        exact j0
end Go.Proofs.Ytjocbnjpjihpnaa.M
end
section
namespace Go.Proofs.Ytjocbnjpjihpnaa.M
open Go.RowKit Go.Proofs.YtjocbnjpjihpnaaW.PrintWords Go.Proofs.YtjocbnjpjihpnaaW.PrintLast Go.Proofs.YtjocbnjpjihpnaaW.PrintMore
set_option linter.unusedVariables false

/-- In units of the least double. -/
def V (b : Int) : Int := pm b * 2 ^ (pe b + 1074).toNat
def SV (b : Int) : Int := sgI (fs b) (V b)
/-- The word without its sign. -/
def mw (b : Int) : Int := fx b * 4503599627370496 + fr b
theorem V_nonneg (b : Int) : 0 ≤ V b := Int.mul_nonneg (pm_range b).1 (by have := pow_pos (pe b + 1074).toNat; omega)
theorem V_low {b : Int} (h : fx b = 0) : V b = fr b := by
  unfold V pm pe
  rw [if_pos h, if_pos h]
  show fr b * 2 ^ 0 = _
  rw [Int.pow_zero, Int.mul_one]
theorem V_high {b : Int} {n : Nat} (h : fx b = n + 1) : V b = (fr b + 4503599627370496) * 2 ^ n := by
  unfold V pm pe
  rw [if_neg (by omega), if_neg (by omega), show (fx b - 1075 + 1074).toNat = n by omega]
theorem V_lt {a b : Int} (h : mw a < mw b) : V a < V b := by
  have a1 := @fx_range a
  have a2 := @fr_range a
  have b1 := @fx_range b
  have b2 := @fr_range b
  unfold mw at h
  rcases (show fx a = fx b ∨ fx a < fx b by omega) with he | he
  · rcases (show fx b = 0 ∨ 0 < fx b by omega) with h0 | h0
    · rw [V_low (by omega), V_low h0]
      omega
    · obtain ⟨n, hn⟩ : ∃ n : Nat, fx b = n + 1 := ⟨(fx b - 1).toNat, by omega⟩
      rw [V_high (by omega : fx a = n + 1), V_high hn]
      exact Int.mul_lt_mul_of_pos_right (by omega) (pow_pos n)
  · obtain ⟨n, hn⟩ : ∃ n : Nat, fx b = n + 1 := ⟨(fx b - 1).toNat, by omega⟩
    rw [V_high hn]
    have hp := pow_pos n
    have hb : 4503599627370496 * 2 ^ n ≤ (fr b + 4503599627370496) * 2 ^ n := Int.mul_le_mul_of_nonneg_right (by omega) (by omega)
    rcases (show fx a = 0 ∨ 0 < fx a by omega) with h0 | h0
    · rw [V_low h0]
      omega
    · obtain ⟨m, hm⟩ : ∃ m : Nat, fx a = m + 1 := ⟨(fx a - 1).toNat, by omega⟩
      rw [V_high hm]
      have hq := pow_pos m
      have h1 : (fr a + 4503599627370496) * 2 ^ m < 9007199254740992 * 2 ^ m := Int.mul_lt_mul_of_pos_right (by omega) hq
      have h2 := pow_le_pow (show m + 1 ≤ n by omega)
      rw [Int.pow_succ] at h2
      omega
theorem V_same {a b : Int} (h : mw a = mw b) : V a = V b := by
  have a1 := @fx_range a
  have a2 := @fr_range a
  have b1 := @fx_range b
  have b2 := @fr_range b
  unfold mw at h
  have h1 : fx a = fx b := by omega
  have h2 : fr a = fr b := by omega
  unfold V pm pe
  rw [h1, h2]
theorem V_iff (a b : Int) : (V a < V b ↔ mw a < mw b) ∧ (V a = V b ↔ mw a = mw b) := by
  rcases Int.lt_trichotomy (mw a) (mw b) with h | h | h
  · have := V_lt h
    omega
  · have := V_same h
    omega
  · have := V_lt h
    omega
theorem mw_nonneg (b : Int) : 0 ≤ mw b := by
  have a1 := @fx_range b
  have a2 := @fr_range b
  unfold mw
  omega
theorem V_zero (b : Int) : V b = 0 ↔ mw b = 0 := by
  have h := (V_iff b 0).2
  have e1 : V 0 = 0 := by decide
  have e2 : mw 0 = 0 := by decide
  rw [e1, e2] at h
  exact h
theorem fkey_mw {b : Int} (h : U b) : fkey b = sgI (fs b) (mw b) := by
  unfold U at h
  unfold fkey sgI fs mw fx fr
  by_cases hb : b ≥ 9223372036854775808
  · rw [decide_eq_true hb, if_pos rfl, if_pos rfl]; omega
  · rw [decide_eq_false hb, if_neg (by decide), if_neg (by decide)]; omega
/-- Keys stand as the numbers do. -/
theorem key_iff {a b : Int} (ha : U a) (hb : U b) : (SV a < SV b ↔ fkey a < fkey b) ∧ (SV a = SV b ↔ fkey a = fkey b) := by
  rw [fkey_mw ha, fkey_mw hb]
  have h1 := V_iff a b
  have h2 := V_iff b a
  have h3 := V_nonneg a
  have h4 := V_nonneg b
  have h5 := mw_nonneg a
  have h6 := mw_nonneg b
  have h7 := V_zero a
  have h8 := V_zero b
  unfold SV sgI
  cases fs a <;> cases fs b <;> simp only [if_true, Bool.false_eq_true, if_false] <;> omega
/-- What fits is a double. -/
theorem V_exact {M l : Int} (h0 : 0 < M) (h1 : M < 9007199254740992) (hl0 : -1074 ≤ l) (hl1 : l ≤ 971) : fx (Rd M l) ≠ 2047 ∧ fs (Rd M l) = false ∧ V (Rd M l) = M * 2 ^ (l + 1074).toNat ∧ U (Rd M l) := by
  have b0 := bl_pos h0
  have b1 : bl M ≤ 53 := bl_le_of (n := 53) h1
  have hu : un M l = max (bl M + l - 53) (-1074) := rfl
  have q := un_q (e := l) h0
  have hz : (un M l - l).toNat = 0 := by omega
  have hR : Rd M l = (un M l + 1074) * 4503599627370496 + M * 2 ^ (l - un M l).toNat := by
    rw [Rd_exact h0 (by omega) (by rw [hz, Int.pow_zero, Int.emod_one]), hz, Int.pow_zero, Int.ediv_one]
  rw [hz, Int.pow_zero, Int.ediv_one] at q
  rw [hR]
  have hV : M * 2 ^ (l + 1074).toNat = M * 2 ^ (l - un M l).toNat * 2 ^ (un M l + 1074).toNat := by
    rw [Int.mul_assoc, ← Int.pow_add]
    congr 2
    omega
  rw [hV]
  have hu1 : -1074 ≤ un M l := un_ge M l
  have hu2 : un M l ≤ 971 := by omega
  generalize M * 2 ^ (l - un M l).toNat = w at *
  generalize un M l = u at *
  clear hR hV hz hu
  obtain ⟨w0, w1, w2⟩ := q
  have hsp := sgn_parts (x := (u + 1074) * 4503599627370496 + w) (by omega) (by omega) false
  have es : sgn false ((u + 1074) * 4503599627370496 + w) = (u + 1074) * 4503599627370496 + w := rfl
  rw [es] at hsp
  obtain ⟨s1, s2, s3, s4⟩ := hsp
  generalize hb : (u + 1074) * 4503599627370496 + w = b at *
  refine ⟨by omega, s2, ?_, s1⟩
  rcases Int.lt_or_le w 4503599627370496 with h | h
  · obtain rfl : u = -1074 := by omega
    rw [V_low (by omega)]
    show fr b = w * 2 ^ 0
    rw [Int.pow_zero, Int.mul_one]
    omega
  · rw [V_high (n := (u + 1074).toNat) (by omega)]
    congr 1
    omega
end Go.Proofs.Ytjocbnjpjihpnaa.M
end
section
namespace Go.Proofs.Ytjocbnjpjihpnaa.M
open Go.RowKit Go.Proofs.YtjocbnjpjihpnaaW.PrintWords Go.Proofs.YtjocbnjpjihpnaaW.PrintLast Go.Proofs.YtjocbnjpjihpnaaW.PrintMore
set_option linter.unusedVariables false

def fpart (n : Int) : Int := fdiv 4607182418800017408 (fint n)
theorem fpart_U (n : Int) : U (fpart n) := fdiv_U _ _
def facI : Nat → Int
  | 0 => 1
  | n + 1 => facI n * (n + 1)
/-- So many steps of the exponential's sum. -/
def hexp (r : Int) : Nat → Int → Int
  | 0, p => p
  | i + 1, p => hexp r i (fadd (fmul p r) (fpart (facI i)))
def ek (x : Int) : Int := (near (fmul x 4609176140021203710)).1
def er (x : Int) : Int := fsub (fsub x (fmul (fint (ek x)) 4604418534311723008)) (fmul (fint (ek x)) 4461442080421002358)
def fexp (x : Int) : Int := if fk x = 4 then NAN else if less (fint 710) x = true then INF else if less x (fint (-746)) = true then 0 else fscale (hexp (er x) 13 (fpart (facI 13))) (ek x)
def hlog (z : Int) : Nat → Int → Int
  | 0, p => p
  | i + 1, p => hlog z i (fadd (fmul p z) (fpart (2 * ((i : Int) + 1) + 1)))
def ls (f : Int) : Int := fdiv (fsub f 4607182418800017408) (fadd 4611686018427387904 (fsub f 4607182418800017408))
def lz (f : Int) : Int := fmul (ls f) (ls f)
def lp (f : Int) : Int := hlog (lz f) 9 (fpart 21)
def ly (f : Int) : Int := fadd (fadd (ls f) (ls f)) (fmul (fadd (ls f) (ls f)) (fmul (lp f) (lz f)))
def flogS (f k : Int) : Int := if k = 0 then ly f else fadd (fmul (fint k) 4604418534311723008) (fadd (ly f) (fmul (fint k) 4461442080421002358))
def splitF (x : Int) : Int × Int := if less 4609047870845172685 (Rd (pm x) (1 - bl (pm x))) = true then (Rd (pm x) (-bl (pm x)), pe x + bl (pm x)) else (Rd (pm x) (1 - bl (pm x)), pe x + bl (pm x) - 1)
def flog (x : Int) : Int := if fk x = 0 then sgn true INF else if fk x = 4 ∨ fs x = true then NAN else if fk x = 3 then x else flogS (splitF x).1 (splitF x).2
/-- A double's rounding hangs on its value alone. -/
theorem Rd_same {m m' c c' : Int} (h : 0 < m) (h' : 0 < m') (e : m * 2 ^ (c + 1074).toNat = m' * 2 ^ (c' + 1074).toNat) (hc : -1074 ≤ c) (hc' : -1074 ≤ c') (d : Int) : Rd m (c + d) = Rd m' (c' + d) := by
  have key : ∀ {m m' c c' : Int}, 0 < m → 0 < m' → m * 2 ^ (c + 1074).toNat = m' * 2 ^ (c' + 1074).toNat → -1074 ≤ c → c ≤ c' → Rd m (c + d) = Rd m' (c' + d) := by
    intro m m' c c' h h' e hc hle
    have hm : m = m' * 2 ^ (c' - c).toNat := by
      rw [show (c' + 1074).toNat = (c' - c).toNat + (c + 1074).toNat by omega, Int.pow_add, ← Int.mul_assoc] at e
      exact Int.eq_of_mul_eq_mul_right (by have := pow_pos (c + 1074).toNat; omega) e
    rw [hm, show c + d = c' + d - ((c' - c).toNat : Int) by omega]
    exact Rd_scale h' _ _
  rcases Int.le_total c c' with k | k
  · exact key h h' e hc k
  · exact (key h' h e.symm hc' (by omega)).symm
theorem V_one : V 4607182418800017408 = 2 ^ 1074 ∧ fs 4607182418800017408 = false ∧ fk 4607182418800017408 ≠ 4 := by
  refine ⟨?_, by decide, by decide⟩
  rw [V_high (n := 1022) (by decide)]
  have : fr 4607182418800017408 + 4503599627370496 = 2 ^ (52 : Nat) := by decide
  rw [this, ← Int.pow_add]
theorem V_two : V 4611686018427387904 = 2 ^ 1075 ∧ fs 4611686018427387904 = false ∧ fk 4611686018427387904 ≠ 4 := by
  refine ⟨?_, by decide, by decide⟩
  rw [V_high (n := 1023) (by decide)]
  have : fr 4611686018427387904 + 4503599627370496 = 2 ^ (52 : Nat) := by decide
  rw [this, ← Int.pow_add]
/-- A word times a power of two against a power of two. -/
theorem less_pow {m c b : Int} {q : Nat} (h0 : 0 < m) (h1 : m < 9007199254740992) (hc0 : -1074 ≤ c) (hc1 : c ≤ 971) (hb : U b) (hV : V b = 2 ^ q) (hs : fs b = false) (hk : fk b ≠ 4) : less (Rd m c) b = decide (c + 1074 + bl m ≤ q) := by
  obtain ⟨e1, e2, e3, e4⟩ := V_exact h0 h1 hc0 hc1
  have hfk : fk (Rd m c) ≠ 4 := fun k => by have := (fk_eq (Rd m c)).1.1 k; omega
  have hkey := (key_iff e4 hb).1
  have s1 : SV (Rd m c) = m * 2 ^ (c + 1074).toNat := by unfold SV; rw [e2, e3]; rfl
  have s2 : SV b = 2 ^ q := by unfold SV; rw [hs, hV]; rfl
  rw [s1, s2] at hkey
  have b1 := bl_lt m
  have b2 := bl_le h0
  have b3 := bl_pos h0
  unfold less
  by_cases h : c + 1074 + bl m ≤ q
  · rw [decide_eq_true h]
    refine decide_eq_true ⟨hfk, hk, hkey.1 ?_⟩
    have p1 := Int.mul_lt_mul_of_pos_right b1 (pow_pos (c + 1074).toNat)
    rw [← Int.pow_add] at p1
    have p2 := pow_le_pow (a := (bl m).toNat + (c + 1074).toNat) (b := q) (by omega)
    omega
  · rw [decide_eq_false h]
    refine decide_eq_false fun k => ?_
    have := hkey.2 k.2.2
    have p1 := Int.mul_le_mul_of_nonneg_right b2 (Int.le_of_lt (pow_pos (c + 1074).toNat))
    rw [← Int.pow_add] at p1
    have p2 := pow_le_pow (a := q) (b := (bl m - 1).toNat + (c + 1074).toNat) (by omega)
    omega
/-- Scaled by a power of two: the word stays. -/
theorem scale_word {m c d : Int} (h0 : 0 < m) (h1 : m < 9007199254740992) (hc0 : -1074 ≤ c) (hc1 : c ≤ 971) (hd0 : -5000 ≤ d) (hd1 : d ≤ 5000) : fscale (Rd m c) d = Rd m (c + d) := by
  obtain ⟨e1, e2, e3, e4⟩ := V_exact h0 h1 hc0 hc1
  unfold fscale
  rw [if_neg e1, e2, show min (max d (-5000)) 5000 = d by omega]
  have hp : 0 < pm (Rd m c) := by
    have := pm_range (Rd m c)
    rcases (show pm (Rd m c) = 0 ∨ 0 < pm (Rd m c) by omega) with k | k
    · have : V (Rd m c) = 0 := by unfold V; rw [k, Int.zero_mul]
      rw [e3] at this
      have := Int.mul_pos h0 (pow_pos (c + 1074).toNat)
      omega
    · exact k
  have hpe := pe_range (Rd m c)
  show Rd (pm (Rd m c)) (pe (Rd m c) + d) = _
  exact Rd_same hp h0 (by rw [← e3]; rfl) hpe.1 hc0 d
end Go.Proofs.Ytjocbnjpjihpnaa.M
end
section
namespace Go.Proofs.Ytjocbnjpjihpnaa.M
open Go.RowKit Go.Proofs.Ytjocbnjpjihpnaa.P Go.Proofs.YtjocbnjpjihpnaaW.PrintWords Go.Proofs.YtjocbnjpjihpnaaW.PrintLast Go.Proofs.YtjocbnjpjihpnaaW.PrintMore
set_option linter.unusedVariables false

theorem U_lit : U 4607182418800017408 ∧ U 4611686018427387904 ∧ U 4609047870845172685 ∧ U 4604418534311723008 ∧ U 4461442080421002358 ∧ U 4609176140021203710 := by unfold U; omega
theorem kernel_part_c {n : Int} (h0 : -9223372036854775808 ≤ n) (h1 : n ≤ 9223372036854775807) : Ev (fun k => kernel_part.f k n) (fpart n) :=
  Ev.bind (fround_FromInt_c h0 h1) (Ev.bind (fprod_Div_c U_lit.1 (fint_U n)) (Ev.same rfl))
theorem ref14_by_c {n : Int} (h0 : -9223372036854775808 ≤ n) (h1 : n ≤ 9223372036854775807) : Ev (fun k => gradineref14_by.f k n) (fpart n) :=
  Ev.bind (ref10_FromInt_c h0 h1) (Ev.bind (ref12_Div_c U_lit.1 (fint_U n)) (Ev.same rfl))
theorem facI_le : facI 0 = 1 ∧ facI 1 = 1 ∧ facI 2 = 2 ∧ facI 3 = 6 ∧ facI 4 = 24 ∧ facI 5 = 120 ∧ facI 6 = 720 ∧ facI 7 = 5040 ∧ facI 8 = 40320 ∧ facI 9 = 362880 ∧ facI 10 = 3628800 ∧ facI 11 = 39916800 ∧ facI 12 = 479001600 ∧ facI 13 = 6227020800 := by decide
theorem facI_range {n : Nat} (h : n ≤ 13) : 1 ≤ facI n ∧ facI n ≤ 6227020800 := by
  have := facI_le
  rcases (show n = 0 ∨ n = 1 ∨ n = 2 ∨ n = 3 ∨ n = 4 ∨ n = 5 ∨ n = 6 ∨ n = 7 ∨ n = 8 ∨ n = 9 ∨ n = 10 ∨ n = 11 ∨ n = 12 ∨ n = 13 by omega) with h | h | h | h | h | h | h | h | h | h | h | h | h | h <;> subst h <;> omega
theorem ref14_factorial_l {n : Nat} (hn : n ≤ 13) (d : Nat) : ∀ i : Nat, i + d = n → Ev (fun k => gradineref14_factorial.l0 k (facI i) n i) (facI n) := by
  induction d with
  | zero =>
    intro i hi
    obtain rfl : i = n := by omega
    exact Ev.step (fun k => gradineref14_factorial.l0.eq_2 ..) (Ev.ifn (by omega) (Ev.same rfl))
  | succ d ih =>
    intro i hi
    have r1 := facI_range (n := i) (by omega)
    have r2 := facI_range (n := i + 1) (by omega)
    have e1 : wrap64 ((i : Int) + 1) = ((i + 1 : Nat) : Int) := by rw [w64_id (by omega) (by omega)]; rfl
    have e2 : wrap64 (facI i * ((i + 1 : Nat) : Int)) = facI (i + 1) := by
      have : facI i * ((i + 1 : Nat) : Int) = facI (i + 1) := rfl
      rw [this, w64_id (by omega) (by omega)]
    refine Ev.step (fun k => gradineref14_factorial.l0.eq_2 ..) (Ev.ifp (by omega) ?_)
    simp only [e1, e2]
    exact ih (i + 1) (by omega)
theorem ref14_factorial_c {n : Nat} (hn : n ≤ 13) : Ev (fun k => gradineref14_factorial.f k n) (facI n) := ref14_factorial_l hn n 0 (by omega)
/-! ### the logarithm -/
theorem word_make {m d : Int} (h0 : 0 < m) (h1 : m < 9007199254740992) (hd : d = 0 ∨ d = 1) : Mk false m (d - bl m) = (Rd m (d - bl m), true) := by
  have b1 : bl m ≤ 53 := bl_le_of (n := 53) (by have : (2 : Int) ^ 53 = 9007199254740992 := rfl
                                                omega)
  have b2 := bl_pos h0
  have hu : un m (d - bl m) = d - 53 := by unfold un; omega
  have := Mk_yes false (m := m) (e := d - bl m) (by omega) (by omega) (by
    rw [hu, show (d - 53 - (d - bl m)).toNat = 0 by omega, Int.pow_zero, Int.emod_one])
  rw [this]
  rfl
theorem kernel_split_c {x : Int} (h : U x) (hx : fx x ≠ 2047) (h0 : 0 < pm x) : Ev (fun k => kernel_split.f k x) (splitF x) := by
  have P := fbits_Parts_c h
  rw [if_neg hx] at P
  have pr := pm_range x
  have pe_ := pe_range x
  have b1 : bl (pm x) ≤ 53 := bl_le_of (n := 53) (by have : (2 : Int) ^ 53 = 9007199254740992 := rfl
                                                     omega)
  have b2 := bl_pos h0
  have hU : U (pm x) := by unfold U; omega
  have hp := pe_.2.2.1 hx
  refine Ev.bind P (Ev.bind (limb_Len_c hU) ?_)
  simp only [w64_id (show -9223372036854775808 ≤ 1 - bl (pm x) by omega) (by omega), w64_id (show -9223372036854775808 ≤ -bl (pm x) by omega) (by omega), w64_id (show -9223372036854775808 ≤ pe x + bl (pm x) by omega) (by omega), w64_id (show -9223372036854775808 ≤ pe x + bl (pm x) - 1 by omega) (by omega)]
  have M1 := fbits_Make_c false hU (e := 1 - bl (pm x)) (by omega) (by omega)
  have M2 := fbits_Make_c false hU (e := -bl (pm x)) (by omega) (by omega)
  rw [word_make h0 pr.2 (.inr rfl)] at M1
  rw [show -bl (pm x) = 0 - bl (pm x) by omega, word_make h0 pr.2 (.inl rfl)] at M2
  have v1 := V_exact h0 pr.2 (l := 1 - bl (pm x)) (by omega) (by omega)
  refine Ev.bind M1 (Ev.bindc (fcmp_Less_c U_lit.2.2.1 v1.2.2.2) ?_)
  unfold splitF
  by_cases hl : less 4609047870845172685 (Rd (pm x) (1 - bl (pm x))) = true
  · rw [if_pos hl]
    refine Ev.ifp hl ?_
    rw [show -bl (pm x) = 0 - bl (pm x) by omega]
    exact Ev.bind M2 (Ev.same rfl)
  · rw [if_neg hl]
    exact Ev.ifn hl (Ev.same rfl)
theorem ls_U (f : Int) : U (ls f) := fdiv_U _ _
theorem lz_U (f : Int) : U (lz f) := fmul_U _ _
theorem ly_U (f : Int) : U (ly f) := fadd_U (fadd_U (ls_U f) (ls_U f)) (fmul_U _ _)
theorem fsub_U {a b : Int} (ha : U a) : U (fsub a b) := fadd_U ha (fl_U b)
theorem kernel_Log_l {f e p : Int} (he0 : -5000 ≤ e) (he1 : e ≤ 5000) (hp : U p) (i : Nat) (hi : i ≤ 9) (hq : hlog (lz f) i p = lp f) : Ev (fun k => kernel_Log.l0 k e (ls f) (lz f) p i) (flogS f e) := by
  induction i generalizing p with
  | zero =>
    have hq : p = lp f := hq
    rw [hq]
    rw [hq] at hp
    refine Ev.step (fun k => kernel_Log.l0.eq_2 ..) (Ev.ifn (by omega) (Ev.bind (fsum_Add_c (ls_U f) (ls_U f)) (Ev.bind (fprod_Mul_c hp (lz_U f)) (Ev.bind (fprod_Mul_c (fadd_U (ls_U f) (ls_U f)) (fmul_U _ _)) (Ev.bind (fsum_Add_c (fadd_U (ls_U f) (ls_U f)) (fmul_U _ _)) ?_)))))
    unfold flogS
    by_cases h0 : e = 0
    · rw [if_pos h0]
      exact Ev.ifp h0 (Ev.same rfl)
    · rw [if_neg h0]
      exact Ev.ifn h0 (Ev.bind (fround_FromInt_c (by omega) (by omega)) (Ev.bind (fprod_Mul_c (fint_U e) U_lit.2.2.2.1) (Ev.bind (fprod_Mul_c (fint_U e) U_lit.2.2.2.2.1) (Ev.bind (fsum_Add_c (ly_U f) (fmul_U _ _)) (Ev.bind (fsum_Add_c (fmul_U _ _) (fadd_U (ly_U f) (fmul_U _ _))) (Ev.same rfl))))))
  | succ i ih =>
    have e1 : wrap64 (wrap64 (2 * ((i + 1 : Nat) : Int)) + 1) = 2 * ((i : Int) + 1) + 1 := by rw [w64_id (n := 2 * ((i + 1 : Nat) : Int)) (by omega) (by omega), w64_id (by omega) (by omega)]; omega
    have e2 : wrap64 (((i + 1 : Nat) : Int) - 1) = (i : Int) := by rw [w64_id (by omega) (by omega)]; omega
    refine Ev.step (fun k => kernel_Log.l0.eq_2 ..) (Ev.ifp (by omega) ?_)
    simp only [e1, e2]
    exact Ev.bind (fprod_Mul_c hp (lz_U f)) (Ev.bind (kernel_part_c (by omega) (by omega)) (Ev.bind (fsum_Add_c (fmul_U _ _) (fpart_U _)) (ih (fadd_U (fmul_U _ _) (fpart_U _)) (by omega) hq)))
theorem kernel_Log_c {x : Int} (h : U x) : Ev (fun k => kernel_Log.f k x) (flog x) := by
  refine Ev.bindc (fbits_Kind_c h) ?_
  unfold flog
  by_cases h0 : fk x = 0
  · rw [if_pos h0]
    exact Ev.ifp h0 (Ev.bindc (fbits_Inf_c true) (Ev.same rfl))
  rw [if_neg h0]
  refine Ev.ifn h0 ?_
  have j0 : ∀ b : Bool, b = decide (fk x = 4 ∨ fs x = true) → Ev (fun k => kernel_Log.j0 k x (fk x) b) (if fk x = 4 ∨ fs x = true then NAN else if fk x = 3 then x else flogS (splitF x).1 (splitF x).2) := fun b hb => by
    refine Ev.step (fun k => kernel_Log.j0.eq_2 ..) ?_
    by_cases h4 : fk x = 4 ∨ fs x = true
    · rw [if_pos h4]
      exact Ev.ifp (by rw [hb]; exact decide_eq_true h4) (Ev.bindc fbits_Nan_c (Ev.same rfl))
    · rw [if_neg h4]
      refine Ev.ifn (by rw [hb, decide_eq_false h4]; decide) ?_
      by_cases h3 : fk x = 3
      · rw [if_pos h3]
        exact Ev.ifp h3 (Ev.same rfl)
      · rw [if_neg h3]
        have hx := fk_fin (fun k => h4 (.inl k)) h3
        have hp : 0 < pm x := by
          have := (fk_eq x).2.2.2.1
          have := pm_range x
          rcases (show pm x = 0 ∨ 0 < pm x by omega) with k | k
          · exact absurd ((fk_eq x).2.2.2.1.2 ⟨hx, k⟩) h0
          · exact k
        have pr := pm_range x
        have pe_ := pe_range x
        have hpe := pe_.2.2.1 hx
        have b1 : bl (pm x) ≤ 53 := bl_le_of (n := 53) (by have : (2 : Int) ^ 53 = 9007199254740992 := rfl
                                                           omega)
        have b2 := bl_pos hp
        have v1 := V_exact hp pr.2 (l := 1 - bl (pm x)) (by omega) (by omega)
        have v2 := V_exact hp pr.2 (l := -bl (pm x)) (by omega) (by omega)
        have hU : U (splitF x).1 ∧ -5000 ≤ (splitF x).2 ∧ (splitF x).2 ≤ 5000 := by
          unfold splitF
          split
          · exact ⟨v2.2.2.2, by dsimp only; omega, by dsimp only; omega⟩
          · exact ⟨v1.2.2.2, by dsimp only; omega, by dsimp only; omega⟩
        refine Ev.ifn h3 (Ev.bind (kernel_split_c h hx hp) (Ev.bind (fsum_Sub_c hU.1 U_lit.1) (Ev.bind (fsum_Add_c U_lit.2.1 (fsub_U hU.1)) (Ev.bind (fprod_Div_c (fsub_U hU.1) (fadd_U U_lit.2.1 (fsub_U hU.1))) (Ev.bind (fprod_Mul_c (fdiv_U _ _) (fdiv_U _ _)) (Ev.bind (kernel_part_c (by omega) (by omega)) ?_))))))
        exact kernel_Log_l hU.2.1 hU.2.2 (fpart_U _) 9 (by omega) rfl
  by_cases h4 : fk x = 4
  · exact Ev.ifp h4 (j0 true (by rw [decide_eq_true (.inl h4)]))
  · refine Ev.ifn h4 (Ev.bindc (fbits_Neg_c h) (j0 _ ?_))
    cases hs : fs x
    · rw [decide_eq_false (by rintro (k | k); exact h4 k; cases k)]
    · rw [decide_eq_true (.inr rfl)]
/-! ### the document's logarithm -/
theorem ref14_Log_l2 {f e p : Int} (he0 : -5000 ≤ e) (he1 : e ≤ 5000) (hp : U p) (i : Nat) (j : Int) (hi : (i : Int) + j = 9) (hj : 0 ≤ j) (hq : hlog (lz f) i p = lp f) : Ev (fun k => gradineref14_Log.l2 k e (ls f) (lz f) p j) (flogS f e) := by
  induction i generalizing p j with
  | zero =>
    have hq : p = lp f := hq
    rw [hq]
    rw [hq] at hp
    refine Ev.step (fun k => gradineref14_Log.l2.eq_2 ..) (Ev.ifn (by omega) (Ev.bind (ref11_Add_c (ls_U f) (ls_U f)) (Ev.bind (ref12_Mul_c hp (lz_U f)) (Ev.bind (ref12_Mul_c (fadd_U (ls_U f) (ls_U f)) (fmul_U _ _)) (Ev.bind (ref11_Add_c (fadd_U (ls_U f) (ls_U f)) (fmul_U _ _)) ?_)))))
    unfold flogS
    by_cases h0 : e = 0
    · rw [if_pos h0]
      exact Ev.ifp h0 (Ev.same rfl)
    · rw [if_neg h0]
      exact Ev.ifn h0 (Ev.bind (ref10_FromInt_c (by omega) (by omega)) (Ev.bind (ref12_Mul_c (fint_U e) U_lit.2.2.2.1) (Ev.bind (ref12_Mul_c (fint_U e) U_lit.2.2.2.2.1) (Ev.bind (ref11_Add_c (ly_U f) (fmul_U _ _)) (Ev.bind (ref11_Add_c (fmul_U _ _) (fadd_U (ly_U f) (fmul_U _ _))) (Ev.same rfl))))))
  | succ i ih =>
    have e1 : wrap64 (19 - wrap64 (2 * j)) = 2 * ((i : Int) + 1) + 1 := by rw [w64_id (n := 2 * j) (by omega) (by omega), w64_id (by omega) (by omega)]; omega
    have e2 : wrap64 (j + 1) = j + 1 := w64_id (by omega) (by omega)
    refine Ev.step (fun k => gradineref14_Log.l2.eq_2 ..) (Ev.ifp (by omega) ?_)
    simp only [e1, e2]
    exact Ev.bind (ref12_Mul_c hp (lz_U f)) (Ev.bind (ref14_by_c (by omega) (by omega)) (Ev.bind (ref11_Add_c (fmul_U _ _) (fpart_U _)) (ih (fadd_U (fmul_U _ _) (fpart_U _)) (j + 1) (by omega) (by omega) hq)))
theorem ref14_Log_j3 {f e : Int} (hU : U f) (he0 : -5000 ≤ e) (he1 : e ≤ 5000) : Ev (fun k => gradineref14_Log.j3 k f e) (flogS f e) :=
  Ev.step (fun k => gradineref14_Log.j3.eq_2 ..) (Ev.bind (ref11_Sub_c hU U_lit.1) (Ev.bind (ref11_Add_c U_lit.2.1 (fsub_U hU)) (Ev.bind (ref12_Div_c (fsub_U hU) (fadd_U U_lit.2.1 (fsub_U hU))) (Ev.bind (ref12_Mul_c (fdiv_U _ _) (fdiv_U _ _)) (Ev.bind (ref14_by_c (by omega) (by omega)) (ref14_Log_l2 he0 he1 (fpart_U _) 9 0 (by omega) (by omega) rfl))))))
theorem ref13_Less_c' {a b : Int} (ha : U a) (hb : U b) : Ev (fun k => gradineref13_Less.f k a b) (less a b) := ref13_Less_c ha hb
theorem ref14_Log_l1 {m c e : Int} (h0 : 0 < m) (h1 : m < 9007199254740992) (hc1 : c ≤ 971) (hc : 1 ≤ c + bl m) (he0 : -2000 ≤ e) (n : Nat) (hn : (c + bl m).toNat ≤ n) (hb : e + c + bl m ≤ 2000) : Ev (fun k => gradineref14_Log.l1 k (Rd m c) e) (if less 4609047870845172685 (Rd m (1 - bl m)) = true then flogS (Rd m (-bl m)) (e + c + bl m) else flogS (Rd m (1 - bl m)) (e + c + bl m - 1)) := by
  have b1 : bl m ≤ 53 := bl_le_of (n := 53) (by have : (2 : Int) ^ 53 = 9007199254740992 := rfl
                                                omega)
  have b2 := bl_pos h0
  induction n generalizing c e with
  | zero => omega
  | succ n ih =>
    have v1 := V_exact h0 h1 (l := c) (by omega) hc1
    have hl := less_pow h0 h1 (c := c) (by omega) hc1 U_lit.2.1 V_two.1 V_two.2.1 V_two.2.2
    have L1 := ref13_Less_c' v1.2.2.2 U_lit.2.1
    refine Ev.step (fun k => gradineref14_Log.l1.eq_2 ..) (Ev.bind L1 ?_)
    rw [hl]
    by_cases hd : c + 1074 + bl m ≤ ((1075 : Nat) : Int)
    · rw [decide_eq_true hd]
      have hc1' : c = 1 - bl m := by omega
      subst hc1'
      refine Ev.ifp rfl (Ev.bind (ref13_Less_c' U_lit.2.2.1 v1.2.2.2) ?_)
      by_cases hR : less 4609047870845172685 (Rd m (1 - bl m)) = true
      · rw [if_pos hR]
        have S := ref13_Scale_c (b := Rd m (1 - bl m)) (k := -1) v1.2.2.2
        rw [scale_word h0 h1 (by omega) hc1 (by omega) (by omega), show 1 - bl m + -1 = -bl m by omega] at S
        have v2 := V_exact h0 h1 (l := -bl m) (by omega) (by omega)
        refine Ev.ifp hR (Ev.bind S ?_)
        have e1 : wrap64 (e + 1) = e + (1 - bl m) + bl m := by rw [w64_id (by omega) (by omega)]; omega
        rw [e1]
        exact ref14_Log_j3 v2.2.2.2 (by omega) (by omega)
      · rw [if_neg hR]
        refine Ev.ifn hR ?_
        have e1 : e = e + (1 - bl m) + bl m - 1 := by omega
        rw [← e1]
        exact ref14_Log_j3 v1.2.2.2 (by omega) (by omega)
    · rw [decide_eq_false hd]
      have S := ref13_Scale_c (b := Rd m c) (k := -1) v1.2.2.2
      rw [scale_word h0 h1 (by omega) hc1 (by omega) (by omega)] at S
      refine Ev.ifn (by decide) (Ev.bind S ?_)
      rw [w64_id (n := e + 1) (by omega) (by omega)]
      have := ih (c := c + -1) (e := e + 1) (by omega) (by omega) (by omega) (by omega) (by omega)
      rw [show e + 1 + (c + -1) + bl m = e + c + bl m by omega] at this
      exact this
theorem ref14_Log_l0 {m c e : Int} (h0 : 0 < m) (h1 : m < 9007199254740992) (hc0 : -1074 ≤ c) (hc1 : c ≤ 971) (he0 : -1500 + max (1 - c - bl m) 0 ≤ e) (n : Nat) (hn : (1 - c - bl m).toNat ≤ n) (hb : e + c + bl m ≤ 1500) : Ev (fun k => gradineref14_Log.l0 k (Rd m c) e) (if less 4609047870845172685 (Rd m (1 - bl m)) = true then flogS (Rd m (-bl m)) (e + c + bl m) else flogS (Rd m (1 - bl m)) (e + c + bl m - 1)) := by
  have b1 : bl m ≤ 53 := bl_le_of (n := 53) (by have : (2 : Int) ^ 53 = 9007199254740992 := rfl
                                                omega)
  have b2 := bl_pos h0
  induction n generalizing c e with
  | zero =>
    have v1 := V_exact h0 h1 (l := c) hc0 hc1
    have hl := less_pow h0 h1 (c := c) hc0 hc1 U_lit.1 V_one.1 V_one.2.1 V_one.2.2
    refine Ev.step (fun k => gradineref14_Log.l0.eq_2 ..) (Ev.bind (ref13_Less_c' v1.2.2.2 U_lit.1) ?_)
    rw [hl, decide_eq_false (by omega)]
    exact Ev.ifn (by decide) (ref14_Log_l1 h0 h1 hc1 (by omega) (by omega) (c + bl m).toNat (Nat.le_refl _) (by omega))
  | succ n ih =>
    have v1 := V_exact h0 h1 (l := c) hc0 hc1
    have hl := less_pow h0 h1 (c := c) hc0 hc1 U_lit.1 V_one.1 V_one.2.1 V_one.2.2
    refine Ev.step (fun k => gradineref14_Log.l0.eq_2 ..) (Ev.bind (ref13_Less_c' v1.2.2.2 U_lit.1) ?_)
    rw [hl]
    by_cases hd : c + 1074 + bl m ≤ ((1074 : Nat) : Int)
    · rw [decide_eq_true hd]
      have S := ref13_Scale_c (b := Rd m c) (k := 1) v1.2.2.2
      rw [scale_word h0 h1 hc0 hc1 (by omega) (by omega)] at S
      refine Ev.ifp rfl (Ev.bind S ?_)
      rw [w64_id (n := e - 1) (by omega) (by omega)]
      have := ih (c := c + 1) (e := e - 1) (by omega) (by omega) (by omega) (by omega) (by omega)
      rw [show e - 1 + (c + 1) + bl m = e + c + bl m by omega] at this
      exact this
    · rw [decide_eq_false hd]
      exact Ev.ifn (by decide) (ref14_Log_l1 h0 h1 hc1 (by omega) (by omega) (c + bl m).toNat (Nat.le_refl _) (by omega))
theorem ref14_Log_c {x : Int} (h : U x) : Ev (fun k => gradineref14_Log.f k x) (flog x) := by
  refine Ev.bindc (ref09_Kind_c h) ?_
  unfold flog
  by_cases h0 : fk x = 0
  · rw [if_pos h0]
    exact Ev.ifp h0 (Ev.bindc (ref09_Inf_c true) (Ev.same rfl))
  rw [if_neg h0]
  refine Ev.ifn h0 (Ev.bindc (ref09_Kind_c h) ?_)
  have j0 : ∀ b : Bool, b = decide (fk x = 4 ∨ fs x = true) → Ev (fun k => gradineref14_Log.j0 k x b) (if fk x = 4 ∨ fs x = true then NAN else if fk x = 3 then x else flogS (splitF x).1 (splitF x).2) := fun b hb => by
    refine Ev.step (fun k => gradineref14_Log.j0.eq_2 ..) ?_
    by_cases h4 : fk x = 4 ∨ fs x = true
    · rw [if_pos h4]
      exact Ev.ifp (by rw [hb]; exact decide_eq_true h4) (Ev.bindc ref09_Nan_c (Ev.same rfl))
    · rw [if_neg h4]
      refine Ev.ifn (by rw [hb, decide_eq_false h4]; decide) (Ev.bindc (ref09_Kind_c h) ?_)
      by_cases h3 : fk x = 3
      · rw [if_pos h3]
        exact Ev.ifp h3 (Ev.same rfl)
      · rw [if_neg h3]
        have hx := fk_fin (fun k => h4 (.inl k)) h3
        have hp : 0 < pm x := by
          have := pm_range x
          rcases (show pm x = 0 ∨ 0 < pm x by omega) with k | k
          · exact absurd ((fk_eq x).2.2.2.1.2 ⟨hx, k⟩) h0
          · exact k
        have pr := pm_range x
        have pe_ := pe_range x
        have hpe := pe_.2.2.1 hx
        have b1 : bl (pm x) ≤ 53 := bl_le_of (n := 53) (by have : (2 : Int) ^ 53 = 9007199254740992 := rfl
                                                           omega)
        have b2 := bl_pos hp
        have hs : fs x = false := by
          cases hs : fs x
          · rfl
          · exact absurd (.inr hs) h4
        have hw := word_finite h (fun k => h4 (.inl k)) h3
        rw [hs] at hw
        have hw : Rd (pm x) (pe x) = x := hw
        have := ref14_Log_l0 hp pr.2 pe_.1 hpe (e := 0) (by omega) (1 - pe x - bl (pm x)).toNat (Nat.le_refl _) (by omega)
        rw [hw] at this
        refine Ev.ifn h3 (this.eqr ?_)
        unfold splitF
        split
        · rw [show 0 + pe x + bl (pm x) = pe x + bl (pm x) by omega]
        · rw [show 0 + pe x + bl (pm x) - 1 = pe x + bl (pm x) - 1 by omega]
  by_cases h4 : fk x = 4
  · exact Ev.ifp h4 (j0 true (by rw [decide_eq_true (.inl h4)]))
  · refine Ev.ifn h4 (Ev.bindc (ref09_Neg_c h) (j0 _ ?_))
    cases hs : fs x
    · rw [decide_eq_false (by rintro (k | k); exact h4 k; cases k)]
    · rw [decide_eq_true (.inr rfl)]
/-! ### the document's exponential -/
theorem near_range {b : Int} (h : U b) : -9223372036854775808 ≤ (near b).1 ∧ (near b).1 ≤ 9223372036854775807 := by
  unfold near
  split
  · exact ⟨by decide, by decide⟩
  · rename_i hh
    have p := pm_range b
    have key : 0 ≤ ru (pm b) (pe b) 0 ∧ ru (pm b) (pe b) 0 ≤ 9223372036854775807 := by
      have l1 := bl_lt (pm b)
      have hb : bl (pm b) + pe b ≤ 62 := by
        rcases Int.lt_or_le 62 (bl (pm b) + pe b) with k | k
        · exact absurd (.inr k) hh
        · exact k
      have b0 := bl_nonneg (pm b)
      by_cases h2 : 0 ≤ pe b
      · have hp := pow_pos (pe b).toNat
        have h3 := Int.mul_lt_mul_of_pos_right l1 hp
        rw [← Int.pow_add] at h3
        have h4 := pow_le_pow (a := (bl (pm b)).toNat + (pe b).toNat) (b := 62) (by omega)
        have e62 : (2 : Int) ^ 62 = 4611686018427387904 := rfl
        have hge : 0 ≤ pm b * 2 ^ (pe b).toNat := Int.mul_nonneg p.1 (Int.le_of_lt hp)
        unfold ru
        rw [show (0 - pe b).toNat = 0 by omega, rnd_zero, show pe b - 0 = pe b by omega]
        omega
      · unfold ru
        rw [show (pe b - 0).toNat = 0 by omega, Int.pow_zero, Int.mul_one]
        have r := rnd_le (pm b) (0 - pe b).toNat
        have q := Int.ediv_le_self (2 ^ (0 - pe b).toNat) p.1
        have q2 := Int.ediv_nonneg p.1 (Int.le_of_lt (pow_pos (0 - pe b).toNat))
        omega
    split
    · exact ⟨by dsimp only; omega, by dsimp only; omega⟩
    · exact ⟨by dsimp only; omega, by dsimp only; omega⟩
theorem ref14_Exp_l {r p e : Int} (hr : U r) (hp : U p) (i : Nat) (j : Int) (hi : (i : Int) + j = 13) (hj : 0 ≤ j) : Ev (fun k => gradineref14_Exp.l0 k e r p j) (fscale (hexp r i p) e) := by
  induction i generalizing p j with
  | zero => exact Ev.step (fun k => gradineref14_Exp.l0.eq_2 ..) (Ev.ifn (by omega) (Ev.bind (ref13_Scale_c hp) (Ev.same rfl)))
  | succ i ih =>
    have e1 : wrap64 (12 - j) = (i : Int) := by rw [w64_id (by omega) (by omega)]; omega
    have e2 : wrap64 (j + 1) = j + 1 := w64_id (by omega) (by omega)
    have f1 := facI_range (n := i) (by omega)
    refine Ev.step (fun k => gradineref14_Exp.l0.eq_2 ..) (Ev.ifp (by omega) ?_)
    simp only [e1, e2]
    exact Ev.bind (ref12_Mul_c hp hr) (Ev.bind (ref14_factorial_c (by omega)) (Ev.bind (ref14_by_c (by omega) (by omega)) (Ev.bind (ref11_Add_c (fmul_U _ _) (fpart_U _)) (ih (fadd_U (fmul_U _ _) (fpart_U _)) (j + 1) (by omega) (by omega)))))
theorem er_U {x : Int} (h : U x) : U (er x) := fsub_U (fsub_U h)
theorem ref14_Exp_c {x : Int} (h : U x) : Ev (fun k => gradineref14_Exp.f k x) (fexp x) := by
  refine Ev.bindc (ref09_Kind_c h) ?_
  unfold fexp
  by_cases h4 : fk x = 4
  · rw [if_pos h4]
    exact Ev.ifp h4 (Ev.bindc ref09_Nan_c (Ev.same rfl))
  rw [if_neg h4]
  refine Ev.ifn h4 (Ev.bind (ref10_FromInt_c (by omega) (by omega)) (Ev.bind (ref13_Less_c' (fint_U 710) h) ?_))
  by_cases h1 : less (fint 710) x = true
  · rw [if_pos h1]
    exact Ev.ifp h1 (Ev.bindc (ref09_Inf_c false) (Ev.same rfl))
  rw [if_neg h1]
  refine Ev.ifn h1 (Ev.bind (ref10_FromInt_c (by omega) (by omega)) (Ev.bind (ref13_Less_c' h (fint_U (-746))) ?_))
  by_cases h2 : less x (fint (-746)) = true
  · rw [if_pos h2]
    exact Ev.ifp h2 (Ev.same rfl)
  rw [if_neg h2]
  have nr := near_range (fmul_U x 4609176140021203710)
  have f1 := facI_range (n := 13) (by omega)
  exact Ev.ifn h2 (Ev.bind (ref12_Mul_c h U_lit.2.2.2.2.2) (Ev.bind (ref13_Near_c (fmul_U _ _)) (Ev.bind (ref10_FromInt_c nr.1 nr.2) (Ev.bind (ref12_Mul_c (fint_U _) U_lit.2.2.2.1) (Ev.bind (ref11_Sub_c h (fmul_U _ _)) (Ev.bind (ref12_Mul_c (fint_U _) U_lit.2.2.2.2.1) (Ev.bind (ref11_Sub_c (fsub_U h) (fmul_U _ _)) (Ev.bind (ref14_factorial_c (n := 13) (by omega)) (Ev.bind (ref14_by_c (by omega) (by omega)) (ref14_Exp_l (er_U h) (fpart_U _) 13 0 (by omega) (by omega)))))))))))
end Go.Proofs.Ytjocbnjpjihpnaa.M
end
section
namespace Go.Proofs.Ytjocbnjpjihpnaa.M
open Go.RowKit Go.Proofs.Ytjocbnjpjihpnaa.P Go.Proofs.YtjocbnjpjihpnaaW.PrintWords Go.Proofs.YtjocbnjpjihpnaaW.PrintLast Go.Proofs.YtjocbnjpjihpnaaW.PrintMore
set_option linter.unusedVariables false

/-- The faculties so far. -/
def facL (i : Nat) : List Int := (List.range 14).map fun j => if j ≤ i then facI j else 0
theorem facL_len (i : Nat) : (facL i).length = 14 := by simp [facL]
theorem facL_set : ∀ i : Fin 13, (facL i.1).set (i.1 + 1) (facI (i.1 + 1)) = facL (i.1 + 1) := by decide
theorem facL_get : ∀ i : Fin 14, ∀ j : Fin 14, j.1 ≤ i.1 → (facL i.1).getD j.1 0 = facI j.1 := by decide
theorem facL_rd {i j : Nat} (hi : i < 14) (hj : j ≤ i) : rd (facL i) (j : Int) = facI j := facL_get ⟨i, hi⟩ ⟨j, by omega⟩ hj
theorem kernel_Exp_l1 {r p e : Int} (hr : U r) (hp : U p) (i : Nat) (hi : i ≤ 13) : Ev (fun k => kernel_Exp.l1 k e r (facL 13) p ((i : Int) - 1)) (fscale (hexp r i p) e) := by
  induction i generalizing p with
  | zero => exact Ev.step (fun k => kernel_Exp.l1.eq_2 ..) (Ev.ifn (by omega) (Ev.bind (fcmp_Scale_c hp) (Ev.same rfl)))
  | succ i ih =>
    have e0 : ((i + 1 : Nat) : Int) - 1 = (i : Int) := by omega
    have e2 : wrap64 ((i : Int) - 1) = (i : Int) - 1 := w64_id (by omega) (by omega)
    have f1 := facI_range (n := i) (by omega)
    rw [e0]
    refine Ev.step (fun k => kernel_Exp.l1.eq_2 ..) (Ev.ifp (by omega) (Ev.bind (fprod_Mul_c hp hr) (Ev.ifp (by omega) (Ev.ifp (by omega) (Ev.ifp (by rw [facL_len]; omega) ?_)))))
    rw [facL_rd (by omega) (by omega), e2]
    exact Ev.bind (kernel_part_c (by omega) (by omega)) (Ev.bind (fsum_Add_c (fmul_U _ _) (fpart_U _)) (ih (fadd_U (fmul_U _ _) (fpart_U _)) (by omega)))
theorem kernel_Exp_l0 {r e : Int} (hr : U r) (d : Nat) : ∀ i : Nat, i + d = 13 → Ev (fun k => kernel_Exp.l0 k e r (facL i) i) (fscale (hexp r 13 (fpart (facI 13))) e) := by
  induction d with
  | zero =>
    intro i hi
    obtain rfl : i = 13 := by omega
    have f1 := facI_range (n := 13) (by omega)
    refine Ev.step (fun k => kernel_Exp.l0.eq_2 ..) (Ev.ifn (by omega) (Ev.ifp (by rw [facL_len]; omega) ?_))
    rw [show (13 : Int) = ((13 : Nat) : Int) from rfl, facL_rd (by omega) (by omega)]
    exact Ev.bind (kernel_part_c (by omega) (by omega)) (kernel_Exp_l1 hr (fpart_U _) 13 (by omega))
  | succ d ih =>
    intro i hi
    have f1 := facI_range (n := i) (by omega)
    have f2 := facI_range (n := i + 1) (by omega)
    have e1 : wrap64 ((i : Int) + 1) = ((i + 1 : Nat) : Int) := by rw [w64_id (by omega) (by omega)]; rfl
    have e2 : wrap64 (facI i * ((i + 1 : Nat) : Int)) = facI (i + 1) := by
      have : facI i * ((i + 1 : Nat) : Int) = facI (i + 1) := rfl
      rw [this, w64_id (by omega) (by omega)]
    refine Ev.step (fun k => kernel_Exp.l0.eq_2 ..) (Ev.ifp (by omega) ?_)
    rw [facL_rd (by omega) (by omega)]
    simp only [e1, e2]
    refine Ev.ifp (by omega) (Ev.ifp (by omega) (Ev.ifp (by rw [facL_len]; omega) (Ev.ifp (by omega) (Ev.ifp (by omega) (Ev.ifp (by rw [facL_len]; omega) ?_)))))
    rw [show (((i + 1 : Nat) : Int)).toNat = i + 1 by omega, facL_set ⟨i, by omega⟩]
    exact ih (i + 1) (by omega)
theorem fint_710 : fint 710 = 4649456441864749056 := by decide
theorem fint_746 : fint (-746) = 13873145138068324352 := by decide
theorem kernel_Exp_c {x : Int} (h : U x) : Ev (fun k => kernel_Exp.f k x) (fexp x) := by
  refine Ev.bindc (fbits_Kind_c h) ?_
  unfold fexp
  by_cases h4 : fk x = 4
  · rw [if_pos h4]
    exact Ev.ifp h4 (Ev.bindc fbits_Nan_c (Ev.same rfl))
  rw [if_neg h4]
  have u1 : U 4649456441864749056 := by unfold U; omega
  have u2 : U 13873145138068324352 := by unfold U; omega
  rw [fint_710, fint_746]
  refine Ev.ifn h4 (Ev.bindc (fcmp_Less_c u1 h) ?_)
  by_cases h1 : less 4649456441864749056 x = true
  · rw [if_pos h1]
    exact Ev.ifp h1 (Ev.bindc (fbits_Inf_c false) (Ev.same rfl))
  rw [if_neg h1]
  refine Ev.ifn h1 (Ev.bindc (fcmp_Less_c h u2) ?_)
  by_cases h2 : less x 13873145138068324352 = true
  · rw [if_pos h2]
    exact Ev.ifp h2 (Ev.same rfl)
  rw [if_neg h2]
  have nr := near_range (fmul_U x 4609176140021203710)
  refine Ev.ifn h2 (Ev.bind (fprod_Mul_c h U_lit.2.2.2.2.2) (Ev.bind (fcmp_Near_c (fmul_U _ _)) (Ev.bind (fround_FromInt_c nr.1 nr.2) (Ev.bind (fprod_Mul_c (fint_U _) U_lit.2.2.2.1) (Ev.bind (fsum_Sub_c h (fmul_U _ _)) (Ev.bind (fprod_Mul_c (fint_U _) U_lit.2.2.2.2.1) (Ev.bind (fsum_Sub_c (fsub_U h) (fmul_U _ _)) ?_)))))))
  exact kernel_Exp_l0 (er_U h) 13 0 (by omega)
end Go.Proofs.Ytjocbnjpjihpnaa.M
end
section
namespace Go.Proofs.Ytjocbnjpjihpnaa.M
open Go.RowKit Go.Proofs.Ytjocbnjpjihpnaa.P Go.Proofs.YtjocbnjpjihpnaaW.PrintWords Go.Proofs.YtjocbnjpjihpnaaW.PrintLast Go.Proofs.YtjocbnjpjihpnaaW.PrintMore
set_option linter.unusedVariables false

theorem law14_same_c : Ev (fun k => gradinelaw14_same.f k) true := by
  have u0 : U 0 := by unfold U; omega
  have u1 : U 9223372036854775808 := by unfold U; omega
  have u2 : U 4607182418800017408 := by unfold U; omega
  refine Ev.bind (kernel_Exp_c u0) (Ev.ifp (by decide +kernel) (Ev.bind (kernel_Exp_c u1) (Ev.ifp (by decide +kernel) (Ev.bind (kernel_Log_c u2) (Ev.ifp (by decide +kernel) (Ev.bind (kernel_Log_c u0) (Ev.same (by decide +kernel))))))))
end Go.Proofs.Ytjocbnjpjihpnaa.M
end
