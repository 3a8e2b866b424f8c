/- What dividing answers. -/
import Derived.Test.YtldcgclbgbhffaaBquot
import Derived.Test.YtldcgclbgbhffaaC04b
import Derived.Test.YtldcgclbgbhffaaC02b
namespace Go.Proofs.Ytldcgclbgbhffaa.M
open Go.RowKit Go.Proofs.Ytldcgclbgbhffaa.P Go.Proofs.YtldcgclbgbhffaaW.PrintWords Go.Proofs.YtldcgclbgbhffaaW.PrintLast Go.Proofs.YtldcgclbgbhffaaW.PrintMore
set_option linter.unusedVariables false

theorem nv_pad (l : List Int) (n : Nat) : nv (l ++ List.replicate n 0) = nv l := by rw [nv_app, nv_zeros]; omega
theorem quot_long_l0 {a d : List Int} (hla : a.length ≤ 900000000) (hd : Wl d) (hn : 2 ≤ d.length) (hda : d.length ≤ a.length) (hv : 9223372036854775808 ≤ rd d ((d.length - 1 : Nat) : Int)) {s : Nat} (hs : s ≤ 63) (e : Nat) : ∀ r : List Int, Ws r → r.length + e = a.length + 1 → nv r < nv d * Wp (a.length + 1 - d.length) →
    Ev (fun k => quot_long.l0 k a (s : Int) d r) (dg (nv r / nv d), dg (nv r % nv d / 2 ^ s)) := by
  induction e with
  | zero =>
    intro r hr hl hlt
    have HL := Hd.mk hlt
    have HV := Hd.mk hv
    clear hlt hv
    have e1 : wrap64 ((a.length : Int) + 1) = ((a.length + 1 : Nat) : Int) := by rw [w64_id (by omega) (by omega)]; omega
    have e2 : wrap64 ((r.length : Int) - (d.length : Int)) = ((a.length + 1 - d.length : Nat) : Int) := by rw [w64_id (by omega) (by omega)]; omega
    have e3 : wrap64 (((List.replicate (a.length + 1 - d.length) (0 : Int)).length : Int) - 1) = ((a.length + 1 - d.length : Nat) : Int) - 1 := by rw [List.length_replicate, w64_id (by omega) (by omega)]
    have h := quot_long_l1 hd hn HV.out hs (A := nv r) (a.length + 1 - d.length) r [] hr (by omega) (by omega) Ws_nil (by simp; omega) HL.out (by simp [nv]) _ rfl
    rw [List.append_nil] at h
    refine Ev.step (fun k => quot_long.l0.eq_2 ..) ?_
    rw [e1, e2, Int.toNat_natCast]
    refine Ev.ifn (by omega) (Ev.ifp (by omega) (Ev.ifp (by omega) (Ev.bindc rfl ?_)))
    rw [e3]
    exact h
  | succ e ih =>
    intro r hr hl hlt
    have e1 : wrap64 ((a.length : Int) + 1) = ((a.length + 1 : Nat) : Int) := by rw [w64_id (by omega) (by omega)]; omega
    have hp : nv (r ++ [0]) = nv r := nv_pad r 1
    have h := ih (r ++ [0]) (Ws_app.2 ⟨hr, Ws_one ⟨by omega, by omega⟩⟩) (by rw [List.length_append]; show r.length + 1 + e = _; omega) (by rw [hp]; exact hlt)
    rw [hp] at h
    clear hlt hp ih
    refine Ev.step (fun k => quot_long.l0.eq_2 ..) ?_
    rw [e1]
    exact Ev.ifp (by omega) (Ev.ifp (by omega) h)
theorem quot_long_c {A B : Int} (hB : 0 < B) (hAB : B ≤ A) (hn : 2 ≤ (dg B).length) (hA : bl A ≤ 50000000000) : Ev (fun k => quot_long.f k (dg A) (dg B)) (dg (A / B), dg (A % B)) := by
  have hBA := bl_mono hAB
  have wA := Wl_dg (n := A) (by omega)
  have wB := Wl_dg (n := B) (by omega)
  have kA := dg_len_bl A
  have kB := dg_len_bl B
  have vA := nv_dg (n := A) (by omega)
  have vB := nv_dg (n := B) (by omega)
  have bp := bl_pos hB
  have b1 := bl_lt B
  have b2 := bl_le hB
  have b3 := lt_Wp_dg (n := B) (by omega)
  have b4 := dg_len_lt hB
  have a1 := lt_Wp_dg (n := A) (by omega)
  obtain ⟨n, hN⟩ : ∃ n, n = (dg B).length := ⟨_, rfl⟩
  obtain ⟨la, hla⟩ : ∃ la, la = (dg A).length := ⟨_, rfl⟩
  rw [← hN] at b3 b4 hn
  rw [← hla] at a1
  have hble : bl B ≤ 64 * n := by rw [Wp_two] at b3; have := bl_le_of b3; omega
  have hblg : 64 * (n : Int) ≤ bl B + 63 := by omega
  have hnl : n ≤ la := by
    rcases Nat.lt_or_ge la n with h | h
    · exfalso
      have := Wp_le (show la ≤ n - 1 by omega)
      omega
    · exact h
  obtain ⟨s, hs⟩ : ∃ s : Nat, (s : Int) = 64 * n - bl B := ⟨(64 * (n : Int) - bl B).toNat, by omega⟩
  have hs63 : s ≤ 63 := by omega
  have ps := pow_pos s
  have es : wrap64 (wrap64 (64 * ((dg B).length : Int)) - bl B) = (s : Int) := by
    rw [← hN, w64_id (n := 64 * (n : Int)) (by omega) (by omega), w64_id (by omega) (by omega)]; omega
  have ES := Hd.mk es
  clear es
  have hD1 : B * 2 ^ s < Wp n := by
    have h := Int.mul_lt_mul_of_pos_right b1 ps
    rw [← Int.pow_add, show (bl B).toNat + s = 64 * n by omega, ← Wp_two] at h
    exact h
  have hD2 : 9223372036854775808 * Wp (n - 1) ≤ B * 2 ^ s := by
    have h := Int.mul_le_mul_of_nonneg_right b2 (Int.le_of_lt ps)
    rw [← Int.pow_add, show (bl B - 1).toNat + s = 63 + 64 * (n - 1) by omega, Int.pow_add, ← Wp_two] at h
    exact h
  have pn := Wp_pos (n - 1)
  have hlenD : (dg (B * 2 ^ s)).length = n := by
    have h1 := dg_len_le hD1
    have h2 := le_dg_len (n := B * 2 ^ s) (m := n - 1) (by omega)
    omega
  have hDp : 0 < B * 2 ^ s := Int.mul_pos hB ps
  have vD := nv_dg (Int.le_of_lt hDp)
  have hAp : 0 ≤ A * 2 ^ s := Int.mul_nonneg (by omega) (Int.le_of_lt ps)
  have vAs := nv_dg hAp
  have hA1 : A * 2 ^ s < Wp la * 2 ^ s := Int.mul_lt_mul_of_pos_right a1 ps
  have h2s : (2 : Int) ^ s ≤ 2 ^ 63 := pow_le_pow hs63
  have hA2 : Wp la * 2 ^ s ≤ Wp la * 2 ^ 63 := Int.mul_le_mul_of_nonneg_left h2s (Int.le_of_lt (Wp_pos la))
  have hlenA : (dg (A * 2 ^ s)).length ≤ la + 1 := by
    refine dg_len_le ?_
    rw [Wp_succ]
    have := Wp_pos la
    omega
  have hWla : Wp la = Wp (n - 1) * Wp (la + 1 - n) := by rw [← Wp_add]; congr 1; omega
  have hlt : nv (dg (A * 2 ^ s)) < nv (dg (B * 2 ^ s)) * Wp (la + 1 - n) := by
    rw [vD, vAs]
    have h := Int.mul_le_mul_of_nonneg_right hD2 (Int.le_of_lt (Wp_pos (la + 1 - n)))
    rw [Int.mul_assoc, ← hWla] at h
    omega
  have htop : 9223372036854775808 ≤ rd (dg (B * 2 ^ s)) (((dg (B * 2 ^ s)).length - 1 : Nat) : Int) := by
    have h1 := nv_take_succ (l := dg (B * 2 ^ s)) (i := n - 1) (by omega)
    rw [List.take_of_length_le (by omega), vD] at h1
    have h2 := nv_lt (Ws_take (dg_Ws (B * 2 ^ s)) (n - 1))
    rw [List.length_take, hlenD, Nat.min_eq_left (by omega)] at h2
    rw [hlenD]
    have h3 : 9223372036854775808 * Wp (n - 1) < (rd (dg (B * 2 ^ s)) ((n - 1 : Nat) : Int) + 1) * Wp (n - 1) := by
      rw [Int.add_mul, Int.one_mul, Int.mul_comm (rd _ _)]; omega
    have := Int.lt_of_mul_lt_mul_right h3 (Int.le_of_lt pn)
    omega
  have hB' := nat_Bits_c wB
  rw [vB] at hB'
  have hS1 := nat_Shl_c wB (by omega) (s : Int)
  have hS2 := nat_Shl_c wA (by omega) (s : Int)
  rw [shn_of (by omega) (by omega), Int.toNat_natCast, vB] at hS1
  rw [shn_of (by omega) (by omega), Int.toNat_natCast, vA] at hS2
  have main := quot_long_l0 (a := dg A) (d := dg (B * 2 ^ s)) (by omega) ⟨dg_Ws _, by omega⟩ (by omega) (by omega) htop hs63 (la + 1 - (dg (A * 2 ^ s)).length) (dg (A * 2 ^ s)) (dg_Ws _) (by omega) (by rw [hlenD, ← hla]; exact hlt)
  rw [vD, vAs, Int.mul_ediv_mul_of_pos_left _ _ ps, Int.mul_comm A, Int.mul_comm B, Int.mul_emod_mul_of_pos _ _ ps, Int.mul_ediv_cancel_left _ (by omega), Int.mul_comm _ A, Int.mul_comm _ B] at main
  unfold quot_long.f
  refine Ev.bind hB' ?_
  rw [ES.out]
  exact Ev.bind hS1 (Ev.bind hS2 main)
theorem quot_Div_c {a b : List Int} (ha : Wl a) (hb : Wl b) (hla : a.length ≤ 700000000) :
    Ev (fun k => quot_Div.f k a b) (if nv b = 0 then ([], [], false) else (dg (nv a / nv b), dg (nv a % nv b), true)) := by
  have na := nv_nonneg ha.1
  have nb := nv_nonneg hb.1
  have ba := bl_nv ha.1
  refine Ev.bind (nat_Trim_c ha) (Ev.bind (nat_Trim_c hb) ?_)
  by_cases h0 : nv b = 0
  · rw [if_pos h0, h0]
    exact Ev.ifp rfl (Ev.same rfl)
  · rw [if_neg h0]
    have hl : ((dg (nv b)).length : Int) ≠ 0 := fun h => h0 ((dg_len_zero nb).1 (by omega))
    have wa := Wl_dg (n := nv a) (by omega)
    have wb : Wl (dg (nv b)) := ⟨dg_Ws _, by have := dg_len_nv hb.1; have := hb.2; omega⟩
    have C := nat_Cmp_c wa wb
    rw [nv_dg na, nv_dg nb] at C
    refine Ev.ifn hl (Ev.bind C ?_)
    by_cases h1 : nv a < nv b
    · rw [cmpI_lt h1, Int.ediv_eq_zero_of_lt na h1, Int.emod_eq_of_lt na h1]
      exact Ev.ifp (by omega) (Ev.same rfl)
    · have hc : ¬ cmpI (nv a) (nv b) < 0 := by unfold cmpI; rw [if_neg h1]; split <;> omega
      refine Ev.ifn hc ?_
      by_cases h2 : ((dg (nv b)).length : Int) = 1
      · have hb1 : nv b < 18446744073709551616 := by
          have := lt_Wp_dg nb
          rw [show (dg (nv b)).length = 1 by omega, Wp_succ, Wp_zero] at this
          omega
        have e : dg (nv b) = [nv b] := by
          rw [dg_pos (by omega), show nv b / 18446744073709551616 = 0 by omega, dg_zero, show nv b % 18446744073709551616 = nv b by omega]
        have hq := quot_Word_c wa (d := nv b) (by omega) hb1
        rw [nv_dg na] at hq
        have hm0 := Int.emod_nonneg (nv a) h0
        have hm1 := Int.emod_lt_of_pos (nv a) (show 0 < nv b by omega)
        have er : rd (dg (nv b)) 0 = nv b := by rw [e]; rfl
        refine Ev.ifp h2 (Ev.ifp (by omega) ?_)
        rw [er]
        exact Ev.bind hq (Ev.bind (nat_Of_c (x := nv a % nv b) ⟨hm0, by omega⟩) (Ev.same rfl))
      · exact Ev.ifn h2 (Ev.bind (quot_long_c (by omega) (by omega) (by omega) (by omega)) (Ev.same rfl))
end Go.Proofs.Ytldcgclbgbhffaa.M
