/- What a number's root answers. -/
import Derived.Test.YtldcgclbgbhffaaC04c
import Derived.Test.YtldcgclbgbhffaaM4
import Derived.Test.YtldcgclbgbhffaaBquot
namespace Go.Proofs.Ytldcgclbgbhffaa.M
open Go.RowKit Go.Proofs.Ytldcgclbgbhffaa.P Go.Proofs.YtldcgclbgbhffaaW.PrintWords Go.Proofs.YtldcgclbgbhffaaW.PrintLast Go.Proofs.YtldcgclbgbhffaaW.PrintMore
set_option linter.unusedVariables false

theorem quot_Root_l {A r : Int} (hr : IsRoot A r) (hA : 0 < A) (hb : bl A ≤ 1000000) (n : Nat) : ∀ X : Int, X.toNat ≤ n → 0 < X → r ≤ X → bl X ≤ 1000001 → Ev (fun k => quot_Root.l0 k (dg A) (dg X)) (dg r) := by
  induction n with
  | zero => intro X h1 h2; omega
  | succ n ih =>
    intro X hn hX hle hbX
    obtain ⟨n1, n2⟩ := newton hr hX hle
    have wA := Wl_dg (n := A) (by omega)
    have wX := Wl_dg (n := X) (by omega)
    have kA := dg_len_bl A
    have kX := dg_len_bl X
    have D := quot_Div_c wA wX (by omega)
    rw [nv_dg (Int.le_of_lt hA), nv_dg (Int.le_of_lt hX), if_neg (by omega)] at D
    have q0 : 0 ≤ A / X := Int.ediv_nonneg (by omega) (by omega)
    have q1 : A / X ≤ A := Int.ediv_le_self _ (by omega)
    have bq := bl_mono q1
    have kq := dg_len_bl (A / X)
    have S := nat_Add_c wX (Wl_dg (n := A / X) (by omega)) (by omega) (by omega)
    rw [nv_dg (Int.le_of_lt hX), nv_dg q0] at S
    have bs := bl_add (Int.le_of_lt hX) q0 (m := 1000001) (by omega) (by omega)
    have H := nat_Shr_c (Wl_dg (n := X + A / X) (by omega)) (n := 1) (by omega)
    rw [nv_dg (by omega), show (2 : Int) ^ (1 : Int).toNat = 2 by decide] at H
    generalize hY : (X + A / X) / 2 = Y at *
    have by1 := bl_mono (show Y ≤ X + A / X by omega)
    have C := nat_Cmp_c (Wl_dg (n := Y) (by omega)) wX
    have hr0 := hr.1
    rw [nv_dg (by omega), nv_dg (Int.le_of_lt hX)] at C
    refine Ev.step (fun k => quot_Root.l0.eq_2 ..) ?_
    refine Ev.bind D (Ev.bind S (Ev.bind H (Ev.bind C ?_)))
    by_cases h : X ≤ Y
    · refine Ev.ifp ?_ (Ev.same (by rw [n2 h]))
      unfold cmpI; rw [if_neg (by omega)]; split <;> omega
    · refine Ev.ifn (by rw [cmpI_lt (by omega)]; omega) ?_
      have bY := bl_mono (show Y ≤ X by omega)
      refine ih Y (by omega) ?_ n1 (by omega)
      have h1 := hr.2.2
      rcases (show r = 0 ∨ 0 < r by omega) with h3 | h3
      · subst h3; omega
      · omega
theorem quot_Root_c {a : List Int} (ha : Wl a) (hla : a.length ≤ 1000) {r : Int} (hr : IsRoot (nv a) r) : Ev (fun k => quot_Root.f k a) (dg r) := by
  have na := nv_nonneg ha.1
  have ba := bl_nv ha.1
  have wa := Wl_dg (n := nv a) (by omega)
  obtain ⟨r0, r1, r2⟩ := hr
  refine Ev.bind (nat_Trim_c ha) ?_
  by_cases h0 : nv a = 0
  · have hz : r = 0 := by
      rcases (show r = 0 ∨ 1 ≤ r by omega) with h | h
      · exact h
      · have := Int.mul_le_mul h h (by omega) (by omega); omega
    rw [h0, hz]
    exact Ev.ifp rfl (Ev.same rfl)
  · have hl : ((dg (nv a)).length : Int) ≠ 0 := fun h => h0 ((dg_len_zero na).1 (by omega))
    have bp := bl_pos (x := nv a) (by omega)
    have B := nat_Bits_c wa
    rw [nv_dg na] at B
    obtain ⟨m, hm⟩ : ∃ m : Nat, (m : Int) = (bl (nv a) + 1) / 2 := ⟨((bl (nv a) + 1) / 2).toNat, by omega⟩
    have e : wrap64 (Int.tdiv (wrap64 (bl (nv a) + 1)) 2) = (m : Int) := by
      rw [w64_id (n := bl (nv a) + 1) (by omega) (by omega), Int.tdiv_eq_ediv_of_nonneg (by omega), w64_id (by omega) (by omega), hm]
    have E := Hd.mk e
    clear e
    have e1 : dg 1 = [1] := by rw [dg_pos (by omega)]; rfl
    have O := nat_Of_c (x := 1) (by unfold U; omega)
    have S := nat_Shl_c (a := dg 1) (by rw [e1]; exact ⟨Ws_one (by unfold U; omega), by simp⟩) (by rw [e1]; simp) (m : Int)
    rw [shn_of (by omega) (by omega), Int.toNat_natCast, nv_dg (by omega), Int.one_mul] at S
    have pm := pow_pos m
    have bX := bl_le_of (x := 2 ^ m) (n := m + 1) (by rw [Int.pow_succ]; omega)
    have hlt := bl_lt (nv a)
    have h2 : (2 : Int) ^ (bl (nv a)).toNat ≤ 2 ^ m * 2 ^ m := by rw [← Int.pow_add]; exact pow_le_pow (by omega)
    have hle : r ≤ 2 ^ m := by
      rcases (show r ≤ 2 ^ m ∨ 2 ^ m + 1 ≤ r by omega) with h | h
      · exact h
      · exfalso
        have := Int.mul_le_mul (show (2 : Int) ^ m ≤ r by omega) (show (2 : Int) ^ m ≤ r by omega) (Int.le_of_lt pm) r0
        omega
    have L := quot_Root_l ⟨r0, r1, r2⟩ (by omega) (by omega) ((2 : Int) ^ m).toNat (2 ^ m) (Nat.le_refl _) pm hle (by omega)
    refine Ev.ifn hl (Ev.bind O (Ev.bind B ?_))
    rw [E.out]
    exact Ev.bind S L
theorem quot_Square_c {a : List Int} (ha : Wl a) (hla : a.length ≤ 1000) {r : Int} (hr : IsRoot (nv a) r) : Ev (fun k => quot_Square.f k a) (decide (r * r = nv a)) := by
  have na := nv_nonneg ha.1
  have ba := bl_nv ha.1
  have R := quot_Root_c ha hla hr
  have hrA : r ≤ nv a := by
    have h := hr.2.1
    rcases (show r = 0 ∨ 1 ≤ r by have := hr.1; omega) with h1 | h1
    · omega
    · have := Int.mul_le_mul_of_nonneg_left h1 (show 0 ≤ r by omega)
      omega
  have br := bl_mono hrA
  have M := prod_Mul_dg hr.1 hr.1 (by omega) (by omega)
  have p0 := Int.mul_nonneg hr.1 hr.1
  have bm := bl_mono hr.2.1
  have C := nat_Cmp_c (Wl_dg (n := r * r) (by omega)) ha
  rw [nv_dg p0] at C
  refine Ev.bind R (Ev.bind M (Ev.bind C (Ev.same ?_)))
  have h := hr.2.1
  congr 1
  by_cases h1 : r * r = nv a
  · rw [decide_eq_true h1, h1, cmpI_eq]; rfl
  · rw [decide_eq_false h1, cmpI_lt (by omega)]; rfl
end Go.Proofs.Ytldcgclbgbhffaa.M
