/- What the functions answer, over plain numbers. -/
import Derived.Test.YtldcgclbgbhffaaBpower
import Derived.Test.YtldcgclbgbhffaaCCa
import Derived.Test.YtldcgclbgbhffaaBgradineplain
import Derived.Test.YtldcgclbgbhffaaFgradinelaw08same
import Derived.Test.YtldcgclbgbhffaaFgradinelaw08right
section
namespace Go.Proofs.Ytldcgclbgbhffaa.M
open Go.RowKit Go.Proofs.Ytldcgclbgbhffaa.P Go.Proofs.YtldcgclbgbhffaaW.PrintWords Go.Proofs.YtldcgclbgbhffaaW.PrintLast Go.Proofs.YtldcgclbgbhffaaW.PrintMore
set_option linter.unusedVariables false

/-- A fraction's text. -/
def shw (s : Bool) (N E : Int) : List Int := (if s = true then [45] else []) ++ sh N ++ (if E = 1 then [] else 47 :: sh E)
theorem sh_len {N : Int} (hN : 0 ≤ N) : ((sh N).length : Int) ≤ bl N + 1 := by
  have h := ds_len_le (m := (bl N).toNat) hN (Int.lt_of_lt_of_le (bl_lt N) (two_ten _))
  have := bl_nonneg N
  unfold sh
  split
  · simp; omega
  · rw [List.length_reverse]; omega
theorem show_tail {S : Type} {t : List Int} {E : Int} (bE : bl E ≤ 60000) (hE : 0 ≤ E) (ht : t.length ≤ 1000000) (sz : t.length + 1 + (sh E).length ≤ 2000000) :
    (strOfNums t).size + 1 ≤ 9223372036854775807 ∧ (strOfNums t ++ (⟨#[47]⟩ : ByteArray)).size + (strOfNums (sh E)).size ≤ 9223372036854775807 ∧ (strOfNums t ++ (⟨#[47]⟩ : ByteArray)) ++ strOfNums (sh E) = strOfNums (t ++ 47 :: sh E) := by
  have e : (⟨#[47]⟩ : ByteArray) = strOfNums [47] := rfl
  have e2 : (strOfNums t ++ strOfNums [47]) ++ strOfNums (sh E) = strOfNums (t ++ 47 :: sh E) := by
    rw [strOfNums_app, strOfNums_app, List.append_assoc]; rfl
  refine ⟨by rw [strOfNums_size]; omega, ?_, by rw [e]; exact e2⟩
  rw [e, strOfNums_app, strOfNums_size, strOfNums_size, List.length_append]
  show t.length + 1 + _ ≤ _
  omega
theorem power_Show_j {t : List Int} {N E : Int} (s : Bool) (bE : bl E ≤ 14000) (hE : 0 < E) (ht : t.length ≤ 100000) : Ev (fun k => power_Show.j0 k (strOfNums t) s (dg N) (dg E)) (strOfNums (t ++ (if E = 1 then [] else 47 :: sh E))) := by
  have lE := dg_len_bl E
  have W := nat_Word_c (l := dg E) (Wl_dg (by omega))
  have D := digit_Show_c (a := dg E) (Wl_dg (by omega)) (by omega)
  rw [nv_dg (by omega)] at W D
  have le := sh_len (N := E) (by omega)
  obtain ⟨a1, a2, a3⟩ := show_tail (S := Unit) (t := t) (E := E) (by omega) (by omega) (by omega) (by omega)
  refine Ev.eqv (fun k => power_Show.j0.eq_1 ..) (Ev.bind W ?_)
  by_cases h : E < 18446744073709551616
  · rw [if_pos h]
    refine Ev.ifp rfl ?_
    by_cases h1 : E = 1
    · rw [if_pos h1, List.append_nil]
      exact Ev.ifp h1 (Ev.same rfl)
    · rw [if_neg h1]
      exact Ev.ifn h1 (Ev.ifp a1 (Ev.bind D (Ev.ifp a2 (Ev.same (congrArg some a3)))))
  · rw [if_neg h, if_neg (by omega)]
    exact Ev.ifn Bool.false_ne_true (Ev.ifp a1 (Ev.bind D (Ev.ifp a2 (Ev.same (congrArg some a3)))))
theorem minus_app (t : List Int) : (⟨#[45]⟩ : ByteArray) ++ strOfNums t = strOfNums ([45] ++ t) := by
  have e : (⟨#[45]⟩ : ByteArray) = strOfNums [45] := rfl
  rw [e, strOfNums_app]
theorem power_Show_c {S D N E : Int} (h : Fit S D) (e1 : Rq S D = (decide (S < 0), dg N, dg E)) (e2 : 0 ≤ N) (e3 : 0 < E) (e4 : bl N ≤ 14000) (e5 : bl E ≤ 14000) (e7 : N = 0 ↔ S = 0) : Ev (fun k => power_Show.f k (Rq S D).1 (Rq S D).2.1 (Rq S D).2.2) (strOfNums (shw (decide (S < 0)) N E)) := by
  have lN := dg_len_bl N
  have Dn := digit_Show_c (a := dg N) (Wl_dg (by omega)) (by omega)
  rw [nv_dg e2] at Dn
  have G := rat_Sgn_c h
  have le := sh_len e2
  rw [e1] at G ⊢
  unfold shw
  refine Ev.bind Dn (Ev.bind G ?_)
  by_cases hs : S < 0
  · rw [decide_eq_true hs, if_pos rfl]
    have J := power_Show_j (t := [45] ++ sh N) (N := N) (E := E) true e5 e3 (by rw [List.length_append]; simp; omega)
    rw [← minus_app] at J
    exact Ev.ifp (by unfold sgnI; rw [if_neg (by omega), if_pos hs]; decide) (Ev.ifp (by rw [strOfNums_size]; omega) J)
  · rw [decide_eq_false hs, if_neg Bool.false_ne_true, List.nil_append]
    exact Ev.ifn (by unfold sgnI; split <;> (try split) <;> omega) (power_Show_j false e5 e3 (by omega))
/-! ### Read again -/
theorem tw_Dd : ∀ {l m : List Int}, Dd l → tw (l ++ m) = l.length + tw m
  | [], m, _ => by simp
  | x :: l, m, h => by
    rw [Dd_cons] at h
    show (if x = 47 then 0 else tw (l ++ m) + 1) = _
    rw [if_neg (by omega), tw_Dd h.2]
    simp only [List.length_cons]; omega
theorem RD_sh {N : Int} (hN : 0 ≤ N) (hl : (sh N).length ≤ 400) : RD (sh N) = (dg N, 0) := by
  unfold RD
  rw [if_neg (by omega), if_pos (sh_Tx hN), dv_sh hN]
theorem sh_ne (N : Int) : ∃ x l, sh N = x :: l ∧ 48 ≤ x := by
  have h := sh_Dd N
  cases e : sh N with
  | nil =>
    unfold sh at e
    split at e
    · cases e
    · rename_i hN
      rw [ds_pos (by omega)] at e
      simp at e
  | cons x l => rw [e, Dd_cons] at h; exact ⟨x, l, rfl, h.1.1⟩
theorem PR_shw (s : Bool) {N E : Int} (hN : 0 ≤ N) (hE : 0 < E) (lN : (sh N).length ≤ 400) (lE : (sh E).length ≤ 400) :
    PR (hasM (shw s N E)) (body (shw s N E)) = val (Rq (sgI s N) E) := by
  have hb : hasM (shw s N E) = s ∧ body (shw s N E) = sh N ++ (if E = 1 then [] else 47 :: sh E) := by
    have hs : hasM (shw s N E) = s := by
      unfold hasM shw
      cases s
      · rw [if_neg Bool.false_ne_true, List.nil_append]
        obtain ⟨x, l, e, hx⟩ := sh_ne N
        rw [e]
        have : (rd (x :: l ++ (if E = 1 then [] else 47 :: sh E)) 0 == (45 : Int)) = false := by
          show (x == (45 : Int)) = false
          exact beq_false_of_ne (by omega)
        rw [this, Bool.and_false]
      · rw [if_pos rfl]
        rfl
    refine ⟨hs, ?_⟩
    unfold body
    rw [hs]
    unfold shw
    cases s
    · rw [if_neg Bool.false_ne_true, if_neg Bool.false_ne_true, List.nil_append]
    · rw [if_pos rfl, if_pos rfl]
      rfl
  rw [hb.1, hb.2]
  have ht : tw (sh N ++ (if E = 1 then [] else 47 :: sh E)) = (sh N).length := by
    rw [tw_Dd (sh_Dd N)]
    split <;> rfl
  have hh : hd (sh N ++ (if E = 1 then [] else 47 :: sh E)) = sh N := by unfold hd; rw [ht, List.take_left]
  have htl : RD (tl (sh N ++ (if E = 1 then [] else 47 :: sh E))) = (dg E, 0) := by
    unfold tl
    rw [ht]
    by_cases h1 : E = 1
    · subst h1
      rw [if_pos rfl, List.append_nil, if_neg (by omega)]
      rfl
    · rw [if_neg h1, if_pos (by simp), List.drop_append, List.drop_of_length_le (by omega), List.nil_append, show (sh N).length + 1 - (sh N).length = 1 by omega]
      exact RD_sh (by omega) lE
  unfold PR
  rw [hh, htl, RD_sh hN lN, if_pos rfl, if_pos rfl, nv_dg hN, nv_dg (by omega), if_neg (by omega)]
end Go.Proofs.Ytldcgclbgbhffaa.M
end
section
namespace Go.Proofs.Ytldcgclbgbhffaa.M
open Go.RowKit Go.Proofs.Ytldcgclbgbhffaa.P Go.Proofs.YtldcgclbgbhffaaW.PrintWords Go.Proofs.YtldcgclbgbhffaaW.PrintLast Go.Proofs.YtldcgclbgbhffaaW.PrintMore
set_option linter.unusedVariables false

theorem law08_same_c : Ev (fun k => gradinelaw08_same.f k) true := by
  have R := power_Read_c (s := ⟨#[45, 50, 47, 51]⟩) (by decide)
  have e : byt ⟨#[45, 50, 47, 51]⟩ = shw true 2 3 := by decide
  rw [e, PR_shw true (by omega) (by omega) (by decide) (by decide)] at R
  have q1 : Rq (sgI true 2) 3 = Rq (-2) 3 := rfl
  have q2 : Rq (-2) 3 = (decide ((-2 : Int) < 0), dg 2, dg 3) := by decide
  have q3 : Rq (-27) 8 = (decide ((-27 : Int) < 0), dg 27, dg 8) := by decide
  rw [q1] at R
  have P := power_Pow_c (m := 10) (S := -2) (D := 3) ⟨by omega, by decide, by decide⟩ (by omega) (-3) ⟨by omega, by omega⟩
  have e2 : PW (-2) 3 (-3) = val (Rq (-27) 8) := by decide
  rw [e2] at P
  have S1 := power_Show_c (S := -2) (D := 3) ⟨by omega, by decide, by decide⟩ q2 (by omega) (by omega) (by decide) (by decide) (by omega)
  have S2 := power_Show_c (S := -27) (D := 8) ⟨by omega, by decide, by decide⟩ q3 (by omega) (by omega) (by decide) (by decide) (by omega)
  have B := power_Bits_c (N := 27) (E := 8) (Rq (-27) 8).1 (by omega) (by omega) (by decide) (by decide)
  have B' : Ev (fun k => power_Bits.f k (Rq (-27) 8).1 (Rq (-27) 8).2.1 (Rq (-27) 8).2.2) (mx (bl 27) (bl 8)) := by rw [q3] at B ⊢; exact B
  refine Ev.bind R (Ev.bind P (Ev.ifp rfl (Ev.ifp rfl (Ev.bind S1 (Ev.ifp ?_ (Ev.bind S2 (Ev.ifp ?_ (Ev.bind B' (Ev.same (by decide))))))))))
  · rw [ByteArray.toList_eq, strOfNums_data]; decide
  · rw [ByteArray.toList_eq, strOfNums_data]; decide
theorem law08_right_c {a b : List Int} (neg : Bool) (ha : Ws a) (hb : Ws b) {n : Int} (hn : n ≤ 8) : ∃ r, Ev (fun k => gradinelaw08_right.f k neg a b n) r ∧ (r = true → ∃ S D, (neg, a, b) = Rq S D ∧ Fb (64 * n) S D) := by
  by_cases la : (a.length : Int) > n
  · exact ⟨false, Ev.bindc (a := true) (by unfold gradineplain_Long.f; rw [if_pos la]) (Ev.ifp rfl (Ev.same rfl)), by simp⟩
  · by_cases lb : (b.length : Int) > n
    · exact ⟨false, Ev.bindc (a := true) (by unfold gradineplain_Long.f; rw [if_neg la, decide_eq_true lb]) (Ev.ifp rfl (Ev.same rfl)), by simp⟩
    · obtain ⟨r, h1, h2⟩ := ref07_Right_c (a := a) (b := b) neg ⟨ha, by omega⟩ ⟨hb, by omega⟩ (by omega) (by omega)
      refine ⟨r, Ev.bindc (a := false) (by unfold gradineplain_Long.f; rw [if_neg la, decide_eq_false lb]) (Ev.ifn (by decide) (Ev.bind h1 (Ev.same rfl))), fun h => ?_⟩
      have hR := h2.1 h
      have ba := bl_nv ha
      have bb := bl_nv hb
      have na := nv_nonneg ha
      refine ⟨sgI neg (nv a), nv b, (RR_Rq ha hb hR).symm, RR_pos hb hR, ?_, by omega⟩
      have : ab (sgI neg (nv a)) = nv a := by unfold ab sgI; cases neg <;> simp <;> omega
      rw [this]
      omega
theorem ab_pow (x : Int) : ∀ m : Nat, ab (x ^ m) = ab x ^ m
  | 0 => by rw [Int.pow_zero, Int.pow_zero]; rfl
  | m + 1 => by rw [Int.pow_succ, Int.pow_succ, ab_prod, ab_pow x m]
theorem Fb_pow {n S D : Int} (h : Fb n S D) {m : Nat} (hm : m ≤ 64) (hn : 0 ≤ n) : Fb (64 * n + 1) (S ^ m) (D ^ m) := by
  have key : ∀ x : Int, 0 ≤ x → bl x ≤ n → bl (x ^ m) ≤ 64 * n + 1 := fun x h0 h1 => by
    have := bl_pow h0 m
    have h2 : (m : Int) * bl x ≤ 64 * n := Int.mul_le_mul (by omega) h1 (bl_nonneg x) (by omega)
    omega
  exact ⟨Int.pow_pos h.1, by rw [ab_pow]; exact key _ (ab_nonneg S) h.2.1, key _ (Int.le_of_lt h.1) h.2.2⟩
end Go.Proofs.Ytldcgclbgbhffaa.M
end
