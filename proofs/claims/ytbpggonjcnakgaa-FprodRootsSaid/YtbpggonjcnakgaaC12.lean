/- What the functions of fprod answer. -/
import Derived.Test.YtbpggonjcnakgaaBfbits
import Derived.Test.YtbpggonjcnakgaaBfprod
import Derived.Test.YtbpggonjcnakgaaBfround
import Derived.Test.YtbpggonjcnakgaaBlimb
import Derived.Test.YtbpggonjcnakgaaC10
import Derived.Test.YtbpggonjcnakgaaC11b
import Derived.Test.YtbpggonjcnakgaaC13b
import Derived.Test.YtbpggonjcnakgaaM13
namespace Go.Proofs.Ytbpggonjcnakgaa.M
open Go.RowKit Go.Proofs.Ytbpggonjcnakgaa.P Go.Proofs.YtbpggonjcnakgaaW.PrintWords Go.Proofs.YtbpggonjcnakgaaW.PrintLast Go.Proofs.YtbpggonjcnakgaaW.PrintMore
set_option linter.unusedVariables false

theorem parts_fin {b : Int} (h : U b) (hx : fx b ≠ 2047) : Ev (fun k => fbits_Parts.f k b) (fs b, pm b, pe b, true) := by
  have := fbits_Parts_c h
  rwa [if_neg hx] at this
theorem mul_word {m n E : Int} (neg : Bool) (hm0 : 0 ≤ m) (hm : m < 9007199254740992) (hn0 : 0 ≤ n) (hn : n < 9007199254740992) (hE0 : -3000 ≤ E) (hE1 : E ≤ 3000) :
    Ev (fun k => (limb_Mul.f m n).bind fun bt898 => ((limb_Len.f k bt898.1).bind fun t900 => (if t900 = 0 then ((fround_Word.f k neg bt898.2 E).bind fun t901 => (some t901)) else (if 0 ≤ (wrap64 (64 - t900)) then (if 0 ≤ t900 then (if (shl .u64 bt898.2 (wrap64 (64 - t900))) = 0 then ((fround_Word.f k neg (Go.bits .or .u64 (shl .u64 bt898.1 (wrap64 (64 - t900))) (shr .u64 bt898.2 t900)) (wrap64 (E + t900))).bind fun t902 => (some t902)) else ((fround_Word.f k neg (Go.bits .or .u64 (Go.bits .or .u64 (shl .u64 bt898.1 (wrap64 (64 - t900))) (shr .u64 bt898.2 t900)) 1) (wrap64 (E + t900))).bind fun t903 => (some t903))) else (none)) else (none))))) (sgn neg (Rd (m * n) E)) := by
  have hP0 : 0 ≤ m * n := Int.mul_nonneg hm0 hn0
  have hP1 : m * n ≤ 9007199254740991 * 9007199254740991 := Int.mul_le_mul (by omega) (by omega) hn0 (by omega)
  refine Ev.bindc (limb_Mul_c (a := m) (b := n) (by unfold U; omega) (by unfold U; omega)) ?_
  dsimp only
  generalize m * n = P at *
  have hhi : U (P / 18446744073709551616) := by unfold U; omega
  refine Ev.bind (limb_Len_c hhi) ?_
  have b1 := bl_nonneg (P / 18446744073709551616)
  have b2 : bl (P / 18446744073709551616) ≤ 42 := bl_le_of (n := 42) (by omega)
  by_cases hz : bl (P / 18446744073709551616) = 0
  · have h0 : P / 18446744073709551616 = 0 := by
      rcases (show P / 18446744073709551616 = 0 ∨ 0 < P / 18446744073709551616 by omega) with h | h
      · exact h
      · have := bl_pos h
        omega
    refine Ev.ifp hz (Ev.bind (fround_Word_c (e := E) neg (m := P % 18446744073709551616) (by unfold U; omega)) (Ev.same ?_))
    rw [ce_id (by omega) (by omega), show P % 18446744073709551616 = P by omega]
  · refine Ev.ifn hz ?_
    have hbP : bl P = bl (P / 18446744073709551616) + 64 := by
      have hge : 18446744073709551616 ≤ P := by
        rcases Int.lt_or_le P 18446744073709551616 with h | h
        · rw [Int.ediv_eq_zero_of_lt hP0 h] at hz
          exact absurd bl_zero hz
        · exact h
      exact bl_shr (x := P) (s := 64) hge
    have hlt := bl_lt (P / 18446744073709551616)
    obtain ⟨s, hs⟩ : ∃ s : Nat, bl (P / 18446744073709551616) = s := ⟨(bl (P / 18446744073709551616)).toNat, by omega⟩
    rw [hs] at hlt hz b2 hbP ⊢
    rw [Int.toNat_natCast] at hlt
    rw [w64_id (n := 64 - (s : Int)) (by omega) (by omega)]
    refine Ev.ifp (by omega) (Ev.ifp (by omega) ?_)
    rw [shl_u _ _ (by omega), shl_u _ _ (by omega), shr_u _ _ (by omega), show (64 - (s : Int)).toNat = 64 - s by omega, Int.toNat_natCast, mod_up _ (show s ≤ 64 by omega)]
    have hp := pow_pos s
    have hp2 := pow_pos (64 - s)
    have hpp : (2 : Int) ^ (64 - s) * 2 ^ s = 18446744073709551616 := by rw [← Int.pow_add, show 64 - s + s = 64 by omega]; rfl
    have hhi0 : 0 ≤ P / 18446744073709551616 * 2 ^ (64 - s) := Int.mul_nonneg (by omega) (by omega)
    have hhi1 : P / 18446744073709551616 * 2 ^ (64 - s) + 2 ^ (64 - s) ≤ 18446744073709551616 := by
      have := Int.mul_le_mul_of_nonneg_right (show P / 18446744073709551616 + 1 ≤ 2 ^ s by omega) (Int.le_of_lt hp2)
      rw [Int.add_mul, Int.one_mul, Int.mul_comm (2 ^ s), hpp] at this
      exact this
    have hlo0 : 0 ≤ P % 18446744073709551616 / 2 ^ s := Int.ediv_nonneg (by omega) (by omega)
    have hlo1 : P % 18446744073709551616 / 2 ^ s < 2 ^ (64 - s) := by rw [Int.ediv_lt_iff_lt_mul hp, hpp]; omega
    have eP : P = P / 18446744073709551616 * 2 ^ (64 - s) * 2 ^ s + P % 18446744073709551616 := by rw [Int.mul_assoc, hpp]; omega
    have eq1 : P / 18446744073709551616 * 2 ^ (64 - s) + P % 18446744073709551616 / 2 ^ s = P / 2 ^ s := by
      conv => rhs; rw [eP]
      rw [Int.add_comm (P / 18446744073709551616 * 2 ^ (64 - s) * 2 ^ s), Int.add_mul_ediv_right _ _ (by omega), Int.add_comm]
    have eq2 : P % 18446744073709551616 % 2 ^ s = P % 2 ^ s := by
      conv => rhs; rw [eP]
      rw [Int.add_comm, Int.add_mul_emod_self_right]
    have hor : Go.bits .or .u64 (P / 18446744073709551616 * 2 ^ (64 - s) % 18446744073709551616) (P % 18446744073709551616 / 2 ^ s) = P / 2 ^ s := by
      rw [Int.emod_eq_of_lt hhi0 (by omega), or_join (64 - s) _ _ hhi0 (Int.mul_emod_left ..) (by omega) hlo0 hlo1 (by omega)]
      exact eq1
    rw [hor, eq2, w64_id (by omega) (by omega)]
    have hU : U (P / 2 ^ s) := by unfold U; omega
    have hPpos : 0 < P := by
      rcases (show P = 0 ∨ 0 < P by omega) with h | h
      · rw [h, bl_zero] at hbP; omega
      · exact h
    have hst := Rd_st (M := P) (e := E) (s := s) hPpos (by unfold un; omega)
    have r0 := Int.emod_nonneg P (show (2 : Int) ^ s ≠ 0 by omega)
    by_cases h1 : P % 2 ^ s = 0
    · refine Ev.ifp (by rw [h1, Int.mul_zero]) ?_
      unfold st at hst
      rw [if_pos h1] at hst
      refine Ev.bind (fround_Word_c (e := E + s) neg hU) (Ev.same ?_)
      rw [ce_id (by omega) (by omega), hst]
    · refine Ev.ifn ?_ ?_
      · have := Int.mul_pos hp2 (show 0 < P % 2 ^ s by omega)
        omega
      · unfold st at hst
        rw [if_neg h1] at hst
        rw [or_one hU]
        refine Ev.bind (fround_Word_c (e := E + s) neg (m := P / 2 ^ s / 2 * 2 + 1) (by unfold U at *; omega)) (Ev.same ?_)
        rw [ce_id (by omega) (by omega), hst]
theorem fprod_Mul_c {a b : Int} (ha : U a) (hb : U b) : Ev (fun k => fprod_Mul.f k a b) (fmul a b) := by
  refine Ev.bindc (fbits_Kind_c ha) (Ev.bindc (fbits_Kind_c hb) (Ev.bindc (fbits_Neg_c ha) (Ev.bindc (fbits_Neg_c hb) ?_)))
  have eb : (!(fs a == fs b)) = (fs a != fs b) := rfl
  rw [eb]
  generalize hneg : (fs a != fs b) = neg
  have hF : fmul a b = if fk a = 4 ∨ fk b = 4 ∨ (fk a = 3 ∧ fk b = 0) ∨ (fk a = 0 ∧ fk b = 3) then NAN else if fk a = 3 ∨ fk b = 3 then sgn neg INF else sgn neg (Rd (pm a * pm b) (pe a + pe b)) := by
    unfold fmul
    rw [hneg]
  have j2 : ∀ t : Bool, (fk a ≠ 4 ∧ fk b ≠ 4) → (fk a = 3 ∨ fk b = 3) → (t = true ↔ (fk a = 0 ∨ fk b = 0)) → Ev (fun k => fprod_Mul.j2 k neg t) (fmul a b) := by
    intro t h4 h3 ht
    refine Ev.step (fun k => fprod_Mul.j2.eq_2 ..) ?_
    rw [hF]
    by_cases h : fk a = 0 ∨ fk b = 0
    · have hc : fk a = 4 ∨ fk b = 4 ∨ (fk a = 3 ∧ fk b = 0) ∨ (fk a = 0 ∧ fk b = 3) := by omega
      rw [if_pos hc]
      exact Ev.ifp (ht.2 h) (Ev.bindc fbits_Nan_c (Ev.same rfl))
    · rw [if_neg (show ¬ (fk a = 4 ∨ fk b = 4 ∨ (fk a = 3 ∧ fk b = 0) ∨ (fk a = 0 ∧ fk b = 3)) by omega), if_pos h3]
      exact Ev.ifn (fun k => h (ht.1 k)) (Ev.bindc (fbits_Inf_c neg) (Ev.same rfl))
  have j1 : ∀ t : Bool, (fk a ≠ 4 ∧ fk b ≠ 4) → (t = true ↔ (fk a = 3 ∨ fk b = 3)) → Ev (fun k => fprod_Mul.j1 k a b (fk a) (fk b) neg t) (fmul a b) := by
    intro t h4 ht
    refine Ev.step (fun k => fprod_Mul.j1.eq_2 ..) ?_
    by_cases h : fk a = 3 ∨ fk b = 3
    · refine Ev.ifp (ht.2 h) ?_
      by_cases h0 : fk a = 0
      · exact Ev.ifp h0 (j2 _ h4 h (by simp [h0]))
      · exact Ev.ifn h0 (j2 _ h4 h (by simp [h0]))
    · refine Ev.ifn (fun k => h (ht.1 k)) ?_
      have fa : fx a ≠ 2047 := fk_fin h4.1 (fun k => h (.inl k))
      have fb : fx b ≠ 2047 := fk_fin h4.2 (fun k => h (.inr k))
      refine Ev.bind (parts_fin ha fa) (Ev.bind (parts_fin hb fb) ?_)
      have a1 := pm_range a
      have a2 := pe_range a
      have b1 := pm_range b
      have b2 := pe_range b
      dsimp only
      rw [w64_id (n := pe a + pe b) (by omega) (by omega)]
      rw [hF, if_neg (show ¬ (fk a = 4 ∨ fk b = 4 ∨ (fk a = 3 ∧ fk b = 0) ∨ (fk a = 0 ∧ fk b = 3)) by omega), if_neg h]
      exact mul_word neg a1.1 a1.2 b1.1 b1.2 (by omega) (by omega)
  have j0 : ∀ t : Bool, (t = true ↔ (fk a = 4 ∨ fk b = 4)) → Ev (fun k => fprod_Mul.j0 k a b (fk a) (fk b) neg t) (fmul a b) := by
    intro t ht
    refine Ev.step (fun k => fprod_Mul.j0.eq_2 ..) ?_
    by_cases h : fk a = 4 ∨ fk b = 4
    · refine Ev.ifp (ht.2 h) (Ev.bindc fbits_Nan_c (Ev.same ?_))
      have hc : fk a = 4 ∨ fk b = 4 ∨ (fk a = 3 ∧ fk b = 0) ∨ (fk a = 0 ∧ fk b = 3) := by omega
      rw [hF, if_pos hc]
    · refine Ev.ifn (fun k => h (ht.1 k)) ?_
      by_cases h3 : fk a = 3
      · exact Ev.ifp h3 (j1 _ (by omega) (by simp [h3]))
      · exact Ev.ifn h3 (j1 _ (by omega) (by simp [h3]))
  by_cases h : fk a = 4
  · exact Ev.ifp h (j0 _ (by simp [h]))
  · exact Ev.ifn h (j0 _ (by simp [h]))

/-! ### Quotients -/
theorem fprod_signed_c (neg : Bool) : Ev (fun k => fprod_signed.f k neg) (sgn neg 0) := by
  refine Ev.bind (fbits_Make_c neg (m := 0) (e := 0) (by unfold U; omega) (by omega) (by omega)) (Ev.same ?_)
  rw [Mk_zero]
theorem top_word {m : Int} (h0 : 0 < m) (h1 : m < 9007199254740992) : 4611686018427387904 ≤ m * 2 ^ (63 - bl m).toNat ∧ m * 2 ^ (63 - bl m).toNat < 9223372036854775808 ∧ 9223372036854775808 ≤ m * 2 ^ (64 - bl m).toNat ∧ m * 2 ^ (64 - bl m).toNat < 18446744073709551616 := by
  have b2 : bl m ≤ 53 := bl_le_of (n := 53) (by omega)
  have t := bl_top h0 (by omega)
  have e : m * 2 ^ (64 - bl m).toNat = m * 2 ^ (63 - bl m).toNat * 2 := by
    rw [show (64 - bl m).toNat = (63 - bl m).toNat + 1 by omega, Int.pow_succ, Int.mul_assoc]
  rw [e] at t ⊢
  omega
theorem fprod_Div_c {a b : Int} (ha : U a) (hb : U b) : Ev (fun k => fprod_Div.f k a b) (fdiv a b) := by
  refine Ev.bindc (fbits_Kind_c ha) (Ev.bindc (fbits_Kind_c hb) (Ev.bindc (fbits_Neg_c ha) (Ev.bindc (fbits_Neg_c hb) ?_)))
  have eb : (!(fs a == fs b)) = (fs a != fs b) := rfl
  rw [eb]
  generalize hneg : (fs a != fs b) = neg
  have hF : fdiv a b = if fk a = 4 ∨ fk b = 4 ∨ (fk a = 3 ∧ fk b = 3) ∨ (fk a = 0 ∧ fk b = 0) then NAN else if fk a = 3 ∨ fk b = 0 then sgn neg INF else if fk a = 0 ∨ fk b = 3 then sgn neg 0 else sgn neg (qd (pm a) (pe a) (pm b) (pe b)) := by
    unfold fdiv
    rw [hneg]
  have j1 : ∀ t : Bool, ¬ (fk a = 4 ∨ fk b = 4 ∨ (fk a = 3 ∧ fk b = 3) ∨ (fk a = 0 ∧ fk b = 0)) → (t = true ↔ (fk a = 3 ∨ fk b = 0)) → Ev (fun k => fprod_Div.j1 k a b (fk a) (fk b) neg t) (fdiv a b) := by
    intro t h4 ht
    refine Ev.step (fun k => fprod_Div.j1.eq_2 ..) ?_
    rw [hF, if_neg h4]
    by_cases h : fk a = 3 ∨ fk b = 0
    · rw [if_pos h]
      exact Ev.ifp (ht.2 h) (Ev.bindc (fbits_Inf_c neg) (Ev.same rfl))
    · rw [if_neg h]
      refine Ev.ifn (fun k => h (ht.1 k)) ?_
      by_cases h1 : fk a = 0
      · rw [if_pos (.inl h1)]
        exact Ev.ifp h1 (Ev.bind (fprod_signed_c neg) (Ev.same rfl))
      · refine Ev.ifn h1 ?_
        by_cases h2 : fk b = 3
        · rw [if_pos (.inr h2)]
          exact Ev.ifp h2 (Ev.bind (fprod_signed_c neg) (Ev.same rfl))
        · rw [if_neg (by omega)]
          have fa : fx a ≠ 2047 := fk_fin (by omega) (by omega)
          have fb : fx b ≠ 2047 := fk_fin (by omega) (by omega)
          have za : pm a ≠ 0 := fun k => h1 ((fk_eq a).2.2.2.1.2 ⟨fa, k⟩)
          have zb : pm b ≠ 0 := fun k => h (.inr ((fk_eq b).2.2.2.1.2 ⟨fb, k⟩))
          refine Ev.ifn h2 (Ev.bind (parts_fin ha fa) (Ev.bind (parts_fin hb fb) ?_))
          have a1 := pm_range a
          have a2 := pe_range a
          have b1 := pm_range b
          have b2 := pe_range b
          have na := bl_nonneg (pm a)
          have nb := bl_nonneg (pm b)
          have ba : bl (pm a) ≤ 53 := bl_le_of (n := 53) (by omega)
          have bb : bl (pm b) ≤ 53 := bl_le_of (n := 53) (by omega)
          have ta := top_word (m := pm a) (by omega) a1.2
          have tb := top_word (m := pm b) (by omega) b1.2
          have a3 : -1074 ≤ pe a ∧ pe a ≤ 972 := ⟨a2.1, a2.2.1⟩
          have b3 : -1074 ≤ pe b ∧ pe b ≤ 972 := ⟨b2.1, b2.2.1⟩
          dsimp only
          refine Ev.bind (limb_Len_c (x := pm a) (by unfold U; omega)) (Ev.bind (limb_Len_c (x := pm b) (by unfold U; omega)) ?_)
          clear a2 b2 hF h4 ht h h1 h2 fa fb
          unfold qd
          generalize pm a = m at *
          generalize pm b = n at *
          generalize pe a = e at *
          generalize pe b = f at *
          rw [w64_id (n := 63 - bl m) (by omega) (by omega), w64_id (n := 64 - bl n) (by omega) (by omega)]
          refine Ev.ifp (by omega) (Ev.ifp (by omega) ?_)
          rw [shl_u _ _ (by omega), shl_u _ _ (by omega), Int.emod_eq_of_lt (by omega) (by omega), Int.emod_eq_of_lt (by omega) (by omega)]
          rw [w64_id (n := e - (63 - bl m)) (by omega) (by omega), w64_id (n := e - (63 - bl m) - f) (by omega) (by omega), w64_id (n := e - (63 - bl m) - f + (64 - bl n)) (by omega) (by omega), w64_id (n := e - (63 - bl m) - f + (64 - bl n) - 64) (by omega) (by omega)]
          have eE : e - (63 - bl m) - f + (64 - bl n) - 64 = e - f + bl m - bl n - 63 := by omega
          have eE2 : e - f + bl m - bl n - 64 = e - f + bl m - bl n - 63 - 1 := by omega
          have hE : -5000 ≤ e - f + bl m - bl n - 63 ∧ e - f + bl m - bl n - 63 ≤ 5000 := by omega
          rw [eE, eE2]
          generalize e - f + bl m - bl n - 63 = E at *
          generalize m * 2 ^ (63 - bl m).toNat = M at *
          generalize n * 2 ^ (64 - bl n).toNat = N at *
          have D := limb_Div_c (hi := M) (lo := 0) (d := N) (by omega) (by omega) (by omega) (by unfold U; omega)
          rw [Int.add_zero] at D
          have q0 : 4611686018427387904 ≤ M * 18446744073709551616 / N := by rw [Int.le_ediv_iff_mul_le (by omega)]; omega
          have q1 : M * 18446744073709551616 / N < 18446744073709551616 := by rw [Int.ediv_lt_iff_lt_mul (by omega)]; omega
          refine Ev.bind D ?_
          dsimp only
          generalize M * 18446744073709551616 / N = q at *
          generalize M * 18446744073709551616 % N = r at *
          by_cases hr : r = 0
          · rw [if_pos hr]
            refine Ev.ifp hr (Ev.bind (fround_Word_c (e := E) neg (m := q) (by unfold U; omega)) (Ev.same ?_))
            rw [ce_id (by omega) (by omega)]
          · rw [if_neg hr]
            refine Ev.ifn hr ?_
            rw [or_one (by unfold U; omega)]
            refine Ev.bind (fround_Word_c (e := E) neg (m := q / 2 * 2 + 1) (by unfold U; omega)) (Ev.same ?_)
            rw [ce_id (by omega) (by omega), qd_code q0]
  have j0 : ∀ t : Bool, (t = true ↔ (fk a = 4 ∨ fk b = 4 ∨ (fk a = 3 ∧ fk b = 3) ∨ (fk a = 0 ∧ fk b = 0))) → Ev (fun k => fprod_Div.j0 k a b (fk a) (fk b) neg t) (fdiv a b) := by
    intro t ht
    refine Ev.step (fun k => fprod_Div.j0.eq_2 ..) ?_
    by_cases h : fk a = 4 ∨ fk b = 4 ∨ (fk a = 3 ∧ fk b = 3) ∨ (fk a = 0 ∧ fk b = 0)
    · refine Ev.ifp (ht.2 h) (Ev.bindc fbits_Nan_c (Ev.same ?_))
      rw [hF, if_pos h]
    · refine Ev.ifn (fun k => h (ht.1 k)) ?_
      by_cases h3 : fk a = 3
      · exact Ev.ifp h3 (j1 _ h (by simp [h3]))
      · exact Ev.ifn h3 (j1 _ h (by simp [h3]))
  by_cases h : fk a = 4
  · exact Ev.ifp h (j0 _ (by simp [h]))
  · refine Ev.ifn h ?_
    by_cases h2 : fk b = 4
    · exact Ev.ifp h2 (j0 _ (by simp [h2]))
    · refine Ev.ifn h2 ?_
      by_cases h3 : fk a = fk b
      · refine Ev.ifp h3 ?_
        by_cases h5 : fk a = 3
        · exact Ev.ifp h5 (j0 _ (by simp; omega))
        · exact Ev.ifn h5 (j0 _ (by simp; omega))
      · exact Ev.ifn h3 (j0 _ (by simp; omega))

/-! ### Roots -/
theorem sq_test {t hi : Int} (h0 : 0 ≤ t) (h1 : t < 18446744073709551616) (hhi : U hi) : (t * t / 18446744073709551616 < hi ∨ (t * t / 18446744073709551616 = hi ∧ t * t % 18446744073709551616 = 0)) ↔ t * t ≤ hi * 18446744073709551616 := by
  have := Int.mul_nonneg h0 h0
  generalize t * t = q at *
  omega
theorem fprod_root_l {hi R : Int} (hhi : U hi) (hR : IsRoot (hi * 18446744073709551616) R) (hR1 : R < 18446744073709551616) (j : Nat) (hj : j ≤ 64) : ∀ r : Int, 0 ≤ r → r % 2 ^ j = 0 → r ≤ R → R < r + 2 ^ j → Ev (fun k => fprod_root.l0 k hi r (2 ^ j / 2)) (R, decide (R * R = hi * 18446744073709551616)) := by
  induction j with
  | zero =>
    intro r h0 hm h1 h2
    rw [Int.pow_zero] at h2
    obtain rfl : r = R := by omega
    refine Ev.step (fun k => fprod_root.l0.eq_2 ..) (Ev.ifn (by decide) ?_)
    refine Ev.bindc (limb_Mul_c (a := r) (b := r) (by unfold U; omega) (by unfold U; omega)) ?_
    dsimp only
    have := Int.mul_nonneg h0 h0
    have hle := hR.2.1
    generalize r * r = q at *
    by_cases h : q / 18446744073709551616 = hi
    · refine Ev.ifp h (Ev.same ?_)
      congr 2
      by_cases h3 : q % 18446744073709551616 = 0
      · rw [h3, decide_eq_true (by omega)]; rfl
      · rw [decide_eq_false (by omega), beq_eq_false_iff_ne]
        exact h3
    · refine Ev.ifn h (Ev.same ?_)
      rw [decide_eq_false (by omega)]
  | succ j ih =>
    intro r h0 hm h1 h2
    have hp := pow_pos j
    have e2 : (2 : Int) ^ (j + 1) / 2 = 2 ^ j := by rw [Int.pow_succ]; omega
    have hle63 : (2 : Int) ^ j ≤ 2 ^ 63 := pow_le_pow (by omega)
    rw [e2]
    refine Ev.step (fun k => fprod_root.l0.eq_2 ..) (Ev.ifp hp ?_)
    rw [Int.pow_succ] at h2
    have hdvd : r + 2 ^ j < 18446744073709551616 := by
      have hm' := Int.mul_ediv_add_emod r (2 ^ (j + 1))
      rw [hm, Int.add_zero] at hm'
      have hp1 := pow_pos (j + 1)
      have hpp : (2 : Int) ^ (j + 1) * 2 ^ (63 - j) = 18446744073709551616 := by rw [← Int.pow_add, show j + 1 + (63 - j) = 64 by omega]; rfl
      have hq : r / 2 ^ (j + 1) < 2 ^ (63 - j) := by rw [Int.ediv_lt_iff_lt_mul hp1, Int.mul_comm, hpp]; omega
      have := Int.mul_le_mul_of_nonneg_left (show r / 2 ^ (j + 1) + 1 ≤ 2 ^ (63 - j) by omega) (Int.le_of_lt hp1)
      rw [hpp, Int.mul_add, Int.mul_one, hm', Int.pow_succ] at this
      omega
    rw [or_join (j + 1) _ _ h0 hm (by omega) (by omega) (by rw [Int.pow_succ]; omega) (by omega)]
    refine Ev.bindc (limb_Mul_c (a := r + 2 ^ j) (b := r + 2 ^ j) (by unfold U; omega) (by unfold U; omega)) ?_
    dsimp only
    have ht := sq_test (t := r + 2 ^ j) (by omega) hdvd hhi
    have hm2 : (r + 2 ^ j) % 2 ^ j = 0 := by
      have hm' := Int.mul_ediv_add_emod r (2 ^ (j + 1))
      rw [hm, Int.add_zero, Int.pow_succ, Int.mul_assoc] at hm'
      rw [← hm', Int.add_emod_right]
      exact Int.mul_emod_right ..
    have hm3 : r % 2 ^ j = 0 := by
      have hm' := Int.mul_ediv_add_emod r (2 ^ (j + 1))
      rw [hm, Int.add_zero, Int.pow_succ, Int.mul_assoc] at hm'
      rw [← hm']
      exact Int.mul_emod_right ..
    have yes : (r + 2 ^ j) * (r + 2 ^ j) ≤ hi * 18446744073709551616 → Ev (fun k => fprod_root.l0 k hi (r + 2 ^ j) (2 ^ j / 2)) (R, decide (R * R = hi * 18446744073709551616)) := by
      intro h
      have hlt : r + 2 ^ j < R + 1 := lt_of_sq (by have := hR.1; omega) (by have := hR.2.2; omega)
      exact ih (by omega) (r + 2 ^ j) (by omega) hm2 (by omega) (by omega)
    have no : ¬ (r + 2 ^ j) * (r + 2 ^ j) ≤ hi * 18446744073709551616 → Ev (fun k => fprod_root.l0 k hi r (2 ^ j / 2)) (R, decide (R * R = hi * 18446744073709551616)) := by
      intro h
      have hlt : R < r + 2 ^ j := lt_of_sq (by omega) (by have := hR.2.1; omega)
      exact ih (by omega) r h0 hm3 h1 hlt
    by_cases c1 : (r + 2 ^ j) * (r + 2 ^ j) / 18446744073709551616 < hi
    · exact Ev.ifp c1 (yes (ht.1 (.inl c1)))
    · refine Ev.ifn c1 ?_
      by_cases c2 : (r + 2 ^ j) * (r + 2 ^ j) / 18446744073709551616 = hi
      · refine Ev.ifp c2 ?_
        by_cases c3 : (r + 2 ^ j) * (r + 2 ^ j) % 18446744073709551616 = 0
        · exact Ev.ifp c3 (yes (ht.1 (.inr ⟨c2, c3⟩)))
        · exact Ev.ifn c3 (no (fun k => (ht.2 k).elim c1 (fun x => c3 x.2)))
      · exact Ev.ifn c2 (no (fun k => (ht.2 k).elim c1 (fun x => c2 x.1)))
theorem fprod_root_c {hi R : Int} (hhi : U hi) (hR : IsRoot (hi * 18446744073709551616) R) : Ev (fun k => fprod_root.f k hi) (R, decide (R * R = hi * 18446744073709551616)) := by
  have hR1 : R < 18446744073709551616 := lt_of_sq (by omega) (by have := hR.2.1; unfold U at hhi; omega)
  exact fprod_root_l hhi hR hR1 64 (by omega) 0 (by omega) (by decide) hR.1 (by omega)
theorem fprod_Sqrt_no {b : Int} (h : U b) (hk : fk b = 4 ∨ (fk b ≠ 0 ∧ fs b = true)) : Ev (fun k => fprod_Sqrt.f k b) NAN := by
  refine Ev.bindc (fbits_Kind_c h) ?_
  by_cases h4 : fk b = 4
  · exact Ev.ifp h4 (Ev.bindc fbits_Nan_c (Ev.same rfl))
  · have hs := (hk.resolve_left h4)
    refine Ev.ifn h4 ?_
    by_cases h3 : fk b = 3
    · exact Ev.ifp h3 (Ev.bindc (fbits_Neg_c h) (Ev.ifp hs.2 (Ev.bindc fbits_Nan_c (Ev.same rfl))))
    · refine Ev.ifn h3 (Ev.ifn hs.1 ?_)
      exact Ev.bindc (fbits_Neg_c h) (Ev.ifp hs.2 (Ev.bindc fbits_Nan_c (Ev.same rfl)))
theorem fprod_Sqrt_same {b : Int} (h : U b) (hk : fk b = 0 ∨ (fk b = 3 ∧ fs b = false)) : Ev (fun k => fprod_Sqrt.f k b) b := by
  refine Ev.bindc (fbits_Kind_c h) (Ev.ifn (by omega) ?_)
  by_cases h3 : fk b = 3
  · have hs := hk.resolve_left (by omega)
    exact Ev.ifp h3 (Ev.bindc (fbits_Neg_c h) (Ev.ifn (by rw [hs.2]; decide) (Ev.same rfl)))
  · exact Ev.ifn h3 (Ev.ifp (by omega) (Ev.same rfl))
theorem sqrt_j0 {m e w : Int} {up : Nat} (h0 : 0 < m) (hm : m < 9007199254740992) (he0 : -1074 ≤ e) (he1 : e ≤ 971) (hup : (up : Int) = 126 - bl m ∨ (up : Int) = 125 - bl m) (hpar : (e - up) % 2 = 0) (hw : IsSq m e w) : Ev (fun k => fprod_Sqrt.j0 k m e (up : Int)) w := by
  have b1 := bl_pos h0
  have b2 : bl m ≤ 53 := bl_le_of (n := 53) hm
  have l1 := bl_lt m
  have l2 := bl_le h0
  refine Ev.step (fun k => fprod_Sqrt.j0.eq_2 ..) ?_
  obtain ⟨t, ht⟩ : ∃ t : Nat, up = t + 64 := ⟨up - 64, by omega⟩
  subst ht
  have hp := pow_pos t
  have et : wrap64 (((t + 64 : Nat) : Int) - 64) = t := by rw [w64_id (by omega) (by omega)]; omega
  rw [et]
  refine Ev.ifp (by omega) ?_
  have hlt : m * 2 ^ t < 2 ^ 62 := by
    have := Int.mul_lt_mul_of_pos_right l1 hp
    rw [← Int.pow_add] at this
    have := pow_le_pow (a := (bl m).toNat + t) (b := 62) (by omega)
    omega
  have hge : 2 ^ 60 ≤ m * 2 ^ t := by
    have := Int.mul_le_mul_of_nonneg_right l2 (Int.le_of_lt hp)
    rw [← Int.pow_add] at this
    have := pow_le_pow (a := 60) (b := (bl m - 1).toNat + t) (by omega)
    omega
  rw [shl_u _ _ (by omega), Int.toNat_natCast, Int.emod_eq_of_lt (by omega) (by omega)]
  have eX : m * 2 ^ t * 18446744073709551616 = m * 2 ^ (t + 64) := by rw [Int.pow_add, ← Int.mul_assoc]; rfl
  obtain ⟨R, hR⟩ := root_ex (A := m * 2 ^ (t + 64)) (by rw [← eX]; omega)
  have hroot := fprod_root_c (hi := m * 2 ^ t) (R := R) (by unfold U; omega) (by rw [eX]; exact hR)
  rw [eX] at hroot
  refine Ev.bind hroot ?_
  dsimp only
  have hR0 := hR.1
  have hR2 := hR.2.2
  have hR1 := hR.2.1
  have hRge : (1073741824 * 1073741824 : Int) * 4294967296 ≤ m * 2 ^ (t + 64) := by rw [← eX]; omega
  have hRbig : (18014398509481984 : Int) ≤ R := by
    have : (18014398509481984 : Int) < R + 1 := lt_of_sq (by omega) (by omega)
    omega
  have hRlt : R < 18446744073709551616 := lt_of_sq (by omega) (by rw [← eX] at hR1; omega)
  obtain ⟨c, hc⟩ : ∃ c : Int, e - ((t + 64 : Nat) : Int) = 2 * c := ⟨(e - ((t + 64 : Nat) : Int)) / 2, by omega⟩
  have eE : wrap64 (Int.tdiv (wrap64 (e - ((t + 64 : Nat) : Int))) 2) = c := by
    rw [w64_id (n := e - ((t + 64 : Nat) : Int)) (by omega) (by omega), hc, Int.mul_tdiv_cancel_left _ (by decide), w64_id (by omega) (by omega)]
  rw [eE]
  have hwR : w = Rd (sv (m * 2 ^ (t + 64)) R) (c - 1) := IsSq_unique hw ⟨t + 64, c - 1, R, by omega, hR, by omega, rfl⟩
  have hcode := sq_code (c := c) hR hRbig
  rw [← hwR] at hcode
  by_cases hx : R * R = m * 2 ^ (t + 64)
  · rw [if_pos hx] at hcode
    refine Ev.ifp (decide_eq_true hx) (Ev.bind (fround_Word_c (e := c) false (m := R) (by unfold U; omega)) (Ev.same ?_))
    rw [ce_id (by omega) (by omega), hcode]
    rfl
  · rw [if_neg hx] at hcode
    refine Ev.ifn (by rw [decide_eq_false hx]; decide) ?_
    rw [or_one (by unfold U; omega)]
    refine Ev.bind (fround_Word_c (e := c) false (m := R / 2 * 2 + 1) (by unfold U; omega)) (Ev.same ?_)
    rw [ce_id (by omega) (by omega), hcode]
    rfl
theorem fprod_Sqrt_c {b w : Int} (h : U b) (h4 : fk b ≠ 4) (h3 : fk b ≠ 3) (h0 : fk b ≠ 0) (hs : fs b = false) (hw : IsSq (pm b) (pe b) w) : Ev (fun k => fprod_Sqrt.f k b) w := by
  refine Ev.bindc (fbits_Kind_c h) (Ev.ifn h4 (Ev.ifn h3 (Ev.ifn h0 ?_)))
  refine Ev.bindc (fbits_Neg_c h) (Ev.ifn (by rw [hs]; decide) ?_)
  have hf := fk_fin h4 h3
  refine Ev.bind (parts_fin h hf) ?_
  have a1 := pm_range b
  have a2 := pe_range b
  have hz : pm b ≠ 0 := fun k => h0 ((fk_eq b).2.2.2.1.2 ⟨hf, k⟩)
  have a3 := a2.2.2.1 hf
  dsimp only
  refine Ev.bind (limb_Len_c (x := pm b) (by unfold U; omega)) ?_
  have b1 := bl_pos (x := pm b) (by omega)
  have b2 : bl (pm b) ≤ 53 := bl_le_of (n := 53) (by omega)
  obtain ⟨up, hup⟩ : ∃ up : Nat, (up : Int) = 126 - bl (pm b) := ⟨(126 - bl (pm b)).toNat, by omega⟩
  rw [w64_id (n := 126 - bl (pm b)) (by omega) (by omega), ← hup, and_one_i64, w64_id (n := pe b - (up : Int)) (by omega) (by omega)]
  by_cases hp : (pe b - (up : Int)) % 2 = 0
  · exact Ev.ifp hp (sqrt_j0 (by omega) a1.2 a2.1 a3 (.inl hup) hp hw)
  · refine Ev.ifn hp ?_
    have e1 : wrap64 ((up : Int) - 1) = ((up - 1 : Nat) : Int) := by rw [w64_id (by omega) (by omega)]; omega
    rw [e1]
    exact sqrt_j0 (by omega) a1.2 a2.1 a3 (.inr (by omega)) (by omega) hw
end Go.Proofs.Ytbpggonjcnakgaa.M
