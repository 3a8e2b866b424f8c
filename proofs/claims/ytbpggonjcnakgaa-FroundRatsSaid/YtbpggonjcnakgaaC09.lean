/- What the functions of fbits, and of its reference, answer. -/
import Derived.Test.YtbpggonjcnakgaaBfbits
import Derived.Test.YtbpggonjcnakgaaBgradineref09
import Derived.Test.YtbpggonjcnakgaaC01
import Derived.Test.YtbpggonjcnakgaaM9
namespace Go.Proofs.Ytbpggonjcnakgaa.M
open Go.RowKit Go.Proofs.Ytbpggonjcnakgaa.P Go.Proofs.YtbpggonjcnakgaaW.PrintWords Go.Proofs.YtbpggonjcnakgaaW.PrintLast Go.Proofs.YtbpggonjcnakgaaW.PrintMore
set_option linter.unusedVariables false

theorem and_top {x : Int} (h : U x) : Go.bits .and .u64 x 9223372036854775808 = x / 9223372036854775808 * 9223372036854775808 := by
  obtain ⟨h0, h1⟩ := h
  obtain ⟨a, rfl⟩ := Int.eq_ofNat_of_zero_le h0
  have e := and_nat a (2 ^ 63) (by omega) (by decide)
  rw [show (9223372036854775808 : Int) = ((2 ^ 63 : Nat) : Int) from rfl, e]
  rcases Nat.lt_or_ge a (2 ^ 63) with h2 | h2
  · have : a &&& 2 ^ 63 = 0 := by
      refine Nat.eq_of_testBit_eq fun i => ?_
      rw [Nat.testBit_and, Nat.testBit_two_pow, Nat.zero_testBit]
      by_cases hi : 63 = i
      · subst hi
        rw [Nat.testBit_lt_two_pow h2]
        simp
      · simp [hi]
    rw [this]
    omega
  · obtain ⟨b, rfl⟩ : ∃ b, a = b + 2 ^ 63 := ⟨a - 2 ^ 63, by omega⟩
    have e2 := Nat.two_pow_add_eq_or_of_lt (show b < 2 ^ 63 by omega) 1
    rw [Nat.mul_one] at e2
    have : (b + 2 ^ 63) &&& 2 ^ 63 = 2 ^ 63 := by
      rw [Nat.add_comm, e2]
      refine Nat.eq_of_testBit_eq fun i => ?_
      rw [Nat.testBit_and, Nat.testBit_or, Nat.testBit_two_pow]
      by_cases hi : 63 = i <;> simp [hi]
    rw [this]
    omega
theorem or_top {x : Int} (h0 : 0 ≤ x) (h1 : x < 9223372036854775808) : Go.bits .or .u64 x 9223372036854775808 = x + 9223372036854775808 := by
  rw [or_comm _ _ h0 (by omega) (by omega) (by omega), or_join 63 _ _ (by omega) (by omega) (by omega) h0 (by omega) (by omega)]
  omega
theorem fbits_exponent_c {b : Int} (h : U b) : fbits_exponent.f b = some (fx b) := by
  unfold U at h
  unfold fbits_exponent.f fx
  rw [and11 _ (by omega) (by omega), w64_id (by omega) (by omega)]
theorem fbits_Kind_c {b : Int} (h : U b) : fbits_Kind.f b = some (fk b) := by
  unfold fbits_Kind.f
  rw [fbits_exponent_c h, and52 b h.1 h.2]
  show (if fx b = 2047 then (if fr b = 0 then some 3 else some 4) else if fx b = 0 then (if fr b = 0 then some 0 else some 1) else some 2) = some (fk b)
  unfold fk
  split
  · split <;> rfl
  · split
    · split <;> rfl
    · rfl
theorem fbits_Neg_c {b : Int} (h : U b) : fbits_Neg.f b = some (fs b) := by
  unfold fbits_Neg.f
  rw [and_top h]
  unfold U at h
  unfold fs
  congr 1
  by_cases hb : b ≥ 9223372036854775808
  · rw [decide_eq_true hb, bne_iff_ne]; omega
  · rw [decide_eq_false hb, bne_eq_false_iff_eq]; omega
theorem fbits_Parts_c {b : Int} (h : U b) : Ev (fun k => fbits_Parts.f k b) (if fx b = 2047 then (false, 0, 0, false) else (fs b, pm b, pe b, true)) := by
  have hx := @fx_range b
  have hr := @fr_range b
  have hk := fk_eq b
  have e52 : Go.bits .and .u64 b 4503599627370495 = fr b := and52 b h.1 h.2
  refine Ev.bindc (fbits_Kind_c h) ?_
  rw [e52]
  have key : ∀ t : Bool, (t = true ↔ fx b = 2047) → Ev (fun k => fbits_Parts.j0 k b (fr b) (fk b) t) (if fx b = 2047 then (false, 0, 0, false) else (fs b, pm b, pe b, true)) := by
    intro t ht
    refine Ev.step (fun k => fbits_Parts.j0.eq_2 ..) ?_
    by_cases hc : fx b = 2047
    · rw [if_pos hc]
      exact Ev.ifp (ht.2 hc) (Ev.same rfl)
    · rw [if_neg hc]
      refine Ev.ifn (fun k => hc (ht.1 k)) ?_
      have hk2 : fk b = 2 ↔ fx b ≠ 0 := by
        unfold fk
        rw [if_neg hc]
        by_cases h0 : fx b = 0
        · rw [if_pos h0]
          split <;> omega
        · rw [if_neg h0]; omega
      unfold pm pe
      by_cases h0 : fx b = 0
      · rw [if_pos h0, if_pos h0]
        exact Ev.ifn (by omega) (Ev.bindc (fbits_Neg_c h) (Ev.same rfl))
      · rw [if_neg h0, if_neg h0]
        refine Ev.ifp (by omega) (Ev.bindc (fbits_Neg_c h) (Ev.bindc (fbits_exponent_c h) (Ev.same ?_)))
        rw [w64_id (by omega) (by omega), or_comm _ _ (by omega) (by omega) (by omega) (by omega), or_join 52 _ _ (by omega) (by omega) (by omega) (by omega) (by omega) (by omega), Int.add_comm]
  by_cases h3 : fk b = 3
  · exact Ev.ifp h3 (key _ (by rw [h3]; simp; omega))
  · refine Ev.ifn h3 (key _ ?_)
    rw [beq_iff_eq]
    omega
theorem fbits_signed_c {x : Int} (neg : Bool) (h0 : 0 ≤ x) (h1 : x < 9223372036854775808) : fbits_signed.f neg x = some (sgn neg x) := by
  unfold fbits_signed.f sgn
  rw [or_top h0 h1]
  cases neg <;> rfl
theorem fbits_Inf_c (neg : Bool) : fbits_Inf.f neg = some (sgn neg INF) := by
  unfold fbits_Inf.f
  rw [fbits_signed_c neg (by decide) (by decide)]
  rfl
/-! ### Make -/
theorem far_no {m u e : Int} (h0 : 0 < m) (h1 : m < 18446744073709551616) (h : 64 ≤ u - e) : m * 2 ^ (e - u).toNat % 2 ^ (u - e).toNat ≠ 0 := by
  have := pow_le_pow (a := 64) (b := (u - e).toNat) (by omega)
  rw [show (e - u).toNat = 0 by omega, Int.pow_zero, Int.mul_one, Int.emod_eq_of_lt (by omega) (by omega)]
  omega
theorem un_text {m e : Int} (hm : U m) (he : -5000 ≤ e) (he' : e ≤ 5000) : mx (wrap64 ((wrap64 (e + bl m)) - 53)) (-1074) = un m e := by
  have h1 := bl_64 hm.2
  have h2 := bl_nonneg m
  rw [w64_id (n := e + bl m) (by omega) (by omega), w64_id (by omega) (by omega)]
  unfold mx un
  generalize bl m = n at *
  split <;> omega
theorem fbits_Make_j2 {w u : Int} (neg : Bool) (h0 : 0 ≤ w) (h1 : w < 9007199254740992) (hu0 : -1074 ≤ u) (hu1 : u ≤ 971) (hw : u = -1074 ∨ 4503599627370496 ≤ w) :
    Ev (fun k => fbits_Make.j2 k neg w u) (sgn neg ((u + 1074) * 4503599627370496 + w), true) := by
  refine Ev.step (fun k => fbits_Make.j2.eq_2 ..) ?_
  by_cases h : w < 4503599627370496
  · refine Ev.ifp h (Ev.bindc (fbits_signed_c neg h0 (by omega)) (Ev.same ?_))
    rw [show (u + 1074) * 4503599627370496 + w = w by omega]
  · refine Ev.ifn h ?_
    rw [and52 w h0 (by omega), w64_id (by omega) (by omega), wu_id (n := u + 1075) (by omega) (by omega), wu_id (by omega) (by omega), or_join 52 _ _ (by omega) (by omega) (by omega) (by omega) (by omega) (by omega)]
    rw [show (u + 1075) * 4503599627370496 + w % 4503599627370496 = (u + 1074) * 4503599627370496 + w by omega]
    exact Ev.bindc (fbits_signed_c neg (by omega) (by omega)) (Ev.same rfl)
theorem fbits_Make_c {m e : Int} (neg : Bool) (hm : U m) (he0 : -9223372036854775808 ≤ e) (he1 : e ≤ 9223372036854775807) : Ev (fun k => fbits_Make.f k neg m e) (Mk neg m e) := by
  obtain ⟨hm0, hm1⟩ := id hm
  have hu : un m e = max (bl m + e - 53) (-1074) := rfl
  by_cases hz : m = 0
  · refine Ev.ifp hz (Ev.bindc (fbits_signed_c neg (by omega) (by omega)) (Ev.same ?_))
    rw [hz, Mk_zero]
  · have hp : 0 < m := by omega
    have b1 := bl_pos hp
    have b2 := bl_64 hm1
    refine Ev.ifn hz ?_
    by_cases h1 : e > 2000
    · refine Ev.ifp h1 (Ev.step (fun k => fbits_Make.j0.eq_2 ..) (Ev.ifp rfl (Ev.same ?_)))
      rw [Mk_no neg hz (.inl (by omega))]
    · refine Ev.ifn h1 (Ev.step (fun k => fbits_Make.j0.eq_2 ..) ?_)
      by_cases h2 : e < -2000
      · refine Ev.ifp (decide_eq_true h2) (Ev.same ?_)
        rw [Mk_no neg hz (.inr (far_no hp hm1 (by omega)))]
      · refine Ev.ifn (by rw [decide_eq_false h2]; decide) (Ev.bind (limb_Len_c hm) ?_)
        have hq := un_q (e := e) hp
        rw [un_text hm (by omega) (by omega), w64_id (by omega) (by omega)]
        by_cases h3 : un m e > 971
        · refine Ev.ifp h3 (Ev.step (fun k => fbits_Make.j1.eq_2 ..) (Ev.ifp rfl (Ev.same ?_)))
          rw [Mk_no neg hz (.inl h3)]
        · refine Ev.ifn h3 (Ev.step (fun k => fbits_Make.j1.eq_2 ..) ?_)
          by_cases h4 : un m e - e ≥ 64
          · refine Ev.ifp (decide_eq_true h4) (Ev.same ?_)
            rw [Mk_no neg hz (.inr (far_no hp hm1 (by omega)))]
          · refine Ev.ifn (by rw [decide_eq_false h4]; decide) ?_
            by_cases h5 : un m e - e > 0
            · refine Ev.ifp h5 (Ev.ifp (by omega) ?_)
              obtain ⟨s, hs⟩ : ∃ s : Nat, un m e - e = s := ⟨(un m e - e).toNat, by omega⟩
              have hps := pow_pos s
              have hd := Int.mul_ediv_add_emod m (2 ^ s)
              have hr := Int.emod_nonneg m (show (2 : Int) ^ s ≠ 0 by omega)
              have hd0 : 0 ≤ m / 2 ^ s := Int.ediv_nonneg hm0 (by omega)
              have hd1 : 0 ≤ m / 2 ^ s * 2 ^ s := Int.mul_nonneg hd0 (by omega)
              have e0 : m * 2 ^ (e - un m e).toNat = m := by rw [show (e - un m e).toNat = 0 by omega, Int.pow_zero, Int.mul_one]
              rw [Int.mul_comm] at hd
              rw [e0] at hq
              rw [hs] at hq ⊢
              rw [shr_u _ _ (by omega), shl_u _ _ (by omega)]
              rw [Int.toNat_natCast] at hq ⊢
              rw [Int.emod_eq_of_lt hd1 (by omega)]
              by_cases h6 : m / 2 ^ s * 2 ^ s = m
              · refine Ev.ifp h6 ((fbits_Make_j2 neg hq.1 hq.2.1 (by omega) (by omega) hq.2.2).eqr ?_)
                have h7 : m % 2 ^ s = 0 := by omega
                rw [Mk_yes neg hz (by omega) (by rw [e0, hs, Int.toNat_natCast]; exact h7), Rd_exact hp (by omega) (by rw [e0, hs, Int.toNat_natCast]; exact h7), e0, hs, Int.toNat_natCast]
              · refine Ev.ifn h6 (Ev.same ?_)
                rw [Mk_no neg hz (.inr (by rw [e0, hs, Int.toNat_natCast]; omega))]
            · refine Ev.ifn h5 ?_
              rw [w64_id (by omega) (by omega)]
              refine Ev.ifp (by omega) ?_
              obtain ⟨t, ht⟩ : ∃ t : Nat, -(un m e - e) = t := ⟨(-(un m e - e)).toNat, by omega⟩
              have e1 : (e - un m e).toNat = t := by omega
              have e2 : (un m e - e).toNat = 0 := by omega
              rw [e1, e2, Int.pow_zero, Int.ediv_one] at hq
              rw [ht, shl_u _ _ (by omega), Int.toNat_natCast, Int.emod_eq_of_lt hq.1 (by omega)]
              refine (fbits_Make_j2 neg hq.1 hq.2.1 (by omega) (by omega) hq.2.2).eqr ?_
              rw [Mk_yes neg hz (by omega) (by rw [e2, Int.pow_zero, Int.emod_one]), Rd_exact hp (by omega) (by rw [e2, Int.pow_zero, Int.emod_one]), e1, e2, Int.pow_zero, Int.ediv_one]

/-! ### The reference -/
theorem ref09_Field_c {b : Int} (h : U b) : gradineref09_Field.f b = some (fx b) := fbits_exponent_c h
theorem ref09_Rest_c {b : Int} (h : U b) : gradineref09_Rest.f b = some (fr b) := by
  unfold gradineref09_Rest.f
  rw [and52 b h.1 h.2]
  rfl
theorem ref09_Neg_c {b : Int} (h : U b) : gradineref09_Neg.f b = some (fs b) := by
  unfold U at h
  unfold gradineref09_Neg.f fs
  congr 1
  by_cases hb : b ≥ 9223372036854775808
  · rw [decide_eq_true hb, beq_iff_eq]; omega
  · rw [decide_eq_false hb, beq_eq_false_iff_ne]; omega
theorem ref09_Finite_c {b : Int} (h : U b) : gradineref09_Finite.f b = some (decide (fx b ≠ 2047)) := by
  have hx := @fx_range b
  unfold gradineref09_Finite.f
  rw [ref09_Field_c h]
  show some (decide (fx b < 2047)) = _
  congr 1
  by_cases h1 : fx b = 2047
  · rw [decide_eq_false (by omega), decide_eq_false (by omega)]
  · rw [decide_eq_true (by omega), decide_eq_true (by omega)]
theorem ref09_Parts_c {b : Int} (h : U b) : gradineref09_Parts.f b = some (pm b, pe b) := by
  have hx := @fx_range b
  have hr := @fr_range b
  unfold gradineref09_Parts.f
  rw [ref09_Field_c h, ref09_Rest_c h]
  show (if fx b = 0 then some (fr b, -1074) else some (IntKind.u64.wrap (fr b + 4503599627370496), wrap64 (fx b - 1075))) = _
  unfold pm pe
  split
  · rfl
  · rw [wu_id (by omega) (by omega), w64_id (by omega) (by omega)]
theorem ref09_Signed_c {x : Int} (neg : Bool) (h0 : 0 ≤ x) (h1 : x < 9223372036854775808) : gradineref09_Signed.f neg x = some (sgn neg x) := by
  unfold gradineref09_Signed.f sgn
  rw [wu_id (by omega) (by omega)]
  cases neg <;> rfl
theorem ref09_Inf_c (neg : Bool) : gradineref09_Inf.f neg = some (sgn neg INF) := by
  unfold gradineref09_Inf.f
  rw [ref09_Signed_c neg (by decide) (by decide)]
  rfl
theorem ref09_Make_l1 (neg : Bool) (n : Nat) : ∀ m e : Int, (e + 1074).toNat ≤ n → 0 < m → m < 9007199254740992 → -1074 ≤ e → e ≤ 3000 → Ev (fun k => gradineref09_Make.l1 k neg m e) (Mk neg m e) := by
  have fin : ∀ m e : Int, 0 < m → m < 9007199254740992 → -1074 ≤ e → e ≤ 3000 → (e = -1074 ∨ 4503599627370496 ≤ m) → Ev (fun k => gradineref09_Make.j4 k neg m e) (Mk neg m e) := by
    intro m e h0 h1 h2 h3 hw
    have hu : un m e = e := by
      rcases Int.lt_or_le m 4503599627370496 with h | h
      · have := bl_le_of (x := m) (n := 52) h
        unfold un
        omega
      · rw [un_bl (n := 52) h h1]
        omega
    refine Ev.step (fun k => gradineref09_Make.j4.eq_2 ..) ?_
    have e0 : m * 2 ^ (e - un m e).toNat % 2 ^ (un m e - e).toNat = 0 := by rw [hu, show (e - e).toNat = 0 by omega, Int.pow_zero, Int.emod_one]
    by_cases h : m < 4503599627370496
    · refine Ev.ifp h (Ev.bindc (ref09_Signed_c neg (by omega) (by omega)) (Ev.same ?_))
      rw [Mk_yes neg (by omega) (by omega) e0, (Rd_made h0 (by omega) h2 (by omega) hw).2.2.2]
      rw [show (e + 1074) * 4503599627370496 + m = m by omega]
    · refine Ev.ifn h ?_
      by_cases h4 : e > 971
      · refine Ev.ifp h4 (Ev.same ?_)
        rw [Mk_no neg (by omega) (.inl (by omega))]
      · refine Ev.ifn h4 ?_
        rw [w64_id (by omega) (by omega), wu_id (n := e + 1075) (by omega) (by omega), wu_id (n := (e + 1075) * 4503599627370496) (by omega) (by omega), wu_id (n := (e + 1075) * 4503599627370496 + m) (by omega) (by omega), wu_id (by omega) (by omega)]
        refine Ev.bindc (ref09_Signed_c neg (by omega) (by omega)) (Ev.same ?_)
        rw [Mk_yes neg (by omega) (by omega) e0, (Rd_made h0 (by omega) h2 (by omega) hw).2.2.2]
        rw [show (e + 1075) * 4503599627370496 + m - 4503599627370496 = (e + 1074) * 4503599627370496 + m by omega]
  induction n with
  | zero =>
    intro m e hn h0 h1 h2 h3
    refine Ev.step (fun k => gradineref09_Make.l1.eq_2 ..) ?_
    by_cases h : m < 4503599627370496
    · exact Ev.ifp h (Ev.ifn (by omega) (fin m e h0 h1 h2 h3 (.inl (by omega))))
    · exact Ev.ifn h (fin m e h0 h1 h2 h3 (.inr (by omega)))
  | succ n ih =>
    intro m e hn h0 h1 h2 h3
    refine Ev.step (fun k => gradineref09_Make.l1.eq_2 ..) ?_
    by_cases h : m < 4503599627370496
    · refine Ev.ifp h ?_
      by_cases h4 : e > -1074
      · refine Ev.ifp h4 ?_
        rw [wu_id (by omega) (by omega), w64_id (by omega) (by omega), ← Mk_scale neg h0 e]
        exact ih (m * 2) (e - 1) (by omega) (by omega) (by omega) (by omega) (by omega)
      · exact Ev.ifn h4 (fin m e h0 h1 h2 h3 (.inl (by omega)))
    · exact Ev.ifn h (fin m e h0 h1 h2 h3 (.inr (by omega)))
theorem ref09_Make_l0 (neg : Bool) (n : Nat) : ∀ m e : Int, m.toNat ≤ n → 0 < m → m < 18446744073709551616 → -1200 ≤ e → e + bl m ≤ 2000 → Ev (fun k => gradineref09_Make.l0 k neg m e) (Mk neg m e) := by
  induction n with
  | zero => intro m e hn h0; omega
  | succ n ih =>
    intro m e hn h0 h1 h2 h3
    have hb := bl_pos h0
    refine Ev.step (fun k => gradineref09_Make.l0.eq_2 ..) ?_
    rw [Int.tmod_eq_emod_of_nonneg (by omega), Int.tdiv_eq_ediv_of_nonneg (by omega)]
    by_cases ho : m % 2 = 0
    · refine Ev.ifp ho ?_
      have hb2 := bl_shr (x := m) (s := 1) (by omega)
      rw [Int.pow_one] at hb2
      rw [wu_id (by omega) (by omega), w64_id (by omega) (by omega)]
      have hs := Mk_scale neg (show 0 < m / 2 by omega) (e + 1)
      rw [show m / 2 * 2 = m by omega, show e + 1 - 1 = e by omega] at hs
      rw [hs]
      exact ih (m / 2) (e + 1) (by omega) (by omega) (by omega) (by omega) (by omega)
    · refine Ev.ifn ho ?_
      have hu : un m e = max (bl m + e - 53) (-1074) := rfl
      have odd : un m e > e → Mk neg m e = (0, false) := by
        intro h
        refine Mk_no neg (by omega) (.inr ?_)
        obtain ⟨j, hj⟩ : ∃ j : Nat, (un m e - e).toNat = j + 1 := ⟨(un m e - e).toNat - 1, by omega⟩
        rw [show (e - un m e).toNat = 0 by omega, hj, Int.pow_zero, Int.mul_one, Int.pow_succ, Int.mul_comm, mod_split _ (by omega)]
        have := Int.emod_nonneg (m / 2) (show (2 : Int) ^ j ≠ 0 by have := pow_pos j; omega)
        omega
      by_cases h4 : m ≥ 9007199254740992
      · refine Ev.ifp h4 (Ev.step (fun k => gradineref09_Make.j2.eq_2 ..) (Ev.ifp rfl (Ev.same ?_)))
        have := bl_ge' (x := m) (n := 53) (by omega)
        rw [odd (by omega)]
      · refine Ev.ifn h4 (Ev.step (fun k => gradineref09_Make.j2.eq_2 ..) ?_)
        by_cases h5 : e < -1074
        · refine Ev.ifp (decide_eq_true h5) (Ev.same ?_)
          rw [odd (by omega)]
        · refine Ev.ifn (by rw [decide_eq_false h5]; decide) ?_
          exact ref09_Make_l1 neg (e + 1074).toNat m e (Nat.le_refl _) h0 (by omega) (by omega) (by omega)
theorem ref09_Make_c {m e : Int} (neg : Bool) (hm : U m) : Ev (fun k => gradineref09_Make.f k neg m e) (Mk neg m e) := by
  obtain ⟨hm0, hm1⟩ := id hm
  have hu : un m e = max (bl m + e - 53) (-1074) := rfl
  by_cases hz : m = 0
  · refine Ev.ifp hz (Ev.bindc (ref09_Signed_c neg (by omega) (by omega)) (Ev.same ?_))
    rw [hz, Mk_zero]
  · have hp : 0 < m := by omega
    have b1 := bl_pos hp
    have b2 := bl_64 hm1
    refine Ev.ifn hz ?_
    by_cases h1 : e < -1200
    · refine Ev.ifp h1 (Ev.step (fun k => gradineref09_Make.j0.eq_2 ..) (Ev.ifp rfl (Ev.same ?_)))
      rw [Mk_no neg hz (.inr (far_no hp hm1 (by omega)))]
    · refine Ev.ifn h1 (Ev.step (fun k => gradineref09_Make.j0.eq_2 ..) ?_)
      by_cases h2 : e > 1200
      · refine Ev.ifp (decide_eq_true h2) (Ev.same ?_)
        rw [Mk_no neg hz (.inl (by omega))]
      · refine Ev.ifn (by rw [decide_eq_false h2]; decide) ?_
        exact ref09_Make_l0 neg m.toNat m e (Nat.le_refl _) hp hm1 (by omega) (by omega)
end Go.Proofs.Ytbpggonjcnakgaa.M
