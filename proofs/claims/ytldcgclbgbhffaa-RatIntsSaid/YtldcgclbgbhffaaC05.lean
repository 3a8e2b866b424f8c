/- What the greatest common divisor answers. -/
import Derived.Test.YtldcgclbgbhffaaBgcd
import Derived.Test.YtldcgclbgbhffaaC04c
import Derived.Test.YtldcgclbgbhffaaC04w
import Derived.Test.YtldcgclbgbhffaaM5
namespace Go.Proofs.Ytldcgclbgbhffaa.M
open Go.RowKit Go.Proofs.Ytldcgclbgbhffaa.P Go.Proofs.YtldcgclbgbhffaaW.PrintWords Go.Proofs.YtldcgclbgbhffaaW.PrintLast Go.Proofs.YtldcgclbgbhffaaW.PrintMore
set_option linter.unusedVariables false

theorem gcd_words_l (n : Nat) : ∀ x y : Int, y.toNat ≤ n → 0 ≤ x → 0 ≤ y → Ev (fun k => gcd_words.l0 k x y) (gc x y) := by
  induction n with
  | zero =>
    intro x y hn h0 h1
    obtain rfl : y = 0 := by omega
    exact Ev.step (fun k => gcd_words.l0.eq_2 ..) (Ev.ifp rfl (Ev.same (by rw [gc_zero h0])))
  | succ n ih =>
    intro x y hn h0 h1
    refine Ev.step (fun k => gcd_words.l0.eq_2 ..) ?_
    by_cases hy : y = 0
    · exact Ev.ifp hy (Ev.same (by rw [hy, gc_zero h0]))
    · refine Ev.ifn hy ?_
      rw [Int.tmod_eq_emod_of_nonneg h0, ← gc_mod h0 h1]
      have r0 := Int.emod_nonneg x hy
      have r1 := Int.emod_lt_of_pos x (show 0 < y by omega)
      exact ih y (x % y) (by omega) h1 r0
theorem gc_le_right {x y : Int} (hx : 0 ≤ x) (hy : 0 < y) : gc x y ≤ y := by
  have s := gc_split hx (Int.le_of_lt hy)
  have g := gc_nonneg x y
  have hq : 0 < y / gc x y := by
    have := Int.ediv_nonneg (Int.le_of_lt hy) g
    rcases (show y / gc x y = 0 ∨ 0 < y / gc x y by omega) with h | h
    · rw [h, Int.zero_mul] at s
      omega
    · exact h
  have := Int.mul_le_mul_of_nonneg_right (show 1 ≤ y / gc x y by omega) g
  rw [s.2] at this
  omega
theorem gcd_Gcd_l (n : Nat) : ∀ A B : Int, B.toNat ≤ n → 0 ≤ A → 0 ≤ B → bl A ≤ 64000 → bl B ≤ 64000 → Ev (fun k => gcd_Gcd.l0 k (dg A) (dg B)) (dg (gc A B)) := by
  have low : ∀ A B : Int, 0 ≤ A → 0 ≤ B → bl A ≤ 64000 → bl B ≤ 64000 → ¬ ((dg B).length : Int) > 1 → Ev (fun k => gcd_Gcd.l0 k (dg A) (dg B)) (dg (gc A B)) := by
    intro A B hA hB bA bB hl
    have wA : Wl (dg A) := Wl_dg (by omega)
    have wB : Wl (dg B) := Wl_dg (by omega)
    have hlt := lt_Wp_dg hB
    have hle := Wp_le (show (dg B).length ≤ 1 by omega)
    have hW : Wp 1 = 18446744073709551616 := by decide
    have hB1 : B < 18446744073709551616 := by omega
    have N := nat_Word_c wB
    rw [nv_dg hB, if_pos hB1] at N
    refine Ev.step (fun k => gcd_Gcd.l0.eq_2 ..) (Ev.ifn hl (Ev.bind N ?_))
    by_cases hz : B = 0
    · refine Ev.ifp hz (Ev.same ?_)
      rw [hz, gc_zero hA]
    · have D := quot_Word_c wA (d := B) (by omega) hB1
      rw [nv_dg hA] at D
      have r0 := Int.emod_nonneg A hz
      have r1 := Int.emod_lt_of_pos A (show 0 < B by omega)
      have W := gcd_words_l (A % B).toNat B (A % B) (Nat.le_refl _) hB r0
      rw [gc_mod hA hB] at W
      have g0 := gc_nonneg A B
      have g1 := gc_le_right hA (show 0 < B by omega)
      exact Ev.ifn hz (Ev.bind D (Ev.bind W (Ev.bind (nat_Of_c (x := gc A B) ⟨g0, by omega⟩) (Ev.same rfl))))
  induction n with
  | zero =>
    intro A B hn hA hB bA bB
    obtain rfl : B = 0 := by omega
    exact low A 0 hA hB bA bB (by rw [dg_zero]; simp)
  | succ n ih =>
    intro A B hn hA hB bA bB
    by_cases hl : ((dg B).length : Int) > 1
    · have hz : B ≠ 0 := fun k => by rw [k, dg_zero] at hl; simp at hl
      have wA : Wl (dg A) := Wl_dg (by omega)
      have wB : Wl (dg B) := Wl_dg (by omega)
      have lA := dg_len_bl A
      have D := quot_Div_c wA wB (by omega)
      rw [nv_dg hA, nv_dg hB, if_neg hz] at D
      have r0 := Int.emod_nonneg A hz
      have r1 := Int.emod_lt_of_pos A (show 0 < B by omega)
      have br := bl_mono (show A % B ≤ B by omega)
      refine Ev.step (fun k => gcd_Gcd.l0.eq_2 ..) (Ev.ifp hl (Ev.bind D ?_))
      rw [← gc_mod hA hB]
      exact ih B (A % B) (by omega) hB r0 bB (by omega)
    · exact low A B hA hB bA bB hl
theorem gcd_Gcd_c {a b : List Int} (ha : Wl a) (hb : Wl b) (hla : a.length ≤ 1000) (hlb : b.length ≤ 1000) : Ev (fun k => gcd_Gcd.f k a b) (dg (gc (nv a) (nv b))) := by
  have ba := bl_nv ha.1
  have bb := bl_nv hb.1
  exact Ev.bind (nat_Trim_c ha) (Ev.bind (nat_Trim_c hb) (gcd_Gcd_l (nv b).toNat (nv a) (nv b) (Nat.le_refl _) (nv_nonneg ha.1) (nv_nonneg hb.1) (by omega) (by omega)))
theorem bl_gc {a b : Int} (ha : 0 ≤ a) (hb : 0 ≤ b) {m : Int} (h1 : bl a ≤ m) (h2 : bl b ≤ m) : bl (gc a b) ≤ m := by
  rcases (show b = 0 ∨ 0 < b by omega) with h | h
  · rw [h, gc_zero ha]; exact h1
  · have := bl_mono (gc_le_right ha h)
    omega
theorem gcd_Reduce_c {a b : List Int} (ha : Wl a) (hb : Wl b) (hla : a.length ≤ 1000) (hlb : b.length ≤ 1000) : Ev (fun k => gcd_Reduce.f k a b) (dg (nv a / gc (nv a) (nv b)), dg (nv b / gc (nv a) (nv b))) := by
  have na := nv_nonneg ha.1
  have nb := nv_nonneg hb.1
  have ba := bl_nv ha.1
  have bb := bl_nv hb.1
  refine Ev.bind (gcd_Gcd_c ha hb hla hlb) ?_
  have g0 := gc_nonneg (nv a) (nv b)
  have bg := bl_gc na nb (m := 64000) (by omega) (by omega)
  have wg : Wl (dg (gc (nv a) (nv b))) := Wl_dg (by omega)
  by_cases hz : gc (nv a) (nv b) = 0
  · rw [hz, Int.ediv_zero, Int.ediv_zero]
    exact Ev.ifp rfl (Ev.same rfl)
  · refine Ev.ifn (fun k => hz ((dg_len_zero g0).1 (by omega))) ?_
    have D1 := quot_Div_c ha wg (by omega)
    have D2 := quot_Div_c hb wg (by omega)
    rw [nv_dg g0, if_neg hz] at D1 D2
    exact Ev.bind D1 (Ev.bind D2 (Ev.same rfl))
theorem gcd_Coprime_c {a b : List Int} (ha : Wl a) (hb : Wl b) (hla : a.length ≤ 1000) (hlb : b.length ≤ 1000) : Ev (fun k => gcd_Coprime.f k a b) (decide (gc (nv a) (nv b) = 1)) := by
  have na := nv_nonneg ha.1
  have nb := nv_nonneg hb.1
  have ba := bl_nv ha.1
  have bb := bl_nv hb.1
  have g0 := gc_nonneg (nv a) (nv b)
  have bg := bl_gc na nb (m := 64000) (by omega) (by omega)
  have C := nat_Cmp_c (a := dg (gc (nv a) (nv b))) (b := dg 1) (Wl_dg (by omega)) (Wl_dg (by decide))
  rw [nv_dg g0, nv_dg (by omega)] at C
  refine Ev.bind (gcd_Gcd_c ha hb hla hlb) (Ev.bind (nat_Of_c (x := 1) ⟨by omega, by omega⟩) (Ev.bind C (Ev.same ?_)))
  congr 1
  by_cases h : gc (nv a) (nv b) = 1
  · rw [h]; rfl
  · rw [decide_eq_false h, beq_eq_false_iff_ne]
    unfold cmpI
    split
    · omega
    · split <;> omega
end Go.Proofs.Ytldcgclbgbhffaa.M
