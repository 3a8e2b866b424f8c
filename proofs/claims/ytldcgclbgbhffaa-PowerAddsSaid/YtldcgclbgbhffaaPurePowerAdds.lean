/- The product of two powers of a right number of up to two words is its power to the sum. -/
import Derived.Test.YtldcgclbgbhffaaCCb
import Derived.Test.YtldcgclbgbhffaaFgradinelaw08PowerAdds
namespace Go.Proofs.Ytldcgclbgbhffaa.Pure
open Go.RowKit Go.Proofs.Ytldcgclbgbhffaa.P Go.Proofs.Ytldcgclbgbhffaa.M Go.Proofs.YtldcgclbgbhffaaW.PrintWords Go.Proofs.YtldcgclbgbhffaaW.PrintLast Go.Proofs.YtldcgclbgbhffaaW.PrintMore

def PowerAddsS : Prop := ∀ (s : Bool) (a b : List Int) (m n : Int), a.length ≤ maxLen → a.length * 8 ≤ 140737488351232 → (∀ x ∈ a, (Lit.int .u64 x).wf = true) → b.length ≤ maxLen → b.length * 8 ≤ 140737488351232 → (∀ x ∈ b, (Lit.int .u64 x).wf = true) → (Lit.int .i64 m).wf = true → (Lit.int .i64 n).wf = true → ∃ k, gradinelaw08_PowerAdds.f k s a b m n = some true
def pn (S D n : Int) : Int := if n < 0 then IS S D ^ (-n).toNat else S ^ n.toNat
def pd (S D n : Int) : Int := if n < 0 then ab S ^ (-n).toNat else D ^ n.toNat
theorem IS_S (S D : Int) : IS S D * S = D * ab S := by
  unfold IS sgI ab
  by_cases h : S < 0
  · rw [decide_eq_true h, if_pos rfl, if_pos h, Int.neg_mul, Int.mul_neg]
  · rw [decide_eq_false h, if_neg Bool.false_ne_true, if_neg h]
theorem IS_pow (S D : Int) (m : Nat) : IS S D ^ m * S ^ m = D ^ m * ab S ^ m := by rw [← Int.mul_pow, IS_S, Int.mul_pow]
/-- The law of powers, in whole numbers. -/
theorem adds1 (S D : Int) (m t : Nat) : S ^ (m + t) * IS S D ^ m * D ^ t = S ^ t * (D ^ (m + t) * ab S ^ m) := by
  have h := IS_pow S D m
  rw [Int.pow_add, Int.pow_add]
  calc S ^ m * S ^ t * IS S D ^ m * D ^ t = IS S D ^ m * S ^ m * (S ^ t * D ^ t) := by ac_rfl
    _ = D ^ m * ab S ^ m * (S ^ t * D ^ t) := by rw [h]
    _ = S ^ t * (D ^ m * D ^ t * ab S ^ m) := by ac_rfl
theorem adds2 (S D : Int) (m t : Nat) : S ^ m * IS S D ^ (m + t) * ab S ^ t = IS S D ^ t * (D ^ m * ab S ^ (m + t)) := by
  have h := IS_pow S D m
  rw [Int.pow_add, Int.pow_add]
  calc S ^ m * (IS S D ^ m * IS S D ^ t) * ab S ^ t = IS S D ^ m * S ^ m * (IS S D ^ t * ab S ^ t) := by ac_rfl
    _ = D ^ m * ab S ^ m * (IS S D ^ t * ab S ^ t) := by rw [h]
    _ = IS S D ^ t * (D ^ m * (ab S ^ m * ab S ^ t)) := by ac_rfl
theorem adds_one (S D : Int) {a b : Int} (ha : 0 ≤ a) (hb : b < 0) : pn S D a * pn S D b * pd S D (a + b) = pn S D (a + b) * (pd S D a * pd S D b) := by
  unfold pn pd
  rw [if_neg (show ¬ a < 0 by omega), if_pos hb, if_neg (show ¬ a < 0 by omega), if_pos hb]
  by_cases h : a + b < 0
  · rw [if_pos h, if_pos h]
    have e : (-b).toNat = a.toNat + (-(a + b)).toNat := by omega
    rw [e]
    exact adds2 S D _ _
  · rw [if_neg h, if_neg h]
    have e : a.toNat = (-b).toNat + (a + b).toNat := by omega
    rw [e]
    exact adds1 S D _ _
theorem adds_all (S D a b : Int) : pn S D a * pn S D b * pd S D (a + b) = pn S D (a + b) * (pd S D a * pd S D b) := by
  by_cases ha : a < 0
  · by_cases hb : b < 0
    · unfold pn pd
      rw [if_pos ha, if_pos hb, if_pos ha, if_pos hb, if_pos (show a + b < 0 by omega), if_pos (show a + b < 0 by omega), show (-(a + b)).toNat = (-a).toNat + (-b).toNat by omega, Int.pow_add, Int.pow_add]
    · have := adds_one S D (a := b) (b := a) (by omega) ha
      rw [Int.add_comm b a, Int.mul_comm (pn S D b), Int.mul_comm (pd S D b)] at this
      exact this
  · by_cases hb : b < 0
    · exact adds_one S D (by omega) hb
    · unfold pn pd
      rw [if_neg ha, if_neg hb, if_neg ha, if_neg hb, if_neg (show ¬ a + b < 0 by omega), if_neg (show ¬ a + b < 0 by omega), show (a + b).toNat = a.toNat + b.toNat by omega, Int.pow_add, Int.pow_add]
theorem PW_val {S D n : Int} (h : -64 ≤ n ∧ n ≤ 64) (hz : n < 0 → S ≠ 0) : PW S D n = val (Rq (pn S D n) (pd S D n)) := by
  unfold PW pn pd
  rw [if_neg (by omega)]
  by_cases hn : n < 0
  · rw [if_pos hn, if_pos hn, if_pos hn, if_neg (hz hn)]
  · rw [if_neg hn, if_neg hn, if_neg hn]
theorem Fb_pw {S D n : Int} (F : Fb 128 S D) (h : -64 ≤ n ∧ n ≤ 64) (hz : n < 0 → S ≠ 0) : Fb 8193 (pn S D n) (pd S D n) := by
  unfold pn pd
  by_cases hn : n < 0
  · rw [if_pos hn, if_pos hn]
    exact Fb_pow (Fb_inv F (hz hn)) (by omega) (by omega)
  · rw [if_neg hn, if_neg hn]
    exact Fb_pow F (by omega) (by omega)
theorem Fb_pw20 {S D n : Int} (F : Fb 128 S D) (c1 : ¬ n < -20) (c2 : ¬ n > 20) (hz : n < 0 → S ≠ 0) : bl (ab (pn S D n)) ≤ 2561 ∧ bl (pd S D n) ≤ 2561 := by
  have key : ∀ (x : Int) (m : Nat), 0 ≤ x → bl x ≤ 128 → m ≤ 20 → bl (x ^ m) ≤ 2561 := fun x m h0 h1 h2 => by
    have := bl_pow h0 m
    have h2 : (m : Int) * bl x ≤ 20 * 128 := Int.mul_le_mul (by omega) h1 (bl_nonneg x) (by omega)
    omega
  unfold pn pd
  by_cases hn : n < 0
  · have G := Fb_inv F (hz hn)
    rw [if_pos hn, if_pos hn, ab_pow]
    exact ⟨key _ _ (ab_nonneg _) G.2.1 (by omega), key _ _ (ab_nonneg _) G.2.2 (by omega)⟩
  · rw [if_neg hn, if_neg hn, ab_pow]
    exact ⟨key _ _ (ab_nonneg _) F.2.1 (by omega), key _ _ (Int.le_of_lt F.1) F.2.2 (by omega)⟩
theorem PowerAdds : PowerAddsS := by
  intro s a b m n _ _ ha _ _ hb hm hn
  have ha : Ws a := fun y hy => wf_u64 (ha y hy)
  have hb : Ws b := fun y hy => wf_u64 (hb y hy)
  have hm := wf_i64 hm
  have hn := wf_i64 hn
  obtain ⟨r, R, hr⟩ := law08_right_c s ha hb (n := 2) (by omega)
  suffices h : Ev (fun k => gradinelaw08_PowerAdds.f k s a b m n) true by
    obtain ⟨m, h⟩ := h
    exact ⟨m, h m (Nat.le_refl m)⟩
  have out : Ev (fun k => gradinelaw08_PowerAdds.j0 k m n true s a b) true := Ev.eqv (fun k => gradinelaw08_PowerAdds.j0.eq_1 ..) (Ev.ifp rfl (Ev.bind law08_same_c (Ev.same rfl)))
  refine Ev.bind R ?_
  by_cases h : r = true
  · obtain ⟨S, D, e, F⟩ := hr h
    obtain ⟨es, ea, eb⟩ : s = (Rq S D).1 ∧ a = (Rq S D).2.1 ∧ b = (Rq S D).2.2 := by rw [← e]; exact ⟨rfl, rfl, rfl⟩
    refine Ev.ifp h ?_
    by_cases c1 : m < -20
    · exact Ev.ifp c1 out
    refine Ev.ifn c1 ?_
    by_cases c2 : m > 20
    · exact Ev.ifp c2 out
    refine Ev.ifn c2 ?_
    by_cases c3 : n < -20
    · exact Ev.ifp c3 out
    refine Ev.ifn c3 ?_
    by_cases c4 : n > 20
    · exact Ev.ifp c4 out
    refine Ev.ifn c4 ?_
    have main : (m < 0 → S ≠ 0) → (n < 0 → S ≠ 0) → Ev (fun k => gradinelaw08_PowerAdds.j0 k m n false s a b) true := fun zm zn => by
      have w : wrap64 (m + n) = m + n := w64_id (by omega) (by omega)
      have za : m + n < 0 → S ≠ 0 := fun q => by
        by_cases hq : m < 0
        · exact zm hq
        · exact zn (by omega)
      have P1 := power_Pow_c F (by omega) m (by omega)
      have P2 := power_Pow_c F (by omega) n (by omega)
      have P3 := power_Pow_c F (by omega) (wrap64 (m + n)) (by omega)
      rw [w] at P3
      rw [PW_val (by omega) zm] at P1
      rw [PW_val (by omega) zn] at P2
      rw [PW_val (by omega) za] at P3
      have F1 := Fb_pw (n := m) F (by omega) zm
      have F2 := Fb_pw (n := n) F (by omega) zn
      have F3 := Fb_pw (n := m + n) F (by omega) za
      have f1 : Fb 2561 (pn S D m) (pd S D m) := by
        have k := F1.1
        exact ⟨k, Fb_pw20 F c1 c2 zm⟩
      have f2 : Fb 2561 (pn S D n) (pd S D n) := by
        have k := F2.1
        exact ⟨k, Fb_pw20 F c3 c4 zn⟩
      have M := rat_Mul_c (Fb_fit F1 (by omega)) (Fb_fit F2 (by omega))
      have Q := same_yes (Fb_fit (Fb_mul f1 f2) (by omega)) F3.1 (adds_all S D m n)
      rw [es, ea, eb]
      rw [← w] at P3 Q
      exact Ev.eqv (fun k => gradinelaw08_PowerAdds.j0.eq_1 ..) (Ev.ifn Bool.false_ne_true (Ev.bind P1 (Ev.bind P2 (Ev.bind P3 (Ev.ifp rfl (Ev.ifp rfl (Ev.ifp rfl (Ev.bind M (Ev.bind Q (Ev.ifp rfl (Ev.bind law08_same_c (Ev.same rfl))))))))))))
    have Z := ref07_Zero_c (S := S) F.1
    rw [← es, ← ea, ← eb] at Z
    refine Ev.bindc Z ?_
    by_cases hz : S = 0
    · refine Ev.ifp (decide_eq_true hz) ?_
      by_cases d1 : m < 0
      · exact Ev.ifp d1 out
      · refine Ev.ifn d1 ?_
        by_cases d2 : n < 0
        · rw [decide_eq_true d2]; exact out
        · rw [decide_eq_false d2]; exact main (fun q => absurd q d1) (fun q => absurd q d2)
    · exact Ev.ifn (by rw [decide_eq_true_eq]; exact hz) (main (fun _ => hz) (fun _ => hz))
  · exact Ev.ifn h out
end Go.Proofs.Ytldcgclbgbhffaa.Pure
