/- Numbers stand in one order, which sums keep, and products with what is above 0: for right numbers of up to 6 words. -/
import Derived.Test.YtldcgclbgbhffaaFgradinelaw07same
import Derived.Test.YtldcgclbgbhffaaS07
import Derived.Test.YtldcgclbgbhffaaS07r
import Derived.Test.YtldcgclbgbhffaaFgradinelaw07RatOrder
namespace Go.Proofs.Ytldcgclbgbhffaa.Pure
open Go.RowKit Go.Proofs.Ytldcgclbgbhffaa.P Go.Proofs.Ytldcgclbgbhffaa.M Go.Proofs.YtldcgclbgbhffaaW.PrintWords Go.Proofs.YtldcgclbgbhffaaW.PrintLast Go.Proofs.YtldcgclbgbhffaaW.PrintMore

theorem sgnI_mul {x p : Int} (hp : 0 < p) : sgnI (x * p) = sgnI x := by
  unfold sgnI
  have := neg_mul_iff x hp
  by_cases hz : x = 0
  · rw [hz, Int.zero_mul]
  · have h1 : x * p ≠ 0 := fun k => (Int.mul_eq_zero.1 k).elim hz (by omega)
    rw [if_neg hz, if_neg h1]
    by_cases hn : x < 0
    · rw [if_pos hn, if_pos (this.2 hn)]
    · rw [if_neg hn, if_neg (fun k => hn (this.1 k))]
theorem sgnI_neg (x : Int) : sgnI (-x) = -sgnI x := by unfold sgnI; split <;> split <;> (try split) <;> (try split) <;> omega
theorem sgnI_le {x : Int} : sgnI x ≤ 0 ↔ x ≤ 0 := by unfold sgnI; split <;> (try split) <;> omega
theorem sgnI_zero {x : Int} : sgnI x = 0 ↔ x = 0 := by unfold sgnI; split <;> (try split) <;> omega
theorem sgnI_range (x : Int) : -1 ≤ sgnI x ∧ sgnI x ≤ 1 := by unfold sgnI; split <;> (try split) <;> omega
theorem order_trans {S D S' D' T E : Int} (hD : 0 < D) (hD' : 0 < D') (hE : 0 < E) (h1 : S * D' - S' * D ≤ 0) (h2 : S' * E - T * D' ≤ 0) : S * E - T * D ≤ 0 := by
  have a := Int.mul_le_mul_of_nonneg_right h1 (Int.le_of_lt hE)
  have b := Int.mul_le_mul_of_nonneg_right h2 (Int.le_of_lt hD)
  have c : (S * E - T * D) * D' = (S * D' - S' * D) * E + (S' * E - T * D') * D := by grind
  rcases Int.lt_or_le 0 (S * E - T * D) with k | k
  · have := Int.mul_pos k hD'
    omega
  · exact k
def RatOrderS : Prop := ∀ (s : Bool) (a b : List Int) (t : Bool) (c d : List Int) (u : Bool) (e f : List Int), a.length ≤ maxLen → a.length * 8 ≤ 140737488351232 → (∀ x ∈ a, (Lit.int .u64 x).wf = true) → b.length ≤ maxLen → b.length * 8 ≤ 140737488351232 → (∀ x ∈ b, (Lit.int .u64 x).wf = true) → c.length ≤ maxLen → c.length * 8 ≤ 140737488351232 → (∀ x ∈ c, (Lit.int .u64 x).wf = true) → d.length ≤ maxLen → d.length * 8 ≤ 140737488351232 → (∀ x ∈ d, (Lit.int .u64 x).wf = true) → e.length ≤ maxLen → e.length * 8 ≤ 140737488351232 → (∀ x ∈ e, (Lit.int .u64 x).wf = true) → f.length ≤ maxLen → f.length * 8 ≤ 140737488351232 → (∀ x ∈ f, (Lit.int .u64 x).wf = true) → ∃ k, gradinelaw07_RatOrder.f k s a b t c d u e f = some true
theorem RatOrder : RatOrderS := by
  intro s a b t c d u e f _ _ ha _ _ hb _ _ hc _ _ hd _ _ he _ _ hf
  have ha : Ws a := fun y hy => wf_u64 (ha y hy)
  have hb : Ws b := fun y hy => wf_u64 (hb y hy)
  have hc : Ws c := fun y hy => wf_u64 (hc y hy)
  have hd : Ws d := fun y hy => wf_u64 (hd y hy)
  have he : Ws e := fun y hy => wf_u64 (he y hy)
  have hf : Ws f := fun y hy => wf_u64 (hf y hy)
  refine Ev.rounds ?_
  have out : Ev (fun k => (gradinelaw07_same.f k).bind fun t => some t) true := Ev.bind law07_same_c (Ev.same rfl)
  obtain ⟨r1, h1, g1⟩ := law07_right_c s ha hb
  obtain ⟨r2, h2, g2⟩ := law07_right_c t hc hd
  obtain ⟨r3, h3, g3⟩ := law07_right_c u he hf
  have no : Ev (fun k => gradinelaw07_RatOrder.j0 k true s a b t c d u e f) true := Ev.eqv (fun k => gradinelaw07_RatOrder.j0.eq_1 ..) (Ev.ifp rfl out)
  refine Ev.bind h1 ?_
  cases r1
  · exact Ev.ifn (by decide) no
  refine Ev.ifp rfl (Ev.bind h2 ?_)
  cases r2
  · exact Ev.ifn (by decide) no
  refine Ev.ifp rfl (Ev.bind h3 ?_)
  cases r3
  · exact no
  obtain ⟨S, D, e1, f1⟩ := g1 rfl
  obtain ⟨S', D', e2, f2⟩ := g2 rfl
  obtain ⟨T, E, e3, f3⟩ := g3 rfl
  obtain ⟨rfl, rfl, rfl⟩ : s = (Rq S D).1 ∧ a = (Rq S D).2.1 ∧ b = (Rq S D).2.2 := by rw [← e1]; exact ⟨rfl, rfl, rfl⟩
  obtain ⟨rfl, rfl, rfl⟩ : t = (Rq S' D').1 ∧ c = (Rq S' D').2.1 ∧ d = (Rq S' D').2.2 := by rw [← e2]; exact ⟨rfl, rfl, rfl⟩
  obtain ⟨rfl, rfl, rfl⟩ : u = (Rq T E).1 ∧ e = (Rq T E).2.1 ∧ f = (Rq T E).2.2 := by rw [← e3]; exact ⟨rfl, rfl, rfl⟩
  have F1 := Fb_fit f1 (by omega)
  have F2 := Fb_fit f2 (by omega)
  have F3 := Fb_fit f3 (by omega)
  clear e1 e2 e3 no h1 h2 h3 g1 g2 g3 ha hb hc hd he hf
  have fit : ∀ {n m A B A' B' : Int}, Fb n A B → Fb m A' B' → n + m + 1 ≤ 14000 → Fit (A * B' - A' * B) (B * B') := fun h h' hn => by
    have := Fb_fit (Fb_add h (Fb_neg h')) hn
    rw [Int.neg_mul] at this
    exact this
  have f12 := fit f1 f2 (by omega)
  have f21 := fit f2 f1 (by omega)
  have f23 := fit f2 f3 (by omega)
  have f13 := fit f1 f3 (by omega)
  have a13 := Fb_add f1 f3
  have a23 := Fb_add f2 f3
  have m13 := Fb_mul f1 f3
  have m23 := Fb_mul f2 f3
  have tail : Ev (fun k => gradinelaw07_RatOrder.j1 k (sgnI (S * D' - S' * D)) false (Rq S D).1 (Rq S D).2.1 (Rq S D).2.2 (Rq S' D').1 (Rq S' D').2.1 (Rq S' D').2.2 (Rq T E).1 (Rq T E).2.1 (Rq T E).2.2) true := by
    refine Ev.eqv (fun k => gradinelaw07_RatOrder.j1.eq_1 ..) (Ev.ifn (by decide) ?_)
    have e1 : sgnI ((S * E + T * D) * (D' * E) - (S' * E + T * D') * (D * E)) = sgnI (S * D' - S' * D) := by
      have : (S * E + T * D) * (D' * E) - (S' * E + T * D') * (D * E) = (S * D' - S' * D) * (E * E) := by grind
      rw [this, sgnI_mul (Int.mul_pos F3.1 F3.1)]
    refine Ev.bind (rat_Add_c F1 F3) (Ev.bind (rat_Add_c F2 F3) (Ev.bind (rat_Cmp_c (Fb_fit a13 (by omega)) (Fb_fit a23 (by omega)) (fit a13 a23 (by omega))) (Ev.ifp e1 (Ev.bind (rat_Sgn_c F3) ?_))))
    by_cases hT : sgnI T ≤ 0
    · exact Ev.ifp hT out
    · refine Ev.ifn hT (Ev.bind (rat_Mul_c F1 F3) (Ev.bind (rat_Mul_c F2 F3) (Ev.bind (rat_Cmp_c (Fb_fit m13 (by omega)) (Fb_fit m23 (by omega)) (fit m13 m23 (by omega))) (Ev.ifp ?_ out))))
      have p : 0 < T := by
        rcases Int.lt_or_le 0 T with k | k
        · exact k
        · exact absurd (sgnI_le.2 k) hT
      have : S * T * (D' * E) - S' * T * (D * E) = (S * D' - S' * D) * (T * E) := by grind
      rw [this, sgnI_mul (Int.mul_pos p F3.1)]
  refine Ev.eqv (fun k => gradinelaw07_RatOrder.j0.eq_1 ..) (Ev.ifn (by decide) ?_)
  have en : sgnI (S' * D - S * D') = -sgnI (S * D' - S' * D) := by rw [← sgnI_neg]; congr 1; omega
  have rg := sgnI_range (S * D' - S' * D)
  refine Ev.bind (rat_Cmp_c F1 F2 f12) (Ev.bind (rat_Cmp_c F2 F1 f21) (Ev.ifp ?_ (Ev.bind (same_Rq F1) (Ev.ifn ?_ ?_))))
  · rw [en, w64_id (by omega) (by omega)]; omega
  · have h0 : (sgnI (S * D' - S' * D) == 0) = decide (Rq S D = Rq S' D') := by
      have : sgnI (S * D' - S' * D) = 0 ↔ Rq S D = Rq S' D' := by rw [sgnI_zero, Rq_iff F1.1 F2.1]; omega
      by_cases k : Rq S D = Rq S' D'
      · rw [decide_eq_true k, this.2 k]; rfl
      · rw [decide_eq_false k]; exact beq_eq_false_iff_ne.2 (fun q => k (this.1 q))
    rw [h0]
    simp
  · by_cases k1 : sgnI (S * D' - S' * D) ≤ 0
    · refine Ev.ifp k1 (Ev.bind (rat_Cmp_c F2 F3 f23) ?_)
      by_cases k2 : sgnI (S' * E - T * D') ≤ 0
      · refine Ev.ifp k2 (Ev.bind (rat_Cmp_c F1 F3 f13) ?_)
        have k3 := sgnI_le.2 (order_trans F1.1 F2.1 F3.1 (sgnI_le.1 k1) (sgnI_le.1 k2))
        rw [decide_eq_false (by omega)]
        exact tail
      · exact Ev.ifn k2 tail
    · exact Ev.ifn k1 tail
end Go.Proofs.Ytldcgclbgbhffaa.Pure
