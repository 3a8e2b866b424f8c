/- Sums and products of numbers in any order, products part by part, and back, word by word: for right numbers of up to 6 words. -/
import Derived.Test.YtldcgclbgbhffaaFgradinelaw07same
import Derived.Test.YtldcgclbgbhffaaBrat
import Derived.Test.YtldcgclbgbhffaaS07
import Derived.Test.YtldcgclbgbhffaaS07r
import Derived.Test.YtldcgclbgbhffaaFgradinelaw07RatField
namespace Go.Proofs.Ytldcgclbgbhffaa.Pure
open Go.RowKit Go.Proofs.Ytldcgclbgbhffaa.P Go.Proofs.Ytldcgclbgbhffaa.M Go.Proofs.YtldcgclbgbhffaaW.PrintWords Go.Proofs.YtldcgclbgbhffaaW.PrintLast Go.Proofs.YtldcgclbgbhffaaW.PrintMore

def RatFieldS : Prop := ∀ (s : Bool) (a b : List Int) (t : Bool) (c d : List Int) (u : Bool) (e f : List Int), a.length ≤ maxLen → a.length * 8 ≤ 140737488351232 → (∀ x ∈ a, (Lit.int .u64 x).wf = true) → b.length ≤ maxLen → b.length * 8 ≤ 140737488351232 → (∀ x ∈ b, (Lit.int .u64 x).wf = true) → c.length ≤ maxLen → c.length * 8 ≤ 140737488351232 → (∀ x ∈ c, (Lit.int .u64 x).wf = true) → d.length ≤ maxLen → d.length * 8 ≤ 140737488351232 → (∀ x ∈ d, (Lit.int .u64 x).wf = true) → e.length ≤ maxLen → e.length * 8 ≤ 140737488351232 → (∀ x ∈ e, (Lit.int .u64 x).wf = true) → f.length ≤ maxLen → f.length * 8 ≤ 140737488351232 → (∀ x ∈ f, (Lit.int .u64 x).wf = true) → ∃ k, gradinelaw07_RatField.f k s a b t c d u e f = some true
theorem RatField : RatFieldS := by
  intro s a b t c d u e f _ _ ha _ _ hb _ _ hc _ _ hd _ _ he _ _ hf
  have ha : Ws a := fun y hy => wf_u64 (ha y hy)
  have hb : Ws b := fun y hy => wf_u64 (hb y hy)
  have hc : Ws c := fun y hy => wf_u64 (hc y hy)
  have hd : Ws d := fun y hy => wf_u64 (hd y hy)
  have he : Ws e := fun y hy => wf_u64 (he y hy)
  have hf : Ws f := fun y hy => wf_u64 (hf y hy)
  refine Ev.rounds ?_
  have out : Ev (fun k => (gradinelaw07_same.f k).bind fun t => some t) true := Ev.bind law07_same_c (Ev.same rfl)
  obtain ⟨r1, h1, g1⟩ := law07_right_c s ha hb
  obtain ⟨r2, h2, g2⟩ := law07_right_c t hc hd
  obtain ⟨r3, h3, g3⟩ := law07_right_c u he hf
  have no : Ev (fun k => gradinelaw07_RatField.j0 k true s a b t c d u e f) true := Ev.eqv (fun k => gradinelaw07_RatField.j0.eq_1 ..) (Ev.ifp rfl out)
  refine Ev.bind h1 ?_
  cases r1
  · exact Ev.ifn (by decide) no
  refine Ev.ifp rfl (Ev.bind h2 ?_)
  cases r2
  · exact Ev.ifn (by decide) no
  refine Ev.ifp rfl (Ev.bind h3 ?_)
  cases r3
  · exact no
  obtain ⟨S, D, e1, f1⟩ := g1 rfl
  obtain ⟨S', D', e2, f2⟩ := g2 rfl
  obtain ⟨T, E, e3, f3⟩ := g3 rfl
  obtain ⟨rfl, rfl, rfl⟩ : s = (Rq S D).1 ∧ a = (Rq S D).2.1 ∧ b = (Rq S D).2.2 := by rw [← e1]; exact ⟨rfl, rfl, rfl⟩
  obtain ⟨rfl, rfl, rfl⟩ : t = (Rq S' D').1 ∧ c = (Rq S' D').2.1 ∧ d = (Rq S' D').2.2 := by rw [← e2]; exact ⟨rfl, rfl, rfl⟩
  obtain ⟨rfl, rfl, rfl⟩ : u = (Rq T E).1 ∧ e = (Rq T E).2.1 ∧ f = (Rq T E).2.2 := by rw [← e3]; exact ⟨rfl, rfl, rfl⟩
  have F1 := Fb_fit f1 (by omega)
  have F2 := Fb_fit f2 (by omega)
  have F3 := Fb_fit f3 (by omega)
  clear e1 e2 e3 no h1 h2 h3 g1 g2 g3 ha hb hc hd he hf
  have a12 := Fb_add f1 f2
  have a32 := Fb_add f3 f2
  have a23 := Fb_add f2 f3
  have m12 := Fb_mul f1 f2
  have m13 := Fb_mul f1 f3
  have m32 := Fb_mul f3 f2
  have A12 := Fb_fit a12 (by omega)
  have A32 := Fb_fit a32 (by omega)
  have A23 := Fb_fit a23 (by omega)
  have M12 := Fb_fit m12 (by omega)
  have M13 := Fb_fit m13 (by omega)
  have M32 := Fb_fit m32 (by omega)
  have fin : Ev (fun k => (rat_Add.f k (Rq S D).1 (Rq S D).2.1 (Rq S D).2.2 (Rq S' D').1 (Rq S' D').2.1 (Rq S' D').2.2).bind fun x => (rat_Right.f k x.1 x.2.1 x.2.2).bind fun y => if y = true then (rat_Mul.f k (Rq S D).1 (Rq S D).2.1 (Rq S D).2.2 (Rq S' D').1 (Rq S' D').2.1 (Rq S' D').2.2).bind fun x => (rat_Right.f k x.1 x.2.1 x.2.2).bind fun y => if y = true then (gradinelaw07_same.f k).bind fun t => some t else some false else some false) true :=
    Ev.bind (rat_Add_c F1 F2) (Ev.bind (rat_Right_yes A12) (Ev.ifp rfl (Ev.bind (rat_Mul_c F1 F2) (Ev.bind (rat_Right_yes M12) (Ev.ifp rfl out)))))
  refine Ev.eqv (fun k => gradinelaw07_RatField.j0.eq_1 ..) (Ev.ifn (by decide) ?_)
  refine Ev.bind (rat_Add_c F1 F2) (Ev.bind (rat_Add_c A12 F3) (Ev.bind (rat_Add_c F3 F2) (Ev.bind (rat_Add_c F1 A32) (Ev.bind (same_yes (Fb_fit (Fb_add a12 f3) (by omega)) (Fb_add f1 a32).1 (by grind)) (Ev.ifp rfl ?_)))))
  refine Ev.bind (rat_Mul_c F1 F2) (Ev.bind (rat_Mul_c M12 F3) (Ev.bind (rat_Mul_c F3 F2) (Ev.bind (rat_Mul_c F1 M32) (Ev.bind (same_yes (Fb_fit (Fb_mul m12 f3) (by omega)) (Fb_mul f1 m32).1 (by grind)) ?_))))
  refine Ev.eqv (fun k => gradinelaw07_RatField.j1.eq_1 ..) (Ev.ifn (by decide) ?_)
  refine Ev.bind (rat_Add_c F2 F3) (Ev.bind (rat_Mul_c F1 A23) (Ev.bind (rat_Mul_c F1 F2) (Ev.bind (rat_Mul_c F1 F3) (Ev.bind (rat_Add_c M12 M13) (Ev.bind (same_yes (Fb_fit (Fb_mul f1 a23) (by omega)) (Fb_add m12 m13).1 (by grind)) (Ev.ifp rfl ?_))))))
  have sb := Fb_add a12 (Fb_neg f2)
  rw [Int.neg_mul] at sb
  refine Ev.bind (rat_Add_c F1 F2) (Ev.bind (rat_Sub_c A12 F2) (Ev.bind (same_yes (Fb_fit sb (by omega)) F1.1 (by grind)) ?_))
  refine Ev.eqv (fun k => gradinelaw07_RatField.j2.eq_1 ..) (Ev.ifn (by decide) ?_)
  refine Ev.bind (rat_Mul_c F1 F2) (Ev.bind (rat_Div_c M12 F2) (Ev.bind (rat_Sgn_c F2) ?_))
  by_cases hz : S' = 0
  · rw [if_pos hz]
    have : sgnI S' = 0 := by unfold sgnI; rw [if_pos hz]
    rw [this]
    exact Ev.ifp (by decide) (Ev.ifn (by decide) fin)
  · rw [if_neg hz]
    have q : sgnI S' ≠ 0 := by unfold sgnI; rw [if_neg hz]; split <;> omega
    have iv := Fb_inv f2 hz
    have e : S * S' * IS S' D' * D = S * (D * D' * ab S') := by
      have : S' * IS S' D' = D' * ab S' := by
        unfold IS sgI ab
        by_cases k : S' < 0
        · rw [if_pos k, if_pos (decide_eq_true k)]; grind
        · rw [if_neg k, if_neg (by simp [k])]; grind
      have a1 : S * S' * IS S' D' * D = S * D * (S' * IS S' D') := by grind
      rw [a1, this]
      grind
    refine Ev.ifp (by simp [q]) (Ev.ifp rfl (Ev.bind (same_yes (Fb_fit (Fb_mul m12 iv) (by omega)) F1.1 e) (Ev.ifp rfl fin)))
end Go.Proofs.Ytldcgclbgbhffaa.Pure
