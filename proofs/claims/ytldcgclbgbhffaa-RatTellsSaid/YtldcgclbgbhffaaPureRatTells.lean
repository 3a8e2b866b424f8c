/- Any sum, difference, product and quotient, and how any two numbers stand to one another: for right numbers of up to 6 words. -/
import Derived.Test.YtldcgclbgbhffaaFgradinelaw07same
import Derived.Test.YtldcgclbgbhffaaCCb
import Derived.Test.YtldcgclbgbhffaaFgradinelaw07RatTells
namespace Go.Proofs.Ytldcgclbgbhffaa.Pure
open Go.RowKit Go.Proofs.Ytldcgclbgbhffaa.P Go.Proofs.Ytldcgclbgbhffaa.M Go.Proofs.YtldcgclbgbhffaaW.PrintWords Go.Proofs.YtldcgclbgbhffaaW.PrintLast Go.Proofs.YtldcgclbgbhffaaW.PrintMore

def RatTellsS : Prop := ∀ (s : Bool) (a b : List Int) (t : Bool) (c d : List Int), a.length ≤ maxLen → a.length * 8 ≤ 140737488351232 → (∀ x ∈ a, (Lit.int .u64 x).wf = true) → b.length ≤ maxLen → b.length * 8 ≤ 140737488351232 → (∀ x ∈ b, (Lit.int .u64 x).wf = true) → c.length ≤ maxLen → c.length * 8 ≤ 140737488351232 → (∀ x ∈ c, (Lit.int .u64 x).wf = true) → d.length ≤ maxLen → d.length * 8 ≤ 140737488351232 → (∀ x ∈ d, (Lit.int .u64 x).wf = true) → ∃ k, gradinelaw07_RatTells.f k s a b t c d = some true
theorem RatTells : RatTellsS := by
  intro s a b t c d _ _ ha _ _ hb _ _ hc _ _ hd
  have ha : Ws a := fun y hy => wf_u64 (ha y hy)
  have hb : Ws b := fun y hy => wf_u64 (hb y hy)
  have hc : Ws c := fun y hy => wf_u64 (hc y hy)
  have hd : Ws d := fun y hy => wf_u64 (hd y hy)
  refine Ev.rounds ?_
  have out : Ev (fun k => (gradinelaw07_same.f k).bind fun t => some t) true := Ev.bind law07_same_c (Ev.same rfl)
  obtain ⟨r1, h1, g1⟩ := law07_right_c s ha hb
  obtain ⟨r2, h2, g2⟩ := law07_right_c t hc hd
  have no : Ev (fun k => gradinelaw07_RatTells.j0 k true s a b t c d) true := Ev.eqv (fun k => gradinelaw07_RatTells.j0.eq_1 ..) (Ev.ifp rfl out)
  refine Ev.bind h1 ?_
  cases r1
  · exact Ev.ifn (by decide) no
  refine Ev.ifp rfl (Ev.bind h2 ?_)
  cases r2
  · exact no
  obtain ⟨S, D, e1, f1⟩ := g1 rfl
  obtain ⟨S', D', e2, f2⟩ := g2 rfl
  obtain ⟨rfl, rfl, rfl⟩ : s = (Rq S D).1 ∧ a = (Rq S D).2.1 ∧ b = (Rq S D).2.2 := by rw [← e1]; exact ⟨rfl, rfl, rfl⟩
  obtain ⟨rfl, rfl, rfl⟩ : t = (Rq S' D').1 ∧ c = (Rq S' D').2.1 ∧ d = (Rq S' D').2.2 := by rw [← e2]; exact ⟨rfl, rfl, rfl⟩
  have F1 := Fb_fit f1 (by omega)
  have F2 := Fb_fit f2 (by omega)
  have fs : Fit (S * D' - S' * D) (D * D') := by
    have := Fb_fit (Fb_add f1 (Fb_neg f2)) (by omega)
    rw [Int.neg_mul] at this
    exact this
  have tail : Ev (fun k => gradinelaw07_RatTells.j1 k (Rq S D).1 (Rq S D).2.1 (Rq S D).2.2 (Rq S' D').1 (Rq S' D').2.1 (Rq S' D').2.2) true := by
    refine Ev.eqv (fun k => gradinelaw07_RatTells.j1.eq_1 ..) ?_
    refine Ev.bind (rat_Add_c F1 F2) (Ev.bind (ref07_Add_c F1 F2) (Ev.bind (same_self07 (Fb_fit (Fb_add f1 f2) (by omega))) (Ev.ifp rfl ?_)))
    refine Ev.bind (rat_Sub_c F1 F2) (Ev.bind (ref07_Sub_c F1 F2) (Ev.bind (same_self07 fs) (Ev.ifp rfl ?_)))
    refine Ev.bind (rat_Mul_c F1 F2) (Ev.bind (ref07_Mul_c F1 F2) (Ev.bind (same_self07 (Fb_fit (Fb_mul f1 f2) (by omega))) ?_))
    refine Ev.eqv (fun k => gradinelaw07_RatTells.j2.eq_1 ..) (Ev.ifn (by decide) ?_)
    refine Ev.bind (rat_Neg_c F1) (Ev.bind (ref07_Neg_c F1) (Ev.bind (same_self07 (Fit_neg F1)) (Ev.ifp rfl ?_)))
    refine Ev.bind (rat_Cmp_c F1 F2 fs) (Ev.bind (ref07_Cmp_c F1 F2) (Ev.ifp rfl ?_))
    exact Ev.bind (rat_Sgn_c F1) (Ev.bindc (ref07_Sign_c F1.1) (Ev.ifp rfl out))
  refine Ev.eqv (fun k => gradinelaw07_RatTells.j0.eq_1 ..) (Ev.ifn (by decide) ?_)
  refine Ev.bind (rat_Div_c F1 F2) (Ev.bind (rat_Inv_c F2) (Ev.bindc (ref07_Zero_c F2.1) ?_))
  by_cases hz : S' = 0
  · rw [if_pos hz, if_pos hz, decide_eq_true hz]
    have SS := ref07_Same_c (s := false) (s' := false) (a := []) (b := []) (a' := []) (b' := []) (by decide) (by decide)
    rw [decide_eq_true rfl] at SS
    exact Ev.ifp rfl (Ev.ifp rfl (Ev.ifp rfl (Ev.bind SS (Ev.ifp rfl (Ev.bind SS (Ev.ifp rfl tail))))))
  · rw [if_neg hz, if_neg hz, decide_eq_false hz]
    have i1 := Fb_inv f2 hz
    have o1 : Fit 1 1 := ⟨by decide, by decide, by decide⟩
    have DD := ref07_Div_c o1 F2 hz
    rw [Int.one_mul, Int.one_mul] at DD
    refine Ev.ifn (by decide) (Ev.ifp rfl (Ev.ifp rfl ?_))
    refine Ev.bind (ref07_Div_c F1 F2 hz) (Ev.bind (same_self07 (Fb_fit (Fb_mul f1 i1) (by omega))) (Ev.ifp rfl ?_))
    exact Ev.bind (ref07_Of_c (by omega) (by omega)) (Ev.bind DD (Ev.bind (same_self07 (Fit_inv F2 hz)) (Ev.ifp rfl tail)))
end Go.Proofs.Ytldcgclbgbhffaa.Pure
