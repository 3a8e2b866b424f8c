/- Powers, bits, absolute values and floors of any right number of up to three words are as the document says. -/
import Derived.Test.YtldcgclbgbhffaaBgradineref08
import Derived.Test.YtldcgclbgbhffaaBpower
import Derived.Test.YtldcgclbgbhffaaCCb
import Derived.Test.YtldcgclbgbhffaaFgradinelaw08PowerTells
namespace Go.Proofs.Ytldcgclbgbhffaa.Pure
open Go.RowKit Go.Proofs.Ytldcgclbgbhffaa.P Go.Proofs.Ytldcgclbgbhffaa.M Go.Proofs.YtldcgclbgbhffaaW.PrintWords Go.Proofs.YtldcgclbgbhffaaW.PrintLast Go.Proofs.YtldcgclbgbhffaaW.PrintMore

def PowerTellsS : Prop := ∀ (s : Bool) (a b : List Int) (n : Int), a.length ≤ maxLen → a.length * 8 ≤ 140737488351232 → (∀ x ∈ a, (Lit.int .u64 x).wf = true) → b.length ≤ maxLen → b.length * 8 ≤ 140737488351232 → (∀ x ∈ b, (Lit.int .u64 x).wf = true) → (Lit.int .i64 n).wf = true → ∃ k, gradinelaw08_PowerTells.f k s a b n = some true
theorem PW_len {S D : Int} (h : Fb 192 S D) (n : Int) : (PW S D n).2.1.length ≤ 1000000 ∧ (PW S D n).2.2.1.length ≤ 1000000 := by
  unfold PW
  split
  · exact ⟨by simp, by simp⟩
  · split
    · split
      · exact ⟨by simp, by simp⟩
      · rename_i h1 h2 h3
        have F := Fb_pow (Fb_inv h h3) (m := (-n).toNat) (by omega) (by omega)
        have := Rq_len (Fb_fit F (by omega))
        exact ⟨by show (Rq _ _).2.1.length ≤ _; omega, by show (Rq _ _).2.2.length ≤ _; omega⟩
    · have F := Fb_pow h (m := n.toNat) (by omega) (by omega)
      have := Rq_len (Fb_fit F (by omega))
      exact ⟨by show (Rq _ _).2.1.length ≤ _; omega, by show (Rq _ _).2.2.length ≤ _; omega⟩
theorem PowerTells : PowerTellsS := by
  intro s a b n _ _ ha _ _ hb hn
  have ha : Ws a := fun y hy => wf_u64 (ha y hy)
  have hb : Ws b := fun y hy => wf_u64 (hb y hy)
  obtain ⟨r, R, hr⟩ := law08_right_c s ha hb (n := 3) (by omega)
  suffices h : Ev (fun k => gradinelaw08_PowerTells.f k s a b n) true by
    obtain ⟨m, h⟩ := h
    exact ⟨m, h m (Nat.le_refl m)⟩
  refine Ev.bind R ?_
  by_cases h : r = true
  · obtain ⟨S, D, e, F⟩ := hr h
    obtain ⟨N, E, e1, e2, e3, e4, e5, e6, e7, e8, e9⟩ := rq_parts F
    obtain ⟨es, ea, eb⟩ : s = (Rq S D).1 ∧ a = (Rq S D).2.1 ∧ b = (Rq S D).2.2 := by rw [← e]; exact ⟨rfl, rfl, rfl⟩
    rw [es, ea, eb]
    have L := PW_len F n
    have P1 := power_Pow_c F (by omega) n (wf_i64 hn)
    have P2 := ref08_Pow_c F (by omega) n (wf_i64 hn)
    have Q1 := same07 (q := ((PW S D n).1, (PW S D n).2.1, (PW S D n).2.2.1)) L.1 L.2
    have B1 : Ev (fun k => power_Bits.f k (Rq S D).1 (Rq S D).2.1 (Rq S D).2.2) (mx (bl N) (bl E)) := by
      rw [e1]; exact power_Bits_c _ e2 (by omega) (by omega) (by omega)
    have B2 : Ev (fun k => gradineref08_Bits.f k (Rq S D).1 (Rq S D).2.1 (Rq S D).2.2) (mx (bl N) (bl E)) := by
      rw [e1]; exact ref08_Bits_c _ e2 (by omega) (by omega) (by omega)
    have A1 := power_Abs_c (Fb_fit F (by omega))
    have A2 := ref08_Abs_c F (by omega)
    have FA : Fit (ab S) D := ⟨F.1, by rw [ab_ab]; have := F.2.1; omega, by have := F.2.2; omega⟩
    have Q2 := same_self07 FA
    have C1 := power_Floor_c F (by omega)
    have C2 := ref08_Floor_c F (by omega)
    have FF : Fit (S / D) 1 := Fit_floor F (by omega)
    have Q3 := same_self07 FF
    refine Ev.ifp h (Ev.bind P1 (Ev.bind P2 (Ev.ifp rfl (Ev.bind Q1 (Ev.ifp rfl (Ev.bind B1 (Ev.bind B2 (Ev.eqv (fun k => gradinelaw08_PowerTells.j0.eq_1 ..) (Ev.ifn ?_ (Ev.bind A1 (Ev.bind A2 (Ev.bind Q2 (Ev.ifp rfl (Ev.bind C1 (Ev.bind C2 (Ev.bind Q3 (Ev.ifp rfl (Ev.bind law08_same_c (Ev.same rfl)))))))))))))))))))
    simp
  · exact Ev.ifn h (Ev.bind law08_same_c (Ev.same rfl))
end Go.Proofs.Ytldcgclbgbhffaa.Pure
