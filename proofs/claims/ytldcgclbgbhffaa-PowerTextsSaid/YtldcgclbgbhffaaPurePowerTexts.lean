/- Any text is read, and any right number of up to eight words is shown, as the document says. -/
import Derived.Test.YtldcgclbgbhffaaCCb
import Derived.Test.YtldcgclbgbhffaaFgradinelaw08PowerTexts
namespace Go.Proofs.Ytldcgclbgbhffaa.Pure
open Go.RowKit Go.Proofs.Ytldcgclbgbhffaa.P Go.Proofs.Ytldcgclbgbhffaa.M Go.Proofs.YtldcgclbgbhffaaW.PrintWords Go.Proofs.YtldcgclbgbhffaaW.PrintLast Go.Proofs.YtldcgclbgbhffaaW.PrintMore

def PowerTextsS : Prop := ∀ (s : Bool) (a b : List Int) (t : ByteArray), a.length ≤ maxLen → a.length * 8 ≤ 140737488351232 → (∀ x ∈ a, (Lit.int .u64 x).wf = true) → b.length ≤ maxLen → b.length * 8 ≤ 140737488351232 → (∀ x ∈ b, (Lit.int .u64 x).wf = true) → t.size ≤ 140737488351232 → ∃ k, gradinelaw08_PowerTexts.f k s a b t = some true
theorem PR_len (neg : Bool) (l : List Int) : (PR neg l).2.1.length ≤ 1000000 ∧ (PR neg l).2.2.1.length ≤ 1000000 := by
  unfold PR
  split
  · split
    · split
      · exact ⟨by simp, by simp⟩
      · rename_i h1 h2 h3
        have oa := RD_ok (hd l)
        have ob := RD_ok (tl l)
        have na := nv_nonneg oa.1.1
        have nb := nv_nonneg ob.1.1
        have ba := bl_nv oa.1.1
        have bb := bl_nv ob.1.1
        have e : ab (sgI neg (nv (RD (hd l)).1)) = nv (RD (hd l)).1 := by unfold ab sgI; cases neg <;> simp <;> omega
        have F : Fit (sgI neg (nv (RD (hd l)).1)) (nv (RD (tl l)).1) := ⟨by omega, by rw [e]; omega, by omega⟩
        have := Rq_len F
        exact ⟨by show (Rq _ _).2.1.length ≤ _; omega, by show (Rq _ _).2.2.length ≤ _; omega⟩
    · exact ⟨by simp, by simp⟩
  · exact ⟨by simp, by simp⟩
theorem PowerTexts : PowerTextsS := by
  intro s a b t _ _ ha _ _ hb _
  have ha : Ws a := fun y hy => wf_u64 (ha y hy)
  have hb : Ws b := fun y hy => wf_u64 (hb y hy)
  obtain ⟨r, R, hr⟩ := law08_right_c s ha hb (n := 8) (by omega)
  suffices h : Ev (fun k => gradinelaw08_PowerTexts.f k s a b t) true by
    obtain ⟨m, h⟩ := h
    exact ⟨m, h m (Nat.le_refl m)⟩
  refine Ev.bind R ?_
  by_cases h : r = true
  · refine Ev.ifp h (Ev.eqv (fun k => gradinelaw08_PowerTexts.j0.eq_1 ..) ?_)
    by_cases hs : (t.size : Int) > 1000
    · exact Ev.ifp (decide_eq_true hs) (Ev.bind law08_same_c (Ev.same rfl))
    · refine Ev.ifn (by rw [decide_eq_true_eq]; exact hs) ?_
      obtain ⟨S, D, e, F⟩ := hr h
      obtain ⟨N, E, e1, e2, e3, e4, e5, e6, e7, e8, e9⟩ := rq_parts F
      obtain ⟨es, ea, eb⟩ : s = (Rq S D).1 ∧ a = (Rq S D).2.1 ∧ b = (Rq S D).2.2 := by rw [← e]; exact ⟨rfl, rfl, rfl⟩
      have R1 := power_Read_c (s := t) (by omega)
      have R2 := ref08_Read_c (s := t) (by omega)
      have S1 := power_Show_c (Fb_fit F (by omega)) e1 e2 e3 (by omega) (by omega) e7
      have S2 := ref08_Show_c e1 e2 e3 (by omega) (by omega)
      rw [es, ea, eb]
      have L := PR_len (hasM (byt t)) (body (byt t))
      have Q := same07 (q := ((PR (hasM (byt t)) (body (byt t))).1, (PR (hasM (byt t)) (body (byt t))).2.1, (PR (hasM (byt t)) (body (byt t))).2.2.1)) L.1 L.2
      exact Ev.bind R1 (Ev.bind R2 (Ev.bind S1 (Ev.bind S2 (Ev.ifp rfl (Ev.ifp rfl (Ev.bind Q (Ev.ifp rfl (Ev.bind law08_same_c (Ev.same rfl)))))))))
  · exact Ev.ifn h (Ev.eqv (fun k => gradinelaw08_PowerTexts.j0.eq_1 ..) (Ev.ifp rfl (Ev.bind law08_same_c (Ev.same rfl))))
end Go.Proofs.Ytldcgclbgbhffaa.Pure
