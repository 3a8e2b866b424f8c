/- Quotient and rest of any two numbers, or that the divisor is 0: told for all numbers of up to 24 words. -/
import Derived.Test.YtldcgclbgbhffaaBgradineref02
import Derived.Test.YtldcgclbgbhffaaBquot
import Derived.Test.YtldcgclbgbhffaaS04
import Derived.Test.YtldcgclbgbhffaaC04w
import Derived.Test.YtldcgclbgbhffaaC05r
import Derived.Test.YtldcgclbgbhffaaFgradinelaw04QuotTells
namespace Go.Proofs.Ytldcgclbgbhffaa.Pure
open Go.RowKit Go.Proofs.Ytldcgclbgbhffaa.P Go.Proofs.Ytldcgclbgbhffaa.M Go.Proofs.YtldcgclbgbhffaaW.PrintWords Go.Proofs.YtldcgclbgbhffaaW.PrintLast Go.Proofs.YtldcgclbgbhffaaW.PrintMore

theorem qtells_j3 {a : List Int} {w : Int} (ha : Wl a) (hw : U w) (la : a.length ≤ 24) (X : List Int) (y : Int) (ok : Bool) (hok : ok = true → 0 < w ∧ X = dg (nv a / w) ∧ y = nv a % w) : Ev (fun k => gradinelaw04_QuotTells.j3 k a w X y ok) true := by
  refine Ev.step (fun k => gradinelaw04_QuotTells.j3.eq_2 ..) ?_
  cases ok
  · exact Ev.ifn (by decide) (Ev.bind law04_same_c (Ev.same rfl))
  · obtain ⟨hp, rfl, rfl⟩ := hok rfl
    have na := nv_nonneg ha.1
    have ba := bl_nv ha.1
    have q1 := bl_mono (Int.ediv_le_self w na)
    have lq := dg_len_bl (nv a / w)
    have r0 := Int.emod_nonneg (nv a) (show w ≠ 0 by omega)
    have r1 := Int.emod_lt_of_pos (nv a) hp
    have br := bl_64 (x := nv a % w) (by unfold U at hw; omega)
    have lr := dg_len_bl (nv a % w)
    have D := ref04_Div_c ha (b := [w]) ⟨Ws_one hw, by simp⟩ (by omega) (by simp) (by rw [nv_one]; exact hp)
    rw [nv_one] at D
    have T := ref02_Trim_c (l := [nv a % w]) ⟨Ws_one (by unfold U at *; omega), by simp⟩
    rw [nv_one] at T
    refine Ev.ifp rfl (Ev.bind D (Ev.bind (Words_c (a := dg (nv a / w)) (by omega)) (Ev.ifp (by simp) (Ev.bind T (Ev.bind (Words_c (a := dg (nv a % w)) (by omega)) (Ev.ifp (by simp) ?_))))))
    exact Ev.bind law04_same_c (Ev.same rfl)
theorem qtells_in {a b : List Int} {w : Int} (ha : Wl a) (hb : Wl b) (hw : U w) (la : a.length ≤ 24) (lb : b.length ≤ 24) : Ev (fun k => gradinelaw04_QuotTells.j0 k a b w false) true := by
  have na := nv_nonneg ha.1
  have nb := nv_nonneg hb.1
  have ba := bl_nv ha.1
  refine Ev.step (fun k => gradinelaw04_QuotTells.j0.eq_2 ..) (Ev.ifn (by decide) (Ev.bind (quot_Div_c ha hb (by omega)) ?_))
  have zb := dg_len_zero nb
  -- by one word
  have key : ∀ (Q R : List Int) (ok : Bool), (ok = decide (0 < nv b)) → (ok = true → Q = dg (nv a / nv b) ∧ R = dg (nv a % nv b)) → (ok = false → Q = [] ∧ R = []) →
      Ev (fun k => (quot_Word.f k a w).bind fun bt1042 => ((gradineref02_Size.f k b).bind fun t1047 => (if (ok != (decide (t1047 > 0))) = true then (gradinelaw04_QuotTells.j1 k a b w Q R ok bt1042.1 bt1042.2.1 bt1042.2.2 true) else (gradinelaw04_QuotTells.j1 k a b w Q R ok bt1042.1 bt1042.2.1 bt1042.2.2 (bt1042.2.2 != (decide (w > 0))))))) true := by
    intro Q R ok hok hyes hno
    have j2 : ∀ (X : List Int) (y : Int) (o : Bool), (o = true → 0 < w ∧ X = dg (nv a / w) ∧ y = nv a % w) → Ev (fun k => gradinelaw04_QuotTells.j2 k a b w Q R ok X y o false) true := by
      intro X y o ho
      refine Ev.step (fun k => gradinelaw04_QuotTells.j2.eq_2 ..) (Ev.ifn (by decide) ?_)
      cases ok
      · exact Ev.ifn (by decide) (qtells_j3 ha hw la X y o ho)
      · obtain ⟨rfl, rfl⟩ := hyes rfl
        have hp : 0 < nv b := of_decide_eq_true hok.symm
        have q1 := bl_mono (Int.ediv_le_self (nv b) na)
        have lq := dg_len_bl (nv a / nv b)
        have r0 := Int.emod_nonneg (nv a) (show nv b ≠ 0 by omega)
        have r1 := Int.emod_lt_of_pos (nv a) hp
        have bb := bl_nv hb.1
        have br := bl_mono (show nv a % nv b ≤ nv b by omega)
        have lr := dg_len_bl (nv a % nv b)
        refine Ev.ifp rfl (Ev.bind (ref04_Div_c ha hb (by omega) (by omega) hp) ?_)
        exact Ev.bind (Words_c (a := dg (nv a / nv b)) (by omega)) (Ev.ifp (by simp) (Ev.bind (Words_c (a := dg (nv a % nv b)) (by omega)) (Ev.ifp (by simp) (qtells_j3 ha hw la X y o ho))))
    have j1 : ∀ (X : List Int) (y : Int) (o : Bool), (o = true → 0 < w ∧ X = dg (nv a / w) ∧ y = nv a % w) → (o = false → X = [] ∧ y = 0) → Ev (fun k => gradinelaw04_QuotTells.j1 k a b w Q R ok X y o false) true := by
      intro X y o ho hn
      have fin : Ev (fun k => if o = true then gradinelaw04_QuotTells.j2 k a b w Q R ok X y o false else (if (X.length : Int) > 0 then gradinelaw04_QuotTells.j2 k a b w Q R ok X y o true else gradinelaw04_QuotTells.j2 k a b w Q R ok X y o (y != 0))) true := by
        cases o
        · obtain ⟨rfl, rfl⟩ := hn rfl
          exact Ev.ifn (by decide) (Ev.ifn (by decide) (j2 _ _ _ ho))
        · exact Ev.ifp rfl (j2 _ _ _ ho)
      refine Ev.step (fun k => gradinelaw04_QuotTells.j1.eq_2 ..) (Ev.ifn (by decide) ?_)
      cases ok
      · obtain ⟨rfl, rfl⟩ := hno rfl
        exact Ev.ifn (by decide) (Ev.ifn (by rw [show (([] : List Int).length : Int) = 0 from rfl, w64_id (by omega) (by omega)]; omega) fin)
      · exact Ev.ifp rfl fin
    have hsz : (ok != decide (((dg (nv b)).length : Int) > 0)) = false := by
      rw [hok, bne_eq_false_iff_eq]
      exact decide_eq_decide.2 (by omega)
    rcases (show w = 0 ∨ 0 < w by unfold U at hw; omega) with hz | hp
    · subst hz
      refine Ev.bind (quot_Word_no a) (Ev.bind (ref02_Size_c hb) (Ev.ifn (by rw [hsz]; decide) ?_))
      exact j1 [] 0 false (fun k => by cases k) (fun _ => ⟨rfl, rfl⟩)
    · refine Ev.bind (quot_Word_c ha hp hw.2) (Ev.bind (ref02_Size_c hb) (Ev.ifn (by rw [hsz]; decide) ?_))
      have : (true != decide (w > 0)) = false := by rw [decide_eq_true hp]; rfl
      show Ev (fun k => gradinelaw04_QuotTells.j1 k a b w Q R ok (dg (nv a / w)) (nv a % w) true (true != decide (w > 0))) true
      rw [this]
      exact j1 _ _ true (fun _ => ⟨hp, rfl, rfl⟩) (fun k => by cases k)
  by_cases hz : nv b = 0
  · rw [if_pos hz]
    exact key [] [] false (by rw [hz]; rfl) (fun k => by cases k) (fun _ => ⟨rfl, rfl⟩)
  · rw [if_neg hz]
    exact key _ _ true (decide_eq_true (by omega)).symm (fun _ => ⟨rfl, rfl⟩) (fun k => by cases k)
theorem QuotTells : gradinelaw04_QuotTells.Pure := by
  intro a b w _ _ ha _ _ hb hw
  have hw : U w := wf_u64 hw
  refine Ev.rounds ?_
  have out : Ev (fun k => gradinelaw04_QuotTells.j0 k a b w true) true := Ev.step (fun k => gradinelaw04_QuotTells.j0.eq_2 ..) (Ev.ifp rfl (Ev.bind law04_same_c (Ev.same rfl)))
  by_cases la : (a.length : Int) > 24
  · exact Ev.ifp la out
  · refine Ev.ifn la ?_
    by_cases lb : (b.length : Int) > 24
    · rw [decide_eq_true lb]; exact out
    · rw [decide_eq_false lb]
      exact qtells_in (Wl_of (m := 24) ha (by omega)) (Wl_of (m := 24) hb (by omega)) hw (by omega) (by omega)
end Go.Proofs.Ytldcgclbgbhffaa.Pure
