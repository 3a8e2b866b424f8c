/- The double that is nearest to any number of up to 40 words, with a half or without, times any power of two; to any whole number. -/
import Derived.Test.YtbpggonjcnakgaaCC
import Derived.Test.YtbpggonjcnakgaaBgradineref10
import Derived.Test.YtbpggonjcnakgaaFgradinelaw10FroundLists
namespace Go.Proofs.Ytbpggonjcnakgaa.Pure
open Go.RowKit Go.Proofs.Ytbpggonjcnakgaa.P Go.Proofs.Ytbpggonjcnakgaa.M Go.Proofs.YtbpggonjcnakgaaW.PrintWords Go.Proofs.YtbpggonjcnakgaaW.PrintLast Go.Proofs.YtbpggonjcnakgaaW.PrintMore

def FroundListsS : Prop := ∀ (s m : Bool) (l : List Int) (e n : Int), l.length ≤ maxLen → l.length * 8 ≤ 140737488351232 → (∀ x ∈ l, (Lit.int .u64 x).wf = true) → (Lit.int .i64 e).wf = true → (Lit.int .i64 n).wf = true → ∃ k, gradinelaw10_FroundLists.f k s m l e n = some true
theorem Rq_whole (n : Int) : (Rq n 1).1 = decide (n < 0) ∧ (Rq n 1).2.1 = dg (if n < 0 then -n else n) := by
  by_cases h0 : n = 0
  · subst h0; exact ⟨rfl, rfl⟩
  · have hn : 0 < (if n < 0 then -n else n) := by split <;> omega
    have e := Rq_of (decide (n < 0)) (d := 1) hn
    have s : sgI (decide (n < 0)) (if n < 0 then -n else n) = n := by
      unfold sgI
      by_cases h : n < 0
      · rw [decide_eq_true h, if_pos rfl, if_pos h]; omega
      · rw [decide_eq_false h, if_neg Bool.false_ne_true, if_neg h]
    rw [s, gc_one (Int.le_of_lt hn), Int.ediv_one] at e
    rw [e]
    exact ⟨rfl, rfl⟩
theorem ref10_FromInt_c {n : Int} (h0 : -9223372036854775808 ≤ n) (h1 : n ≤ 9223372036854775807) : Ev (fun k => gradineref10_FromInt.f k n) (sgn (decide (n < 0)) (Rd (if n < 0 then -n else n) 0)) := by
  have hn : 0 ≤ (if n < 0 then -n else n) ∧ (if n < 0 then -n else n) ≤ 9223372036854775808 := by split <;> omega
  have b : bl (if n < 0 then -n else n) ≤ 64 := bl_64 (by omega)
  have l := dg_len_bl (if n < 0 then -n else n)
  have O := ref10_Of_c (l := dg (if n < 0 then -n else n)) (e := 0) (decide (n < 0)) (Wl_dg (by omega)) (by omega) (by omega) (by omega)
  rw [nv_dg hn.1, ← (Rq_whole n).1, ← (Rq_whole n).2] at O
  rw [← (Rq_whole n).1]
  exact Ev.bind (ref07_Of_c h0 h1) (Ev.bind O (Ev.same rfl))
theorem FroundLists : FroundListsS := by
  intro s m l e n _ _ hl he hn
  have hl : Ws l := fun y hy => wf_u64 (hl y hy)
  have hn := wf_i64 hn
  suffices h : Ev (fun k => gradinelaw10_FroundLists.f k s m l e n) true by
    obtain ⟨j, h⟩ := h
    exact ⟨j, h j (Nat.le_refl j)⟩
  by_cases c : (l.length : Int) > 40
  · exact Ev.ifp c (Ev.bind law10_same_c (Ev.same rfl))
  · have A := fround_Of_c s (l := l) ⟨hl, by omega⟩ (by omega) e m
    have B := ref10_More_c s (l := l) ⟨hl, by omega⟩ (by omega) e m
    exact Ev.ifn c (Ev.bind A (Ev.bind B (Ev.ifp rfl (Ev.bind (fround_FromInt_c hn.1 hn.2) (Ev.bind (ref10_FromInt_c hn.1 hn.2) (Ev.ifp rfl (Ev.bind law10_same_c (Ev.same rfl))))))))
end Go.Proofs.Ytbpggonjcnakgaa.Pure
