/- What the functions of nat answer: on lists of words, by the numbers that these are. -/
import Derived.Test.YtbpggonjcnakgaaC01
import Derived.Test.YtbpggonjcnakgaaBnat
namespace Go.Proofs.Ytbpggonjcnakgaa.M
open Go.RowKit Go.Proofs.Ytbpggonjcnakgaa.P Go.Proofs.YtbpggonjcnakgaaW.PrintWords Go.Proofs.YtbpggonjcnakgaaW.PrintLast Go.Proofs.YtbpggonjcnakgaaW.PrintMore
set_option linter.unusedVariables false

theorem Cn_take {l : List Int} {n : Nat} (h : n < l.length) (hr : rd l (n : Int) ≠ 0) : Cn (l.take (n + 1)) := by
  rw [take_rd h]
  exact .inr (by rw [List.getLast?_append]; simpa using hr)
theorem dg_take {l : List Int} (h : Ws l) {n : Nat} (hn : n < l.length) (hr : rd l (n : Int) ≠ 0) (he : nv (l.take (n + 1)) = nv l) : dg (nv l) = l.take (n + 1) := by
  rw [← he, dg_nv (Ws_take h _) (Cn_take hn hr)]
theorem nat_size_l {l : List Int} (h : Wl l) (n : Nat) : n ≤ l.length → nv (l.take n) = nv l → Ev (fun k => nat_size.l0 k l n) ((dg (nv l)).length : Int) := by
  obtain ⟨hw, hl⟩ := h
  induction n with
  | zero =>
    intro hn he
    refine Ev.step (fun k => nat_size.l0.eq_2 ..) ?_
    refine Ev.ifn (by omega) (Ev.same ?_)
    rw [← he]
    rfl
  | succ n ih =>
    intro hn he
    have e : wrap64 (((n + 1 : Nat) : Int) - 1) = (n : Int) := by rw [w64_id (by omega) (by omega)]; omega
    refine Ev.step (fun k => nat_size.l0.eq_2 ..) ?_
    refine Ev.ifp (by omega) ?_
    rw [e]
    refine Ev.ifp (by omega) (Ev.ifp (by omega) ?_)
    by_cases hr : rd l (n : Int) = 0
    · refine Ev.ifp hr (ih (by omega) ?_)
      rw [← he, nv_take_succ (by omega), hr, Int.mul_zero, Int.add_zero]
    · refine Ev.ifn hr (Ev.same ?_)
      rw [dg_take hw (by omega) hr he, List.length_take, Nat.min_eq_left (by omega)]
theorem nat_size_c {l : List Int} (h : Wl l) : Ev (fun k => nat_size.f k l) ((dg (nv l)).length : Int) :=
  nat_size_l h l.length (Nat.le_refl _) (by rw [List.take_length])
/-- A list's first words are its number's. -/
theorem dg_prefix {l : List Int} (h : Ws l) : ∃ r, l = dg (nv l) ++ r ∧ nv r = 0 := by
  have key : ∀ n, n ≤ l.length → nv (l.take n) = nv l → l.take (dg (nv l)).length = dg (nv l) := by
    intro n
    induction n with
    | zero => intro _ he; rw [← he]; rfl
    | succ n ih =>
      intro hn he
      by_cases hr : rd l (n : Int) = 0
      · refine ih (by omega) ?_
        rw [← he, nv_take_succ (by omega), hr, Int.mul_zero, Int.add_zero]
      · rw [dg_take h (by omega) hr he, List.length_take, Nat.min_eq_left (by omega)]
  have h1 := key l.length (Nat.le_refl _) (by rw [List.take_length])
  refine ⟨l.drop (dg (nv l)).length, ?_, ?_⟩
  · conv => rhs; lhs; rw [← h1]
    rw [List.take_append_drop]
  · have h2 := nv_split l (dg (nv l)).length
    rw [h1, nv_dg (nv_nonneg h)] at h2
    have h3 := Wp_pos (min (dg (nv l)).length l.length)
    have h4 : Wp (min (dg (nv l)).length l.length) * nv (l.drop (dg (nv l)).length) = 0 := by omega
    rcases Int.mul_eq_zero.1 h4 with h5 | h5
    · omega
    · exact h5
theorem dg_len_list {l : List Int} (h : Ws l) : (dg (nv l)).length ≤ l.length := dg_len_le (nv_lt h)
theorem take_dg {l : List Int} (h : Ws l) : l.take (dg (nv l)).length = dg (nv l) := by
  obtain ⟨r, hr, _⟩ := dg_prefix h
  conv => lhs; rhs; rw [hr]
  simp
theorem dg_len_zero {n : Int} (h : 0 ≤ n) : (dg n).length = 0 ↔ n = 0 := by
  constructor
  · intro h1
    have := nv_dg h
    rw [List.eq_nil_of_length_eq_zero h1] at this
    exact this.symm
  · intro h1; rw [h1]; rfl
def cmpI (x y : Int) : Int := if x < y then -1 else if y < x then 1 else 0
theorem cmpI_lt {x y : Int} (h : x < y) : cmpI x y = -1 := by unfold cmpI; rw [if_pos h]
theorem cmpI_gt {x y : Int} (h : y < x) : cmpI x y = 1 := by unfold cmpI; rw [if_neg (by omega), if_pos h]
theorem nv_take_dg {l : List Int} (h : Ws l) : nv (l.take (dg (nv l)).length) = nv l := by rw [take_dg h, nv_dg (nv_nonneg h)]
/-! ### Sums and differences -/
theorem take_zero_of_ge {b : List Int} {i : Nat} (h : b.length ≤ i) : b.take (i + 1) = b.take i := by rw [List.take_of_length_le (by omega), List.take_of_length_le (by omega)]
theorem Wl_snoc {a : List Int} {x : Int} (ha : Ws a) (hx : U x) : Ws (a ++ [x]) := Ws_app.2 ⟨ha, Ws_one hx⟩
end Go.Proofs.Ytbpggonjcnakgaa.M
