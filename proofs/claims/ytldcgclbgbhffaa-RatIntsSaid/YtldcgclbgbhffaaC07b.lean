/- What Right and Same of rat answer, and the reference's Of. -/
import Derived.Test.YtldcgclbgbhffaaBgcd
import Derived.Test.YtldcgclbgbhffaaBgradineref07
import Derived.Test.YtldcgclbgbhffaaC07R
import Derived.Test.YtldcgclbgbhffaaBrat
namespace Go.Proofs.Ytldcgclbgbhffaa.M
open Go.RowKit Go.Proofs.Ytldcgclbgbhffaa.P Go.Proofs.YtldcgclbgbhffaaW.PrintWords Go.Proofs.YtldcgclbgbhffaaW.PrintLast Go.Proofs.YtldcgclbgbhffaaW.PrintMore
set_option linter.unusedVariables false

theorem rat_Right_c {a b : List Int} (neg : Bool) (ha : Wl a) (hb : Wl b) (hla : a.length ≤ 1000) (hlb : b.length ≤ 1000) : ∃ r, Ev (fun k => rat_Right.f k neg a b) r ∧ (r = true ↔ RR neg a b) := by
  have C := gcd_Coprime_c ha hb hla hlb
  unfold RR
  by_cases h1 : dg (nv a) = a
  · by_cases h2 : dg (nv b) = b
    · have pre : ∀ {r : Bool}, Ev (fun k => if (b.length : Int) > 0 then ((gcd_Coprime.f k a b).bind fun t => (if t = true then (if neg = true then (some (!((a.length : Int) == 0))) else (some (!false))) else (some false))) else (some false)) r → Ev (fun k => rat_Right.f k neg a b) r := fun h =>
        Ev.bindc (nat_Right_c ha) (Ev.ifp (decide_eq_true h1) (Ev.bindc (nat_Right_c hb) (Ev.ifp (decide_eq_true h2) h)))
      by_cases h3 : b.length = 0
      · exact ⟨false, pre (Ev.ifn (by omega) (Ev.same rfl)), by simp [h3]⟩
      · by_cases h5 : gc (nv a) (nv b) = 1
        · rw [decide_eq_true h5] at C
          cases neg
          · exact ⟨true, pre (Ev.ifp (by omega) (Ev.bind C (Ev.ifp rfl (Ev.ifn (by decide) (Ev.same rfl))))), by simp [h1, h2, h3, h5]⟩
          · by_cases h4 : a.length = 0
            · exact ⟨false, pre (Ev.ifp (by omega) (Ev.bind C (Ev.ifp rfl (Ev.ifp rfl (Ev.same (by rw [h4]; rfl)))))), by simp [h4]⟩
            · exact ⟨true, pre (Ev.ifp (by omega) (Ev.bind C (Ev.ifp rfl (Ev.ifp rfl (Ev.same (by rw [beq_eq_false_iff_ne.2 (show (a.length : Int) ≠ 0 by omega)]; rfl)))))), by simp [h1, h2, h3, h4, h5]⟩
        · rw [decide_eq_false h5] at C
          exact ⟨false, pre (Ev.ifp (by omega) (Ev.bind C (Ev.ifn (by decide) (Ev.same rfl)))), by simp [h5]⟩
    · exact ⟨false, Ev.bindc (nat_Right_c ha) (Ev.ifp (decide_eq_true h1) (Ev.bindc (nat_Right_c hb) (Ev.ifn (by simp [h2]) (Ev.same rfl)))), by simp [h2]⟩
  · exact ⟨false, Ev.bindc (nat_Right_c ha) (Ev.ifn (by simp [h1]) (Ev.same rfl)), by simp [h1]⟩
theorem rat_Same_l1 {b d : List Int} {s' : Bool} {c : List Int} (hl : b.length = d.length) (hb : b.length ≤ 1000000) (n : Nat) : ∀ i : Nat, i + n = b.length → b.take i = d.take i → Ev (fun k => rat_Same.l1 k b (b.length : Int) i s' c d) (decide (b = d)) := by
  induction n with
  | zero =>
    intro i hi he
    refine Ev.step (fun k => rat_Same.l1.eq_2 ..) (Ev.ifn (by omega) (Ev.same ?_))
    rw [List.take_of_length_le (by omega), List.take_of_length_le (by omega)] at he
    rw [decide_eq_true he]
  | succ n ih =>
    intro i hi he
    have e : wrap64 ((i : Int) + 1) = ((i + 1 : Nat) : Int) := by rw [w64_id (by omega) (by omega)]; omega
    refine Ev.step (fun k => rat_Same.l1.eq_2 ..) (Ev.ifp (by omega) (Ev.ifp (by omega) (Ev.ifp (by omega) (Ev.ifp (by omega) ?_))))
    by_cases h : rd b (i : Int) = rd d (i : Int)
    · refine Ev.ifp h ?_
      rw [e]
      exact ih (i + 1) (by omega) (by rw [take_rd (by omega), take_rd (by omega), he, h])
    · refine Ev.ifn h (Ev.same ?_)
      rw [decide_eq_false (fun k => h (by rw [k]))]
theorem rat_Same_l0 {s s' : Bool} {a b c d : List Int} (hl : a.length = c.length) (hl2 : b.length = d.length) (ha : a.length ≤ 1000000) (hb : b.length ≤ 1000000) (n : Nat) : ∀ i : Nat, i + n = a.length → a.take i = c.take i → Ev (fun k => rat_Same.l0 k a (a.length : Int) i s a b s' c d) (decide (a = c ∧ b = d)) := by
  induction n with
  | zero =>
    intro i hi he
    rw [List.take_of_length_le (by omega), List.take_of_length_le (by omega)] at he
    have L := rat_Same_l1 (s' := s') (c := c) hl2 hb b.length 0 (by omega) (by simp)
    refine Ev.step (fun k => rat_Same.l0.eq_2 ..) (Ev.ifn (by omega) (Ev.eqr L ?_))
    simp [he]
  | succ n ih =>
    intro i hi he
    have e : wrap64 ((i : Int) + 1) = ((i + 1 : Nat) : Int) := by rw [w64_id (by omega) (by omega)]; omega
    refine Ev.step (fun k => rat_Same.l0.eq_2 ..) (Ev.ifp (by omega) (Ev.ifp (by omega) (Ev.ifp (by omega) (Ev.ifp (by omega) ?_))))
    by_cases h : rd a (i : Int) = rd c (i : Int)
    · refine Ev.ifp h ?_
      rw [e]
      exact ih (i + 1) (by omega) (by rw [take_rd (by omega), take_rd (by omega), he, h])
    · refine Ev.ifn h (Ev.same ?_)
      rw [decide_eq_false (fun k => h (by rw [k.1]))]
theorem rat_Same_c {s s' : Bool} {a b c d : List Int} (ha : a.length ≤ 1000000) (hb : b.length ≤ 1000000) : Ev (fun k => rat_Same.f k s a b s' c d) (decide ((s, a, b) = (s', c, d))) := by
  have bt : ∀ {x : Bool}, x = true → Ev (fun k => rat_Same.j0 k x s a b s' c d) false := fun h => Ev.step (fun k => rat_Same.j0.eq_2 ..) (Ev.ifp h (Ev.same rfl))
  by_cases h1 : s = s'
  · by_cases h2 : a.length = c.length
    · by_cases h3 : b.length = d.length
      · have L := rat_Same_l0 (s := s) (s' := s') h2 h3 ha hb a.length 0 (by omega) (by simp)
        have e : ((b.length : Int) != (d.length : Int)) = false := by rw [h3]; simp
        refine Ev.ifn (by rw [h1]; simp) (Ev.ifp (by omega) (Ev.step (fun k => rat_Same.j0.eq_2 ..) (Ev.ifn (by rw [e]; decide) (Ev.eqr L ?_))))
        simp [h1]
      · refine Ev.ifn (by rw [h1]; simp) (Ev.ifp (by omega) (Ev.eqr (bt (by simp; omega)) ?_))
        rw [decide_eq_false]
        rintro k
        injection k with _ k
        injection k with _ k
        exact h3 (by rw [k])
    · refine Ev.ifn (by rw [h1]; simp) (Ev.ifn (by omega) (Ev.eqr (bt rfl) ?_))
      rw [decide_eq_false]
      rintro k
      injection k with _ k
      injection k with k _
      exact h2 (by rw [k])
  · refine Ev.ifp (by simp [h1]) (Ev.eqr (bt rfl) ?_)
    rw [decide_eq_false]
    rintro k
    injection k with k _
    exact h1 k
theorem ref07_Of_c {n : Int} (h0 : -9223372036854775808 ≤ n) (h1 : n ≤ 9223372036854775807) : Ev (fun k => gradineref07_Of.f k n) (Rq n 1) := by
  have w1 : Wl [1] := ⟨Ws_one (by unfold U; omega), by decide⟩
  by_cases hn : n < 0
  · have e : IntKind.u64.wrap (-(IntKind.u64.wrap n)) = -n := by
      have : IntKind.u64.wrap n = n + 18446744073709551616 := by
        show n % 18446744073709551616 = _
        omega
      rw [this]
      show (-(n + 18446744073709551616)) % 18446744073709551616 = _
      omega
    refine Ev.ifp hn ?_
    rw [e]
    have M := ref07_Make_c true (a := [-n]) (b := [1]) ⟨Ws_one (by unfold U; omega), by simp⟩ w1 (by simp) (by decide) (by rw [nv_one]; omega)
    rw [nv_one, nv_one, show sgI true (-n) = n by unfold sgI; simp] at M
    exact Ev.bind M (Ev.same rfl)
  · refine Ev.ifn hn ?_
    rw [wu_id (n := n) (by omega) (by omega)]
    have M := ref07_Make_c false (a := [n]) (b := [1]) ⟨Ws_one (by unfold U; omega), by simp⟩ w1 (by simp) (by decide) (by rw [nv_one]; omega)
    rw [nv_one, nv_one, show sgI false n = n by unfold sgI; simp] at M
    exact Ev.bind M (Ev.same rfl)
theorem Rq_len {S D : Int} (h : Fit S D) : (Rq S D).2.1.length ≤ 300 ∧ (Rq S D).2.2.length ≤ 300 ∧ Wl (Rq S D).2.1 ∧ Wl (Rq S D).2.2 := by
  obtain ⟨N, E, h1, h2, h3, h4, h5, h6, h7⟩ := Rq_fit h
  have a := dg_len_bl N
  have b := dg_len_bl E
  rw [h1]
  dsimp only
  exact ⟨by omega, by omega, Wl_dg (by omega), Wl_dg (by omega)⟩
theorem same_self07 {S D : Int} (h : Fit S D) : Ev (fun k => gradineref07_Same.f k (Rq S D).1 (Rq S D).2.1 (Rq S D).2.2 (Rq S D).1 (Rq S D).2.1 (Rq S D).2.2) true := by
  have l := Rq_len h
  have k := ref07_Same_c (s := (Rq S D).1) (s' := (Rq S D).1) (a := (Rq S D).2.1) (b := (Rq S D).2.2) (a' := (Rq S D).2.1) (b' := (Rq S D).2.2) (by omega) (by omega)
  rw [decide_eq_true rfl] at k
  exact k
end Go.Proofs.Ytldcgclbgbhffaa.M
