/- What dividing by one word answers. -/
import Derived.Test.YtldcgclbgbhffaaM2
import Derived.Test.YtldcgclbgbhffaaBquot
namespace Go.Proofs.Ytldcgclbgbhffaa.M
open Go.RowKit Go.Proofs.Ytldcgclbgbhffaa.P Go.Proofs.YtldcgclbgbhffaaW.PrintWords Go.Proofs.YtldcgclbgbhffaaW.PrintLast Go.Proofs.YtldcgclbgbhffaaW.PrintMore
set_option linter.unusedVariables false

theorem quot_Word_l {a : List Int} (ha : Wl a) {d : Int} (hd0 : 0 < d) (hd : d < 18446744073709551616) (n : Nat) : ∀ (Q : List Int) (R : Int), n + Q.length = a.length → Ws Q → 0 ≤ R → R < d → nv (a.drop n) = nv Q * d + R → ∀ i : Int, i = (n : Int) - 1 →
    Ev (fun k => quot_Word.l0 k a d (List.replicate n 0 ++ Q) R i) (dg (nv a / d), nv a % d, true) := by
  have hal := ha.2
  induction n with
  | zero =>
    intro Q R hn hQ h0 h1 he i hi
    refine Ev.step (fun k => quot_Word.l0.eq_2 ..) ?_
    refine Ev.ifn (by omega) ?_
    rw [List.drop_zero] at he
    have hm : nv a / d = nv Q ∧ nv a % d = R := by
      rw [he, Int.add_comm, Int.mul_comm]
      exact ⟨by rw [Int.add_mul_ediv_left _ _ (by omega), Int.ediv_eq_zero_of_lt h0 h1]; omega, by rw [Int.add_mul_emod_self_left, Int.emod_eq_of_lt h0 h1]⟩
    rw [hm.1, hm.2]
    exact Ev.bind (nat_Trim_c (l := Q) ⟨hQ, by omega⟩) (Ev.same rfl)
  | succ n ih =>
    intro Q R hn hQ h0 h1 he i hi
    have ei : i = (n : Int) := by omega
    subst ei
    have hx := U_rd ha.1 (n : Int)
    have e : wrap64 ((n : Int) - 1) = (n : Int) - 1 := w64_id (by omega) (by omega)
    have er : List.replicate (n + 1) 0 ++ Q = List.replicate n 0 ++ (0 : Int) :: Q := by rw [List.replicate_succ', List.append_assoc]; rfl
    have es : ∀ v, (List.replicate n 0 ++ (0 : Int) :: Q).set (n : Int).toNat v = List.replicate n 0 ++ v :: Q := fun v => by
      have := set_mid (List.replicate n 0) 0 v Q
      rw [List.length_replicate] at this
      rw [Int.toNat_natCast]; exact this
    refine Ev.step (fun k => quot_Word.l0.eq_2 ..) ?_
    rw [er, e]
    refine Ev.ifp (by omega) (Ev.ifp (by omega) (Ev.ifp (by omega) (Ev.bind (limb_Div_c h0 h1 hd hx) (Ev.ifp (by rw [List.length_append, List.length_replicate, List.length_cons]; omega) ?_))))
    dsimp only
    rw [es]
    have hD := Int.mul_ediv_add_emod (R * 18446744073709551616 + rd a (n : Int)) d
    have hm0 := Int.emod_nonneg (R * 18446744073709551616 + rd a (n : Int)) (show d ≠ 0 by omega)
    have hm1 := Int.emod_lt_of_pos (R * 18446744073709551616 + rd a (n : Int)) hd0
    have hq0 : 0 ≤ (R * 18446744073709551616 + rd a (n : Int)) / d := Int.ediv_nonneg (by have := hx.1; omega) (by omega)
    have hq1 : (R * 18446744073709551616 + rd a (n : Int)) / d < 18446744073709551616 := by
      rw [Int.ediv_lt_iff_lt_mul hd0]
      have := hx.2
      have h2 : (R + 1) * 18446744073709551616 ≤ d * 18446744073709551616 := Int.mul_le_mul_of_nonneg_right (by omega) (by omega)
      omega
    generalize (R * 18446744073709551616 + rd a (n : Int)) / d = q at *
    generalize (R * 18446744073709551616 + rd a (n : Int)) % d = r at *
    refine ih (q :: Q) r (by rw [List.length_cons]; omega) (Ws_cons.2 ⟨⟨hq0, hq1⟩, hQ⟩) hm0 hm1 ?_ _ rfl
    rw [drop_rd (by omega), nv_cons, nv_cons, he]
    generalize rd a (n : Int) = x at *
    grind
theorem quot_Word_c {a : List Int} (ha : Wl a) {d : Int} (hd0 : 0 < d) (hd : d < 18446744073709551616) : Ev (fun k => quot_Word.f k a d) (dg (nv a / d), nv a % d, true) := by
  have hal := ha.2
  refine Ev.ifn (by omega) (Ev.ifp (by omega) (Ev.ifp (by rw [Int.toNat_natCast]; omega) ?_))
  have := quot_Word_l ha hd0 hd a.length [] 0 (by simp) Ws_nil (by omega) hd0 (by rw [List.drop_eq_nil_of_le (Nat.le_refl _)]; simp [nv]) (wrap64 ((a.length : Int) - 1)) (w64_id (by omega) (by omega))
  rw [List.append_nil] at this
  rw [Int.toNat_natCast]
  exact this
end Go.Proofs.Ytldcgclbgbhffaa.M
