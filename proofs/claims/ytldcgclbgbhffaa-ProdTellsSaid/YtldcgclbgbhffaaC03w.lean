/- What a number times a word answers. -/
import Derived.Test.YtldcgclbgbhffaaM2
import Derived.Test.YtldcgclbgbhffaaBprod
namespace Go.Proofs.Ytldcgclbgbhffaa.M
open Go.RowKit Go.Proofs.Ytldcgclbgbhffaa.P Go.Proofs.YtldcgclbgbhffaaW.PrintWords Go.Proofs.YtldcgclbgbhffaaW.PrintLast Go.Proofs.YtldcgclbgbhffaaW.PrintMore
set_option linter.unusedVariables false

theorem prod_Word_l {a : List Int} (ha : Wl a) (hla : a.length ≤ 999999999) {x y : Int} (hx : U x) (hy : U y) (d : Nat) : ∀ (i : Nat) (out : List Int) (c : Int), i + d = a.length → out.length = i → Ws out → U c → nv out + Wp i * c = nv (a.take i) * x + y →
    Ev (fun k => prod_Word.l0 k x c out a (a.length : Int) i) (dg (nv a * x + y)) := by
  induction d with
  | zero =>
    intro i out c hi hlo hwo hc he
    refine Ev.step (fun k => prod_Word.l0.eq_2 ..) ?_
    refine Ev.ifn (by omega) (Ev.ifp (by omega) ?_)
    rw [List.take_of_length_le (by omega)] at he
    rw [← he, ← hlo, ← nv_snoc]
    exact Ev.bind (nat_Trim_c ⟨Wl_snoc hwo hc, by simp; omega⟩) (Ev.same rfl)
  | succ d ih =>
    intro i out c hi hlo hwo hc he
    have HE := Hd.mk he
    clear he
    have hw := U_rd ha.1 (i : Int)
    have e : wrap64 ((i : Int) + 1) = ((i + 1 : Nat) : Int) := by rw [w64_id (by omega) (by omega)]; omega
    refine Ev.step (fun k => prod_Word.l0.eq_2 ..) ?_
    refine Ev.ifp (by omega) (Ev.ifp (by omega) (Ev.ifp (by omega) (Ev.bindc (limb_Mul_c hw hx) ?_)))
    generalize hP : rd a (i : Int) * x = P
    have hlo' : U (P % 18446744073709551616) := by unfold U; omega
    refine Ev.bindc (limb_Add_c hlo' hc (by unfold U; omega)) (Ev.ifp (by omega) ?_)
    dsimp only
    unfold U at hw hx hc
    have hb := row_step (B := 18446744073709551616) (x := rd a (i : Int)) (y := x) (s := 0) (c := c) (hi := P / 18446744073709551616) (lo := P % 18446744073709551616) (v := (P % 18446744073709551616 + c) % 18446744073709551616) (ov := (P % 18446744073709551616 + c) / 18446744073709551616) (by omega) hw.1 hw.2 hx.1 hx.2 (by omega) (by omega) hc.1 hc.2 (by omega) (by omega) (by omega) (by omega)
    have hP0 : 0 ≤ P := by rw [← hP]; exact Int.mul_nonneg hw.1 hx.1
    rw [Int.add_zero, e, wu_id (by omega) (by omega)]
    refine ih (i + 1) _ _ (by omega) (by simp; omega) (Wl_snoc hwo (by unfold U; omega)) (by unfold U; omega) ?_
    have he := HE.out
    have hs : P + c = 18446744073709551616 * (P / 18446744073709551616 + (P % 18446744073709551616 + c) / 18446744073709551616) + (P % 18446744073709551616 + c) % 18446744073709551616 := by omega
    rw [nv_snoc, hlo, nv_take_succ (by omega), Wp_succ]
    generalize P / 18446744073709551616 + (P % 18446744073709551616 + c) / 18446744073709551616 = q at *
    generalize (P % 18446744073709551616 + c) % 18446744073709551616 = r at *
    have hc' : c = 18446744073709551616 * q + r - P := by omega
    rw [hc', ← hP] at he
    grind
theorem prod_Word_c {a : List Int} (ha : Wl a) (hla : a.length ≤ 999999999) {x y : Int} (hx : U x) (hy : U y) : Ev (fun k => prod_Word.f k a x y) (dg (nv a * x + y)) := by
  refine Ev.ifp (by rw [w64_id (by omega) (by omega)]; omega) (Ev.ifp (by rw [w64_id (by omega) (by omega)]; omega) ?_)
  exact prod_Word_l ha hla hx hy a.length 0 [] y (by omega) rfl Ws_nil hy (by simp [Wp_zero, nv])

end Go.Proofs.Ytldcgclbgbhffaa.M
