/- The root of a double's rounded square is the double without its sign, where that is neither too great nor too small. -/
import Derived.Test.YtbpggonjcnakgaaS12
import Derived.Test.YtbpggonjcnakgaaFgradinelaw12FprodSquares
namespace Go.Proofs.Ytbpggonjcnakgaa.Pure
open Go.RowKit Go.Proofs.Ytbpggonjcnakgaa.P Go.Proofs.Ytbpggonjcnakgaa.M Go.Proofs.YtbpggonjcnakgaaW.PrintWords Go.Proofs.YtbpggonjcnakgaaW.PrintLast Go.Proofs.YtbpggonjcnakgaaW.PrintMore

theorem FprodSquares : gradinelaw12_FprodSquares.Pure := by
  intro a ha
  have ha : U a := wf_u64 ha
  refine Ev.rounds ?_
  have key : ∀ t : Bool, (t = false → 2355382605114769408 ≤ a % 9223372036854775808 ∧ a % 9223372036854775808 ≤ 6858982232485265408) → Ev (fun k => gradinelaw12_FprodSquares.j0 k a (a % 9223372036854775808) t) true := by
    intro t ht
    refine Ev.step (fun k => gradinelaw12_FprodSquares.j0.eq_2 ..) ?_
    cases t
    · obtain ⟨h0, h1⟩ := ht rfl
      have hx : fx a = a % 9223372036854775808 / 4503599627370496 := by
        unfold U at ha
        unfold fx
        omega
      obtain ⟨k1, k2, k3⟩ := square_root ha h0 h1 (by omega) (by omega)
      refine Ev.ifn (by decide) (Ev.bind (fprod_Mul_c ha ha) ?_)
      refine Ev.bind (fprod_Sqrt_c (fmul_U a a) (by omega) (by omega) (by omega) k1 k3) (Ev.ifp rfl ?_)
      exact Ev.bind law12_same_c (Ev.same rfl)
    · exact Ev.ifp rfl (Ev.bind law12_same_c (Ev.same rfl))
  have hc : Ev (fun k => gradinelaw12_FprodSquares.f k a) true := by
    unfold gradinelaw12_FprodSquares.f
    rw [clear_top ha]
    by_cases h : a % 9223372036854775808 < 2355382605114769408
    · exact Ev.ifp h (key _ (fun k => by cases k))
    · refine Ev.ifn h (key _ (fun k => ⟨by omega, ?_⟩))
      have := of_decide_eq_false k
      omega
  exact hc
end Go.Proofs.Ytbpggonjcnakgaa.Pure
