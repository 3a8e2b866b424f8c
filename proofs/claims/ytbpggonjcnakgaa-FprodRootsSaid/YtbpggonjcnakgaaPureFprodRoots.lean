/- Any double's root is the exact one, rounded once. -/
import Derived.Test.YtbpggonjcnakgaaBfprod
import Derived.Test.YtbpggonjcnakgaaBgradineref12
import Derived.Test.YtbpggonjcnakgaaS12
import Derived.Test.YtbpggonjcnakgaaC12q
import Derived.Test.YtbpggonjcnakgaaFgradinelaw12FprodRoots
namespace Go.Proofs.Ytbpggonjcnakgaa.Pure
open Go.RowKit Go.Proofs.Ytbpggonjcnakgaa.P Go.Proofs.Ytbpggonjcnakgaa.M Go.Proofs.YtbpggonjcnakgaaW.PrintWords Go.Proofs.YtbpggonjcnakgaaW.PrintLast Go.Proofs.YtbpggonjcnakgaaW.PrintMore

theorem FprodRoots : gradinelaw12_FprodRoots.Pure := by
  intro b hb
  have hb : U b := wf_u64 hb
  refine Ev.rounds ?_
  have key : ∃ w, Ev (fun k => fprod_Sqrt.f k b) w ∧ Ev (fun k => gradineref12_Sqrt.f k b) w := by
    by_cases h4 : fk b = 4
    · exact ⟨NAN, fprod_Sqrt_no hb (.inl h4), ref12_Sqrt_no hb (.inl h4)⟩
    · by_cases h0 : fk b = 0
      · exact ⟨b, fprod_Sqrt_same hb (.inl h0), ref12_Sqrt_same hb (.inl h0)⟩
      · cases hs : fs b
        · by_cases h3 : fk b = 3
          · exact ⟨b, fprod_Sqrt_same hb (.inr ⟨h3, hs⟩), ref12_Sqrt_same hb (.inr ⟨h3, hs⟩)⟩
          · have hz : pm b ≠ 0 := fun k => h0 ((fk_eq b).2.2.2.1.2 ⟨fk_fin h4 h3, k⟩)
            have hp := pm_range b
            obtain ⟨w, hw⟩ := IsSq_ex (show 0 < pm b by omega) (pe b)
            exact ⟨w, fprod_Sqrt_c hb h4 h3 h0 hs hw, ref12_Sqrt_c hb h4 h3 h0 hs hw⟩
        · exact ⟨NAN, fprod_Sqrt_no hb (.inr ⟨h0, hs⟩), ref12_Sqrt_no hb (.inr ⟨h0, hs⟩)⟩
  obtain ⟨w, h1, h2⟩ := key
  exact Ev.bind h1 (Ev.bind h2 (Ev.ifp rfl (Ev.bind law12_same_c (Ev.same rfl))))
end Go.Proofs.Ytbpggonjcnakgaa.Pure
