/- The double that is nearest to any word times any power of two. -/
import Derived.Test.YtbpggonjcnakgaaS10
import Derived.Test.YtbpggonjcnakgaaC10r
import Derived.Test.YtbpggonjcnakgaaFgradinelaw10FroundWords
namespace Go.Proofs.Ytbpggonjcnakgaa.Pure
open Go.RowKit Go.Proofs.Ytbpggonjcnakgaa.P Go.Proofs.Ytbpggonjcnakgaa.M Go.Proofs.YtbpggonjcnakgaaW.PrintWords Go.Proofs.YtbpggonjcnakgaaW.PrintLast Go.Proofs.YtbpggonjcnakgaaW.PrintMore

theorem FroundWords : gradinelaw10_FroundWords.Pure := by
  intro neg m e hm he
  have hm : U m := wf_u64 hm
  refine Ev.rounds ?_
  refine Ev.bind (fround_Word_c neg hm) ?_
  have h := ref10_More_c neg (l := [m]) ⟨Ws_one hm, by simp⟩ (by simp) e false
  rw [nv_one] at h
  exact Ev.bind h (Ev.ifp rfl (Ev.bind law10_same_c (Ev.same rfl)))
end Go.Proofs.Ytbpggonjcnakgaa.Pure
