/- The whole number that is nearest to any double. -/
import Derived.Test.YtbpggonjcnakgaaS13
import Derived.Test.YtbpggonjcnakgaaC13r
import Derived.Test.YtbpggonjcnakgaaFgradinelaw13FcmpNear
namespace Go.Proofs.Ytbpggonjcnakgaa.Pure
open Go.RowKit Go.Proofs.Ytbpggonjcnakgaa.P Go.Proofs.Ytbpggonjcnakgaa.M Go.Proofs.YtbpggonjcnakgaaW.PrintWords Go.Proofs.YtbpggonjcnakgaaW.PrintLast Go.Proofs.YtbpggonjcnakgaaW.PrintMore

theorem FcmpNear : gradinelaw13_FcmpNear.Pure := by
  intro b hb
  have hb : U b := wf_u64 hb
  refine Ev.rounds ?_
  exact Ev.bind (fcmp_Near_c hb) (Ev.bind (ref13_Near_c hb) (Ev.ifp rfl (Ev.ifp (by simp) (Ev.bind law13_same_c (Ev.same rfl)))))
end Go.Proofs.Ytbpggonjcnakgaa.Pure
