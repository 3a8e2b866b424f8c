/- Any double times any power of two, rounded once. -/
import Derived.Test.YtbpggonjcnakgaaS13
import Derived.Test.YtbpggonjcnakgaaC13r
import Derived.Test.YtbpggonjcnakgaaFgradinelaw13FcmpScales
namespace Go.Proofs.Ytbpggonjcnakgaa.Pure
open Go.RowKit Go.Proofs.Ytbpggonjcnakgaa.P Go.Proofs.Ytbpggonjcnakgaa.M Go.Proofs.YtbpggonjcnakgaaW.PrintWords Go.Proofs.YtbpggonjcnakgaaW.PrintLast Go.Proofs.YtbpggonjcnakgaaW.PrintMore

theorem FcmpScales : gradinelaw13_FcmpScales.Pure := by
  intro b k hb hk
  have hb : U b := wf_u64 hb
  refine Ev.rounds ?_
  exact Ev.bind (fcmp_Scale_c hb) (Ev.bind (ref13_Scale_c hb) (Ev.ifp rfl (Ev.bind law13_same_c (Ev.same rfl))))
end Go.Proofs.Ytbpggonjcnakgaa.Pure
