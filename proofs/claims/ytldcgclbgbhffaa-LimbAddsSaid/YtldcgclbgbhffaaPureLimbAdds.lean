/- Any sum and any difference of three words is, as limb answers it, what its reference answers, for all words. -/
import Derived.Test.YtldcgclbgbhffaaS01
import Derived.Test.YtldcgclbgbhffaaFgradinelaw01LimbAdds
namespace Go.Proofs.Ytldcgclbgbhffaa.Pure
open Go.RowKit Go.Proofs.Ytldcgclbgbhffaa.P Go.Proofs.Ytldcgclbgbhffaa.M Go.Proofs.YtldcgclbgbhffaaW.PrintWords Go.Proofs.YtldcgclbgbhffaaW.PrintLast Go.Proofs.YtldcgclbgbhffaaW.PrintMore

theorem LimbAdds : gradinelaw01_LimbAdds.Pure := by
  intro a b c ha hb hc
  refine Ev.rounds ?_
  refine Ev.bindc (limb_Add_c (wf_u64 ha) (wf_u64 hb) (wf_u64 hc)) (Ev.bindc (ref01_Add_c (wf_u64 ha) (wf_u64 hb) (wf_u64 hc)) ?_)
  refine Ev.bindc (limb_Sub_c (wf_u64 ha) (wf_u64 hb) (wf_u64 hc)) (Ev.bindc (ref01_Sub_c (wf_u64 ha) (wf_u64 hb) (wf_u64 hc)) ?_)
  refine Ev.ifp rfl (Ev.ifp rfl (Ev.ifp rfl (Ev.ifp rfl ?_)))
  exact Ev.bind law01_same_c (Ev.same rfl)
end Go.Proofs.Ytldcgclbgbhffaa.Pure
