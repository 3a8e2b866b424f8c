/- Which double is just any number times any power of two, or that none is. -/
import Derived.Test.YtbpggonjcnakgaaS09
import Derived.Test.YtbpggonjcnakgaaFgradinelaw09FbitsMakes
namespace Go.Proofs.Ytbpggonjcnakgaa.Pure
open Go.RowKit Go.Proofs.Ytbpggonjcnakgaa.P Go.Proofs.Ytbpggonjcnakgaa.M Go.Proofs.YtbpggonjcnakgaaW.PrintWords Go.Proofs.YtbpggonjcnakgaaW.PrintLast Go.Proofs.YtbpggonjcnakgaaW.PrintMore

theorem FbitsMakes : gradinelaw09_FbitsMakes.Pure := by
  intro neg m e hm he
  have hm := wf_u64 hm
  have he := wf_i64 he
  refine Ev.rounds ?_
  refine Ev.bind (fbits_Make_c neg hm he.1 he.2) (Ev.bind (ref09_Make_c neg hm) ?_)
  refine Ev.ifp rfl (Ev.ifp (by simp) ?_)
  refine Ev.bindc fbits_Nan_c (Ev.bindc ref09_Nan_c (Ev.ifp rfl ?_))
  refine Ev.bindc (fbits_Inf_c neg) (Ev.bindc (ref09_Inf_c neg) (Ev.ifp rfl ?_))
  exact Ev.bind law09_same_c (Ev.same rfl)
end Go.Proofs.Ytbpggonjcnakgaa.Pure
