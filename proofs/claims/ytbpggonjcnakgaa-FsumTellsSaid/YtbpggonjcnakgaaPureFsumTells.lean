/- Any sum and any difference of doubles is the exact one, rounded once. -/
import Derived.Test.YtbpggonjcnakgaaS11
import Derived.Test.YtbpggonjcnakgaaFgradinelaw11FsumTells
namespace Go.Proofs.Ytbpggonjcnakgaa.Pure
open Go.RowKit Go.Proofs.Ytbpggonjcnakgaa.P Go.Proofs.Ytbpggonjcnakgaa.M Go.Proofs.YtbpggonjcnakgaaW.PrintWords Go.Proofs.YtbpggonjcnakgaaW.PrintLast Go.Proofs.YtbpggonjcnakgaaW.PrintMore

theorem FsumTells : gradinelaw11_FsumTells.Pure := by
  intro a b ha hb
  have ha : U a := wf_u64 ha
  have hb : U b := wf_u64 hb
  refine Ev.rounds ?_
  refine Ev.bind (fsum_Add_c ha hb) (Ev.bind (ref11_Add_c ha hb) (Ev.ifp rfl ?_))
  refine Ev.bind (fsum_Sub_c ha hb) (Ev.bind (ref11_Sub_c ha hb) (Ev.ifp rfl ?_))
  exact Ev.bind law11_same_c (Ev.same rfl)
end Go.Proofs.Ytbpggonjcnakgaa.Pure
