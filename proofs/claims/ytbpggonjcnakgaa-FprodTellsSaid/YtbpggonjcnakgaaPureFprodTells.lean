/- Any product and any quotient of doubles is the exact one, rounded once. -/
import Derived.Test.YtbpggonjcnakgaaS12
import Derived.Test.YtbpggonjcnakgaaC12r
import Derived.Test.YtbpggonjcnakgaaFgradinelaw12FprodTells
namespace Go.Proofs.Ytbpggonjcnakgaa.Pure
open Go.RowKit Go.Proofs.Ytbpggonjcnakgaa.P Go.Proofs.Ytbpggonjcnakgaa.M Go.Proofs.YtbpggonjcnakgaaW.PrintWords Go.Proofs.YtbpggonjcnakgaaW.PrintLast Go.Proofs.YtbpggonjcnakgaaW.PrintMore

theorem FprodTells : gradinelaw12_FprodTells.Pure := by
  intro a b ha hb
  have ha : U a := wf_u64 ha
  have hb : U b := wf_u64 hb
  refine Ev.rounds ?_
  refine Ev.bind (fprod_Mul_c ha hb) (Ev.bind (ref12_Mul_c ha hb) (Ev.ifp rfl ?_))
  refine Ev.bind (fprod_Div_c ha hb) (Ev.bind (ref12_Div_c ha hb) (Ev.ifp rfl ?_))
  exact Ev.bind law12_same_c (Ev.same rfl)
end Go.Proofs.Ytbpggonjcnakgaa.Pure
