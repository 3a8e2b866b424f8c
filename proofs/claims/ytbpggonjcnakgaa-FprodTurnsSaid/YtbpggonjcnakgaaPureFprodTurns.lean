/- Products can be taken either way round; 1 times a double, and a double by 1, is it; the opposite's product is the opposite. -/
import Derived.Test.YtbpggonjcnakgaaS12
import Derived.Test.YtbpggonjcnakgaaFgradinelaw12FprodTurns
namespace Go.Proofs.Ytbpggonjcnakgaa.Pure
open Go.RowKit Go.Proofs.Ytbpggonjcnakgaa.P Go.Proofs.Ytbpggonjcnakgaa.M Go.Proofs.YtbpggonjcnakgaaW.PrintWords Go.Proofs.YtbpggonjcnakgaaW.PrintLast Go.Proofs.YtbpggonjcnakgaaW.PrintMore

theorem FprodTurns : gradinelaw12_FprodTurns.Pure := by
  intro a b ha hb
  have ha : U a := wf_u64 ha
  have hb : U b := wf_u64 hb
  have h1 : U 4607182418800017408 := by unfold U; omega
  refine Ev.rounds ?_
  refine Ev.bind (fprod_Mul_c ha hb) (Ev.bind (fprod_Mul_c hb ha) (Ev.ifp (fmul_comm a b) ?_))
  refine Ev.bind (fprod_Mul_c ha h1) (Ev.bindc (ref09_Clean_c ha) (Ev.ifp (fmul_one ha) ?_))
  refine Ev.bind (fprod_Div_c ha h1) (Ev.bindc (ref09_Clean_c ha) ?_)
  refine Ev.step (fun k => gradinelaw12_FprodTurns.j0.eq_2 ..) ?_
  refine Ev.ifn (by rw [fdiv_one ha]; simp) ?_
  refine Ev.bindc (ref09_Flip_c ha) (Ev.bind (fprod_Mul_c (fl_U a) hb) (Ev.bind (fprod_Mul_c ha hb) ?_))
  refine Ev.bindc (ref09_Flip_c (fmul_U a b)) (Ev.ifp (fmul_flip ha) ?_)
  exact Ev.bind law12_same_c (Ev.same rfl)
end Go.Proofs.Ytbpggonjcnakgaa.Pure
