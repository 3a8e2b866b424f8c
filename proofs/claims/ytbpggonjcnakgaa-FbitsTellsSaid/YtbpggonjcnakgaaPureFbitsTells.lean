/- Any double's kind, sign, number and exponent, and what it is made clean, and turned. -/
import Derived.Test.YtbpggonjcnakgaaS09
import Derived.Test.YtbpggonjcnakgaaFgradinelaw09FbitsTells
namespace Go.Proofs.Ytbpggonjcnakgaa.Pure
open Go.RowKit Go.Proofs.Ytbpggonjcnakgaa.P Go.Proofs.Ytbpggonjcnakgaa.M Go.Proofs.YtbpggonjcnakgaaW.PrintWords Go.Proofs.YtbpggonjcnakgaaW.PrintLast Go.Proofs.YtbpggonjcnakgaaW.PrintMore

theorem FbitsTells : gradinelaw09_FbitsTells.Pure := by
  intro b hb
  have h : U b := wf_u64 hb
  refine Ev.rounds ?_
  have j1 : Ev (fun k => gradinelaw09_FbitsTells.j1 k b) true := by
    refine Ev.step (fun k => gradinelaw09_FbitsTells.j1.eq_2 ..) ?_
    refine Ev.bindc (fbits_Clean_c h) (Ev.bindc (ref09_Clean_c h) (Ev.ifp rfl ?_))
    refine Ev.bindc (fbits_Flip_c h) (Ev.bindc (ref09_Flip_c h) (Ev.ifp rfl ?_))
    exact Ev.bind law09_same_c (Ev.same rfl)
  refine Ev.bind (fbits_Parts_c h) ?_
  refine Ev.bindc (fbits_Kind_c h) (Ev.bindc (ref09_Kind_c h) (Ev.ifp rfl ?_))
  refine Ev.bindc (fbits_Neg_c h) (Ev.bindc (ref09_Neg_c h) (Ev.ifn (by simp) ?_))
  refine Ev.bindc (ref09_Finite_c h) ?_
  by_cases hx : fx b = 2047
  · rw [if_pos hx, decide_eq_false (by omega)]
    refine Ev.step (fun k => gradinelaw09_FbitsTells.j0.eq_2 ..) ?_
    exact Ev.ifn (by decide) (Ev.ifn (by decide) (Ev.ifn (by decide) (Ev.ifp rfl (Ev.ifp rfl j1))))
  · rw [if_neg hx, decide_eq_true hx]
    refine Ev.step (fun k => gradinelaw09_FbitsTells.j0.eq_2 ..) ?_
    refine Ev.ifn (by simp) (Ev.ifp rfl ?_)
    refine Ev.bindc (ref09_Parts_c h) (Ev.bindc (ref09_Neg_c h) ?_)
    exact Ev.ifn (by simp) (Ev.ifp rfl (Ev.ifp rfl j1))
end Go.Proofs.Ytbpggonjcnakgaa.Pure
