/- Sums can be taken either way round; the opposites' sum is the opposite, but where it is 0. -/
import Derived.Test.YtbpggonjcnakgaaS11
import Derived.Test.YtbpggonjcnakgaaFgradinelaw11FsumTurns
namespace Go.Proofs.Ytbpggonjcnakgaa.Pure
open Go.RowKit Go.Proofs.Ytbpggonjcnakgaa.P Go.Proofs.Ytbpggonjcnakgaa.M Go.Proofs.YtbpggonjcnakgaaW.PrintWords Go.Proofs.YtbpggonjcnakgaaW.PrintLast Go.Proofs.YtbpggonjcnakgaaW.PrintMore

theorem FsumTurns : gradinelaw11_FsumTurns.Pure := by
  intro a b ha hb
  have ha : U a := wf_u64 ha
  have hb : U b := wf_u64 hb
  refine Ev.rounds ?_
  refine Ev.bind (fsum_Add_c ha hb) (Ev.bind (fsum_Add_c hb ha) (Ev.ifp (fadd_comm a b) ?_))
  refine Ev.bindc (ref09_Flip_c ha) (Ev.bindc (ref09_Flip_c hb) (Ev.bind (fsum_Add_c (fl_U a) (fl_U b)) ?_))
  refine Ev.bindc (ref09_Flip_c (fadd_U ha hb)) ?_
  by_cases h : fadd (fl a) (fl b) = fl (fadd a b)
  · exact Ev.ifp h (Ev.bind law11_same_c (Ev.same rfl))
  · refine Ev.ifn h ?_
    have h2 := (fadd_flip ha hb).resolve_left h
    refine Ev.bindc (ref09_Kind_c (fadd_U ha hb)) (Ev.ifp h2.1 ?_)
    refine Ev.bindc (ref09_Kind_c (fadd_U (fl_U a) (fl_U b))) (Ev.ifp h2.2 ?_)
    exact Ev.bind law11_same_c (Ev.same rfl)
end Go.Proofs.Ytbpggonjcnakgaa.Pure
