/- Any product of two words, any quotient of two words by one, and how many bits any word has: as limb answers it and as its reference does, for all words. -/
import Derived.Test.YtldcgclbgbhffaaS01
import Derived.Test.YtldcgclbgbhffaaFgradinelaw01LimbProducts
namespace Go.Proofs.Ytldcgclbgbhffaa.Pure
open Go.RowKit Go.Proofs.Ytldcgclbgbhffaa.P Go.Proofs.Ytldcgclbgbhffaa.M Go.Proofs.YtldcgclbgbhffaaW.PrintWords Go.Proofs.YtldcgclbgbhffaaW.PrintLast Go.Proofs.YtldcgclbgbhffaaW.PrintMore

theorem LimbProducts : gradinelaw01_LimbProducts.Pure := by
  intro a b d ha hb hd
  have ha := wf_u64 ha
  have hb := wf_u64 hb
  have hd := wf_u64 hd
  refine Ev.rounds ?_
  refine Ev.bindc (limb_Mul_c ha hb) (Ev.bind (ref01_Mul_c ha hb) ?_)
  have fin : Ev (fun k => (limb_Len.f k a).bind fun t125 => ((gradineref01_Len.f k a).bind fun t126 => (if t125 = t126 then ((gradinelaw01_same.f k).bind fun t127 => (some t127)) else (some false)))) true := by
    refine Ev.bind (limb_Len_c ha) (Ev.bind (ref01_Len_c ha) ?_)
    exact Ev.ifp rfl (Ev.bind law01_same_c (Ev.same rfl))
  by_cases h : a ≥ d
  · refine Ev.bind (limb_Div_no h) (Ev.bind (ref01_Div_no h) ?_)
    exact Ev.ifp rfl (Ev.ifp rfl (Ev.ifp rfl (Ev.ifp rfl (Ev.ifp rfl fin))))
  · refine Ev.bind (limb_Div_c ha.1 (by omega) hd.2 hb) (Ev.bind (ref01_Div_c ha.1 (by omega) hd.2 hb) ?_)
    exact Ev.ifp rfl (Ev.ifp rfl (Ev.ifp rfl (Ev.ifp rfl (Ev.ifp rfl fin))))
end Go.Proofs.Ytldcgclbgbhffaa.Pure
