/- A power of e is never below 0, and none of none alone; a logarithm is below 0 just of what is below 1. -/
import Derived.Test.YtjocbnjpjihpnaaFgradinelaw14same
import Derived.Test.YtjocbnjpjihpnaaCC
import Derived.Test.YtjocbnjpjihpnaaFgradinelaw14KernelSigns
namespace Go.Proofs.Ytjocbnjpjihpnaa.Pure
open Go.RowKit Go.Proofs.Ytjocbnjpjihpnaa.P Go.Proofs.Ytjocbnjpjihpnaa.M Go.Proofs.YtjocbnjpjihpnaaW.PrintWords Go.Proofs.YtjocbnjpjihpnaaW.PrintLast Go.Proofs.YtjocbnjpjihpnaaW.PrintMore
set_option linter.unusedVariables false

theorem logS_U (f k:Int):U (flogS f k):=by
 unfold flogS
 split
 · exact ly_U f
 · exact fadd_U (fmul_U _ _) (fadd_U (ly_U f) (fmul_U _ _))
theorem log_U {x:Int} (h:U x):U (flog x):=by
 unfold flog
 split
 · exact sgnINF_U true
 · split
   · exact NAN_U
   · split
     · exact h
     · exact logS_U _ _
theorem exp_U (x:Int):U (fexp x):=by
 unfold fexp
 split
 · exact NAN_U
 · split
   · unfold U INF;omega
   · split
     · unfold U;omega
     · exact fscale_U (hexp_U _ _ (fpart_U _)) _
def KernelSignsS:Prop:= ∀ (x:Int),(Lit.int .u64 x).wf=true→ ∃ k,gradinelaw14_KernelSigns.f k x=some true
theorem KernelSigns:KernelSignsS:=fun x h=>by
 have h:U x:=wf_u64 h
 have out:Ev (fun k=>(gradinelaw14_same.f k).bind fun z=>some z) true:=Ev.bind law14_same_c (Ev.same rfl)
 obtain ⟨e1,e2⟩:=fexp_signs h
 have U0:U 0:=by unfold U;omega
 have U1:U 4607182418800017408:=by unfold U;omega
 have none:Ev (fun k=>gradinelaw14_KernelSigns.j0 k x (fk x==4)) true:=by
  refine Ev.bind (kernel_Log_c h) ?_
  by_cases h4:fk x=4
  · refine Ev.ifp (beq_iff_eq.2 h4) (Ev.bindc (ref09_Kind_c (log_U h)) (Ev.ifp (flog_none h (.inl h4)) out))
  refine Ev.ifn (fun k=>h4 (beq_iff_eq.1 k)) (Ev.bind (ref13_Less_c' h U0) ?_)
  cases hl:less x 0
  · obtain ⟨l1,l2,l3⟩:=flog_signs h h4 hl
    refine Ev.ifn (by decide) (Ev.bindc (ref09_Kind_c (log_U h)) (Ev.ifn l1 (Ev.bindc (ref09_Neg_c (log_U h)) (Ev.bind (ref13_Less_c' h U1) (Ev.ifp l2 (Ev.bindc (ref09_Kind_c (log_U h)) (Ev.ifp ?_ out)))))))
    rw [Bool.eq_iff_iff,beq_iff_eq,beq_iff_eq]
    exact l3
  · exact Ev.ifp rfl (Ev.bindc (ref09_Kind_c (log_U h)) (Ev.ifp (flog_none h (.inr hl)) out))
 have:Ev (fun k=>gradinelaw14_KernelSigns.f k x) true:=by
  refine Ev.bindc (ref09_Kind_c h) (Ev.bind (kernel_Exp_c h) (Ev.bindc (ref09_Kind_c (exp_U x)) (Ev.ifp ?_ (Ev.bindc (ref09_Neg_c (exp_U x)) (Ev.ifn (by rw [e2];decide) none)))))
  rw [Bool.eq_iff_iff,beq_iff_eq,beq_iff_eq]
  exact e1.symm
 exact Ev.rounds this
end Go.Proofs.Ytjocbnjpjihpnaa.Pure
