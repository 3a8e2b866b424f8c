/- gradinelaw16_EvalsFloat comes to what its text says. -/
import Derived.Test.YtjocbnjpjihpnaaGreatAAa
import Derived.Test.YtjocbnjpjihpnaaGreatWWc
import Derived.Test.YtjocbnjpjihpnaaGreatFgradinelaw16EvalsFloat
import Derived.Test.YtjocbnjpjihpnaaGreatAAb
namespace Go.Proofs.YtjocbnjpjihpnaaGreat.A
open Go.RowKit Go.Proofs.YtjocbnjpjihpnaaGreat.P Go.Proofs.YtjocbnjpjihpnaaGreatW.PrintWords Go.Proofs.YtjocbnjpjihpnaaGreatW.PrintLast Go.Proofs.YtjocbnjpjihpnaaGreatW.PrintMore Go.Proofs.YtjocbnjpjihpnaaGreatW.Abs
set_option linter.unusedVariables false
set_option linter.unusedSimpArgs false
attribute [local irreducible] gradinelaw16_same.f gradinelaw15_Many.f evals_Float.f gr16_Float.f gradineplain_Words.f
def s_gradinelaw16_EvalsFloat:FSpec:=⟨[(.row 93 (.cons (.int .i64) (.cons (.int .i64) (.cons (.int .i64) (.cons .bool (.cons (.row 73 (.int .u64)) (.row 73 (.int .u64)))))))),(.row 73 (.int .u64))],[.bool],fun k x=>(gradinelaw16_EvalsFloat.f k x.1 x.2.1).map fun r=>(r,())⟩
def m_gradinelaw16_EvalsFloat (r:Bool):TT s_gradinelaw16_EvalsFloat.rs:=(r,())
@[reducible] def q0_gradinelaw16_EvalsFloat:List Slot:= []
def g0_gradinelaw16_EvalsFloat (k:Nat) (x:TS q0_gradinelaw16_EvalsFloat):Option (Bool):=gradinelaw16_EvalsFloat.j2 k 
def c_gradinelaw16_EvalsFloat:Cuts (TT s_gradinelaw16_EvalsFloat.rs):=⟨⟨54,54,[]⟩,lookC [],lookC [(2,⟨q0_gradinelaw16_EvalsFloat,fun k x=>(g0_gradinelaw16_EvalsFloat k x).map m_gradinelaw16_EvalsFloat⟩)],lookC []⟩
set_option maxRecDepth 100000 in
set_option maxHeartbeats 4000000 in
theorem o_gradinelaw16_EvalsFloat:FOk Tryz.prog 7 s_gradinelaw16_EvalsFloat :=
 fn_of (Bt:=blook []) (l:= [(29, .pu s_gradinelaw16_same),(31, .pu s_gradinelaw15_Many),(32, .pu s_evals_Float),(33, .pu s_gr16_Float),(34, .pu s_gradineplain_Words)]) (C:=c_gradinelaw16_EvalsFloat) (by kernel_rfl) tab_ok ⟨o_gradinelaw16_same,o_gradinelaw15_Many,o_evals_Float,o_gr16_Float,o_gradineplain_Words,trivial⟩ (fn:=Tryz.f7) (by kernel_rfl) rfl (by kernel_rfl) (by decide) (by kernel_rfl) (F:=fun k x=>gradinelaw16_EvalsFloat.f k x.1 x.2.1) (m:=m_gradinelaw16_EvalsFloat) (fun k x=>rfl)
  (by
   refine And.intro ?_ ?_
   ·refine ob_join1 (sl:=q0_gradinelaw16_EvalsFloat) (F:=g0_gradinelaw16_EvalsFloat) (fun x=>rfl) fun k _=> ?_
    show LeT m_gradinelaw16_EvalsFloat (gradinelaw16_EvalsFloat.j2 (k+1)) _
    rw [gradinelaw16_EvalsFloat.j2];exact go
   exact trivial)
  (fun k ⟨(a0:List (Int × Int × Int × Bool × (List Int) × List Int)),(a1:List Int),_⟩=>by show LeT m_gradinelaw16_EvalsFloat (gradinelaw16_EvalsFloat.f k a0 a1) _;unfold gradinelaw16_EvalsFloat.f;exact go)
end Go.Proofs.YtjocbnjpjihpnaaGreat.A
