/- gradinelaw16_EvalsExact comes to what its text says. -/
import Derived.Test.YtjocbnjpjihpnaaGreatAAa
import Derived.Test.YtjocbnjpjihpnaaGreatWWc
import Derived.Test.YtjocbnjpjihpnaaGreatFgradinelaw16EvalsExact
import Derived.Test.YtjocbnjpjihpnaaGreatAAb
import Derived.Test.YtjocbnjpjihpnaaGreatAgradinelaw16Few
namespace Go.Proofs.YtjocbnjpjihpnaaGreat.A
open Go.RowKit Go.Proofs.YtjocbnjpjihpnaaGreat.P Go.Proofs.YtjocbnjpjihpnaaGreatW.PrintWords Go.Proofs.YtjocbnjpjihpnaaGreatW.PrintLast Go.Proofs.YtjocbnjpjihpnaaGreatW.PrintMore Go.Proofs.YtjocbnjpjihpnaaGreatW.Abs
set_option linter.unusedVariables false
set_option linter.unusedSimpArgs false
attribute [local irreducible] gradineref16_Same.f gradineref16_Exact.f gradinelaw16_Few.f gradinelaw16_same.f evals_Exact.f
def s_gradinelaw16_EvalsExact:FSpec:=⟨[(.row 93 (.cons (.int .i64) (.cons (.int .i64) (.cons (.int .i64) (.cons .bool (.cons (.row 73 (.int .u64)) (.row 73 (.int .u64)))))))),(.row 45 (.cons .bool (.cons (.row 73 (.int .u64)) (.row 73 (.int .u64))))),(.row 45 (.cons .bool (.cons (.row 73 (.int .u64)) (.row 73 (.int .u64)))))],[.bool],fun k x=>(gradinelaw16_EvalsExact.f k x.1 x.2.1 x.2.2.1).map fun r=>(r,())⟩
def m_gradinelaw16_EvalsExact (r:Bool):TT s_gradinelaw16_EvalsExact.rs:=(r,())
set_option maxRecDepth 100000 in
set_option maxHeartbeats 4000000 in
theorem o_gradinelaw16_EvalsExact:FOk Tryz.prog 6 s_gradinelaw16_EvalsExact :=
 fn_of (Bt:=blook []) (l:= [(16, .pu s_gradineref16_Same),(20, .pu s_gradineref16_Exact),(28, .pu s_gradinelaw16_Few),(29, .pu s_gradinelaw16_same),(30, .pu s_evals_Exact)]) (C:=noCuts) (by kernel_rfl) tab_ok ⟨o_gradineref16_Same,o_gradineref16_Exact,o_gradinelaw16_Few,o_gradinelaw16_same,o_evals_Exact,trivial⟩ (fn:=Tryz.f6) (by kernel_rfl) rfl (by kernel_rfl) (by decide) (by kernel_rfl) (F:=fun k x=>gradinelaw16_EvalsExact.f k x.1 x.2.1 x.2.2.1) (m:=m_gradinelaw16_EvalsExact) (fun k x=>rfl)
  (by exact trivial)
  (fun k ⟨(a0:List (Int × Int × Int × Bool × (List Int) × List Int)),(a1:List (Bool × (List Int) × List Int)),(a2:List (Bool × (List Int) × List Int)),_⟩=>by show LeT m_gradinelaw16_EvalsExact (gradinelaw16_EvalsExact.f k a0 a1 a2) _;unfold gradinelaw16_EvalsExact.f;exact go)
end Go.Proofs.YtjocbnjpjihpnaaGreat.A
