/- gradinelaw17_TangentTells comes to what its text says. -/
import Derived.Test.YtjocbnjpjihpnaaGreatAAa
import Derived.Test.YtjocbnjpjihpnaaGreatWWc
import Derived.Test.YtjocbnjpjihpnaaGreatFgradinelaw17TangentTells
import Derived.Test.YtjocbnjpjihpnaaGreatAAb
namespace Go.Proofs.YtjocbnjpjihpnaaGreat.A
open Go.RowKit Go.Proofs.YtjocbnjpjihpnaaGreat.P Go.Proofs.YtjocbnjpjihpnaaGreatW.PrintWords Go.Proofs.YtjocbnjpjihpnaaGreatW.PrintLast Go.Proofs.YtjocbnjpjihpnaaGreatW.PrintMore Go.Proofs.YtjocbnjpjihpnaaGreatW.Abs
set_option linter.unusedVariables false
set_option linter.unusedSimpArgs false
attribute [local irreducible] gradinelaw17_few.f gradinelaw17_same.f tangent_Of.f gradineref17_Of.f gradineref16_Same.f
def s_gradinelaw17_TangentTells:FSpec:=⟨[(.cons (.row 93 (.cons (.int .i64) (.cons (.int .i64) (.cons (.int .i64) (.cons .bool (.cons (.row 73 (.int .u64)) (.row 73 (.int .u64)))))))) (.cons (.row 45 (.cons .bool (.cons (.row 73 (.int .u64)) (.row 73 (.int .u64))))) (.cons (.row 45 (.cons .bool (.cons (.row 73 (.int .u64)) (.row 73 (.int .u64))))) (.row 45 (.cons .bool (.cons (.row 73 (.int .u64)) (.row 73 (.int .u64))))))))],[.bool],fun k x=>(gradinelaw17_TangentTells.f k x.1.1 x.1.2.1 x.1.2.2.1 x.1.2.2.2).map fun r=>(r,())⟩
def m_gradinelaw17_TangentTells (r:Bool):TT s_gradinelaw17_TangentTells.rs:=(r,())
set_option maxRecDepth 100000 in
set_option maxHeartbeats 4000000 in
theorem o_gradinelaw17_TangentTells:FOk Tryz.prog 3 s_gradinelaw17_TangentTells :=
 fn_of (Bt:=blook []) (l:= [(12, .pu s_gradinelaw17_few),(13, .pu s_gradinelaw17_same),(14, .pu s_tangent_Of),(15, .pu s_gradineref17_Of),(16, .pu s_gradineref16_Same)]) (C:=noCuts) (by kernel_rfl) tab_ok ⟨o_gradinelaw17_few,o_gradinelaw17_same,o_tangent_Of,o_gradineref17_Of,o_gradineref16_Same,trivial⟩ (fn:=Tryz.f3) (by kernel_rfl) rfl (by kernel_rfl) (by decide) (by kernel_rfl) (F:=fun k x=>gradinelaw17_TangentTells.f k x.1.1 x.1.2.1 x.1.2.2.1 x.1.2.2.2) (m:=m_gradinelaw17_TangentTells) (fun k x=>rfl)
  (by exact trivial)
  (fun k ⟨(a0:(List (Int × Int × Int × Bool × (List Int) × List Int)) × (List (Bool × (List Int) × List Int)) × (List (Bool × (List Int) × List Int)) × List (Bool × (List Int) × List Int)),_⟩=>by show LeT m_gradinelaw17_TangentTells (gradinelaw17_TangentTells.f k a0.1 a0.2.1 a0.2.2.1 a0.2.2.2) _;unfold gradinelaw17_TangentTells.f;exact go)
end Go.Proofs.YtjocbnjpjihpnaaGreat.A
