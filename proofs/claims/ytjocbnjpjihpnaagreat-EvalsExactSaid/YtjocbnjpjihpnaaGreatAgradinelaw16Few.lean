/- gradinelaw16_Few comes to what its text says. -/
import Derived.Test.YtjocbnjpjihpnaaGreatAAa
import Derived.Test.YtjocbnjpjihpnaaGreatWWc
import Derived.Test.YtjocbnjpjihpnaaGreatFgradinelaw16Few
import Derived.Test.YtjocbnjpjihpnaaGreatAAb
import Derived.Test.YtjocbnjpjihpnaaGreatAgradinelaw15Many
namespace Go.Proofs.YtjocbnjpjihpnaaGreat.A
open Go.RowKit Go.Proofs.YtjocbnjpjihpnaaGreat.P Go.Proofs.YtjocbnjpjihpnaaGreatW.PrintWords Go.Proofs.YtjocbnjpjihpnaaGreatW.PrintLast Go.Proofs.YtjocbnjpjihpnaaGreatW.PrintMore Go.Proofs.YtjocbnjpjihpnaaGreatW.Abs
set_option linter.unusedVariables false
set_option linter.unusedSimpArgs false
attribute [local irreducible] gradineplain_Longer.f gradinelaw15_Many.f
def s_gradinelaw16_Few:FSpec:=⟨[(.row 93 (.cons (.int .i64) (.cons (.int .i64) (.cons (.int .i64) (.cons .bool (.cons (.row 73 (.int .u64)) (.row 73 (.int .u64)))))))),(.row 45 (.cons .bool (.cons (.row 73 (.int .u64)) (.row 73 (.int .u64))))),(.row 45 (.cons .bool (.cons (.row 73 (.int .u64)) (.row 73 (.int .u64)))))],[.bool],fun k x=>(gradinelaw16_Few.f k x.1 x.2.1 x.2.2.1).map fun r=>(r,())⟩
def m_gradinelaw16_Few (r:Bool):TT s_gradinelaw16_Few.rs:=(r,())
set_option maxRecDepth 100000 in
set_option maxHeartbeats 4000000 in
theorem o_gradinelaw16_Few:FOk Tryz.prog 28 s_gradinelaw16_Few :=
 fn_of (Bt:=blook []) (l:= [(17, .pu s_gradineplain_Longer),(31, .pu s_gradinelaw15_Many)]) (C:=noCuts) (by kernel_rfl) tab_ok ⟨o_gradineplain_Longer,o_gradinelaw15_Many,trivial⟩ (fn:=Tryz.f28) (by kernel_rfl) rfl (by kernel_rfl) (by decide) (by kernel_rfl) (F:=fun k x=>gradinelaw16_Few.f k x.1 x.2.1 x.2.2.1) (m:=m_gradinelaw16_Few) (fun k x=>rfl)
  (by exact trivial)
  (fun k ⟨(a0:List (Int × Int × Int × Bool × (List Int) × List Int)),(a1:List (Bool × (List Int) × List Int)),(a2:List (Bool × (List Int) × List Int)),_⟩=>by show LeT m_gradinelaw16_Few (gradinelaw16_Few.f k a0 a1 a2) _;unfold gradinelaw16_Few.f;exact go)
end Go.Proofs.YtjocbnjpjihpnaaGreat.A
