/- gradinelaw08_PowerTells comes to what its text says. -/
import Derived.Test.YtldcgclbgbhffaaAA
import Derived.Test.YtldcgclbgbhffaaWWb
import Derived.Test.YtldcgclbgbhffaaFgradinelaw08PowerTells
namespace Go.Proofs.Ytldcgclbgbhffaa.A
open Go.RowKit Go.Proofs.Ytldcgclbgbhffaa.P Go.Proofs.YtldcgclbgbhffaaW.PrintWords Go.Proofs.YtldcgclbgbhffaaW.PrintLast Go.Proofs.YtldcgclbgbhffaaW.PrintMore Go.Proofs.YtldcgclbgbhffaaW.Abs
set_option linter.unusedVariables false
set_option linter.unusedSimpArgs false
attribute [local irreducible] gradineref07_Same.f gradinelaw08_right.f gradinelaw08_same.f gradineref08_Pow.f power_Bits.f gradineref08_Bits.f power_Abs.f gradineref08_Abs.f power_Floor.f gradineref08_Floor.f
def s_gradinelaw08_PowerTells : FSpec := ⟨[(.cons .bool (.cons (.row 22 (.int .u64)) (.row 22 (.int .u64)))), .int .i64], [.bool], fun k x => (gradinelaw08_PowerTells.f k x.1.1 x.1.2.1 x.1.2.2 x.2.1).map fun r => (r, ())⟩
def m_gradinelaw08_PowerTells (r : Bool) : TT s_gradinelaw08_PowerTells.rs := (r, ())
set_option maxRecDepth 100000 in
set_option maxHeartbeats 4000000 in
theorem o_gradinelaw08_PowerTells : FOk Try.prog 30 s_gradinelaw08_PowerTells :=
 fn_of (Bt := blook [(5, [0, 0, 3, 7, 15, 15, 63, 127, 255, 511, 1023, 2047, 1023, 8191, 16383, 32767]), (7, [0, 1, 0, 7, 15, 31, 63, 127, 63, 511, 1023, 2047, 4095, 8191, 16383, 32767])]) (l := [(100, s_gradineref07_Same), (124, s_gradinelaw08_right), (125, s_gradinelaw08_same), (130, s_power_Pow), (131, s_gradineref08_Pow), (132, s_power_Bits), (133, s_gradineref08_Bits), (134, s_power_Abs), (135, s_gradineref08_Abs), (136, s_power_Floor), (137, s_gradineref08_Floor)]) (C := noCuts) (by kernel_rfl) tab_ok ⟨o_gradineref07_Same, o_gradinelaw08_right, o_gradinelaw08_same, o_power_Pow, o_gradineref08_Pow, o_power_Bits, o_gradineref08_Bits, o_power_Abs, o_gradineref08_Abs, o_power_Floor, o_gradineref08_Floor, trivial⟩ (fn := Try.f30) (by kernel_rfl) rfl (by kernel_rfl) (by decide) (by kernel_rfl) (F := fun k x => gradinelaw08_PowerTells.f k x.1.1 x.1.2.1 x.1.2.2 x.2.1) (m := m_gradinelaw08_PowerTells) (fun k x => rfl)
  (by exact trivial)
  (fun k ⟨(a0 : Bool × List Int × List Int), (a1 : Int), _⟩ => by show LeT m_gradinelaw08_PowerTells (gradinelaw08_PowerTells.f k a0.1 a0.2.1 a0.2.2 a1) _; unfold gradinelaw08_PowerTells.f; unfold gradinelaw08_PowerTells.j0; exact goq)
end Go.Proofs.Ytldcgclbgbhffaa.A
