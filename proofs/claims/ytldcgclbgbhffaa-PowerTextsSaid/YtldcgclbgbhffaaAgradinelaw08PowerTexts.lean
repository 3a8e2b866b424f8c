/- gradinelaw08_PowerTexts comes to what its text says. -/
import Derived.Test.YtldcgclbgbhffaaAA
import Derived.Test.YtldcgclbgbhffaaWWb
import Derived.Test.YtldcgclbgbhffaaFgradinelaw08PowerTexts
namespace Go.Proofs.Ytldcgclbgbhffaa.A
open Go.RowKit Go.Proofs.Ytldcgclbgbhffaa.P Go.Proofs.YtldcgclbgbhffaaW.PrintWords Go.Proofs.YtldcgclbgbhffaaW.PrintLast Go.Proofs.YtldcgclbgbhffaaW.PrintMore Go.Proofs.YtldcgclbgbhffaaW.Abs
set_option linter.unusedVariables false
set_option linter.unusedSimpArgs false
attribute [local irreducible] gradineref07_Same.f gradinelaw08_right.f gradinelaw08_same.f power_Read.f gradineref08_Read.f power_Show.f gradineref08_Show.f
def s_gradinelaw08_PowerTexts : FSpec := ⟨[(.cons .bool (.cons (.row 22 (.int .u64)) (.row 22 (.int .u64)))), .str], [.bool], fun k x => (gradinelaw08_PowerTexts.f k x.1.1 x.1.2.1 x.1.2.2 x.2.1).map fun r => (r, ())⟩
def m_gradinelaw08_PowerTexts (r : Bool) : TT s_gradinelaw08_PowerTexts.rs := (r, ())
set_option maxRecDepth 100000 in
set_option maxHeartbeats 4000000 in
theorem o_gradinelaw08_PowerTexts : FOk Try.prog 29 s_gradinelaw08_PowerTexts :=
 fn_of (Bt := blook [(5, [0, 1, 0, 7, 15, 31, 63, 63, 255, 511, 1023, 2047, 2047, 8191, 16383, 32767, 65535, 131071, 262143])]) (l := [(100, s_gradineref07_Same), (124, s_gradinelaw08_right), (125, s_gradinelaw08_same), (126, s_power_Read), (127, s_gradineref08_Read), (128, s_power_Show), (129, s_gradineref08_Show)]) (C := noCuts) (by kernel_rfl) tab_ok ⟨o_gradineref07_Same, o_gradinelaw08_right, o_gradinelaw08_same, o_power_Read, o_gradineref08_Read, o_power_Show, o_gradineref08_Show, trivial⟩ (fn := Try.f29) (by kernel_rfl) rfl (by kernel_rfl) (by decide) (by kernel_rfl) (F := fun k x => gradinelaw08_PowerTexts.f k x.1.1 x.1.2.1 x.1.2.2 x.2.1) (m := m_gradinelaw08_PowerTexts) (fun k x => rfl)
  (by exact trivial)
  (fun k ⟨(a0 : Bool × List Int × List Int), (a1 : ByteArray), _⟩ => by show LeT m_gradinelaw08_PowerTexts (gradinelaw08_PowerTexts.f k a0.1 a0.2.1 a0.2.2 a1) _; unfold gradinelaw08_PowerTexts.f; unfold gradinelaw08_PowerTexts.j0; exact goq)
end Go.Proofs.Ytldcgclbgbhffaa.A
